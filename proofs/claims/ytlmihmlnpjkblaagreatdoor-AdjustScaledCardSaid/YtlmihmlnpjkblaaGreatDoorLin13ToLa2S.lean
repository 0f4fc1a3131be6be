/- Part of the proof of a statement about an adjustment. -/
import Derived.Test.YtlmihmlnpjkblaaGreatDoorLin6ToLin10S
set_option linter.all false
namespace Go.Proofs.YtlmihmlnpjkblaaGreatDoor
variable {lo n C D lo2 b1 b2 l0' l1' n0 n1 c0 c1 i b k j a f h ny CY nb CB:Nat}{H G:Nat->Value}{A B A0 A1 Y:Option Addr}{w W:World}
section
set_option maxRecDepth 100000
open Go Go.Eng Go.RowKit Tryz
attribute [local irreducible] wpListIn Code.wpIn Oper.wpIn Exit.then Exit.inBlock Exit.noGoto
set_option maxHeartbeats 40000000
def FC {m:Nat}{L K:Rows}{v:Value}(h:vM n L=true/\vM m K=true/\(L 0).length=m)(ho:nI lo w n (AS n (K 0).length L K) v):nI lo w n (dw n L m K) v:=by unfold dw;rw[if_pos h];exact ho
def DD {m:Nat}{L K:Rows}(h:¬(vM n L=true/\vM m K=true/\(L 0).length=m)):nI lo w n (dw n L m K) (.tuple #[.slice none 0 0,.int .i64 130]):=by unfold dw;rw[if_neg h];rfl
def lN (n:Nat)(L:Rows):Option R:=(elim n n n L).bind (oG n)
section
variable {L:Rows}{s:El}{d:R}
def Hk (h:elim n n n L=none):lN n L=none:=by unfold lN;rw[h];rfl
def Hl (h:elim n n n L=some s)(hp:s.piv.length<n):lN n L=some z0:=by unfold lN;rw[h];show oG n s=_;unfold oG;rw[if_pos hp]
def Pk (h:elim n n n L=some s)(hp:¬s.piv.length<n)(hq:ir s.piv s.piv.length 0 o1=none):lN n L=none:=by unfold lN;rw[h];show oG n s=_;unfold oG;rw[if_neg hp,hq];rfl
def Pm (h:elim n n n L=some s)(hp:¬s.piv.length<n)(hq:ir s.piv s.piv.length 0 o1=some d)(hs:¬s.sw%2=1):lN n L=some d:=by unfold lN;rw[h];show oG n s=_;unfold oG;rw[if_neg hp,hq];simp only[Option.map_some];rw[if_neg hs]
def Pn (h:elim n n n L=some s)(hp:¬s.piv.length<n)(hq:ir s.piv s.piv.length 0 o1=some d)(hs:s.sw%2=1):lN n L=some (sq d):=by unfold lN;rw[h];show oG n s=_;unfold oG;rw[if_neg hp,hq];simp only[Option.map_some];rw[if_pos hs]
def UB (h:q7 n L=true):KF (lN n L)=KF (kX n L):=by unfold kX;rw[if_pos h];rfl
end
set_option maxHeartbeats 2000000 in
def FD {L:Rows}(hM:Mt w lo A n H L){m:Nat}{K:Rows}(hN:Mt w lo2 B m G K)(hb1:ar w b1 27 #[.slice A n C])(hb2:ar w b2 27 #[.slice B m D])(hv:VM n L)(hu:VM m K)(hLm:(L 0).length=m)(ht:Tb w):
 CL 72 #[pT b1,pT b2] w (ji PN w (AS n (K 0).length L K) (λK' v w'=>dM w.heap.size w' v n K')):=by
 refine iZ func72 Z (I ?_);rcases cm:AS n (K 0).length L K with _|cw;refine I ?_;refine aa (jv (v:=.agg #[]) mD Z Z ?_);refine I ?_;refine aa (dQ (vs:=[.slice A n C,.iface 106 (.agg #[]),.slice B m D]) V1 Z (ae0 cm (xa (hM.ext (aa3 _)) (hN.ext (aa3 _)) hv hu hLm (ht.ext (aa3 _)))) (λ_ Af=>?_));have A2:=Af;refine I ?_;exact gC ⟨A2,(by first|exact cm|rfl),rfl⟩;refine I ?_;refine aa (jv (v:=.agg #[]) mD Z Z ?_);refine I ?_;refine cl V1 (ad7 cm (xa (hM.ext (aa3 _)) (hN.ext (aa3 _)) hv hu hLm (ht.ext (aa3 _)))) ?_;rintro E _ O Ab;have Am:=O.2;refine aa (aK (v:=E) Z ?_);refine I ?_;exact mK (v:=E) (ci Z (aM (t:=2) RM _)) ⟨Am,cw,(by first|assumption|rfl),dM.mono U Ab⟩
def Po {L:Rows}(hM:Mt w lo A n H L)(hB:Bd n L){m:Nat}{K:Rows}(hN:Mt w lo2 B m G K)(hB2:Bd m K)(ht:Tb w):
 CL 28 #[.slice A n C,.slice B m D] w (aH w λv w'=>nI w.heap.size w' n (dw n L m K) v):=by
 refine aD func28 Z (I ?_);refine bx (λA2 B2 O=>?_);have E:=B2.2;refine bx (λ_ E4 Ab=>?_);have⟨O,E⟩:=bo E4.2 O E;refine I ?_;rcases qa4 (vM n L)with cw|cw;have hv:=gO cw;have EW:=hv.1;have E9:=hv.2.1;rcases qa4 (vM m K)with cv|cv;have hu:=gO cv;refine bQ 15 ?_;refine sf ?_;refine aX (V:=.bool (vM n L)) (λ_ _ Ar _=>?_) ?_;refine cl tw (val_ok (hM.ext (xt E Ar)) hB (ht.ext (xt E Ar))) ?_;rintro _ _ B0 rfl;have E0:=B0.2;refine I ?_;exact fs ⟨E0,rfl⟩;refine sf ?_;refine aX (V:=.bool (vM m K)) (λ_ _ Am _=>?_) ?_;refine I ?_;refine cl tw (val_ok (hN.ext (xt E Am)) hB2 (ht.ext (xt E Am))) ?_;rintro _ _ Ay rfl;have E7:=Ay.2;refine I ?_;exact fs ⟨E7,rfl⟩;refine sf ?_;refine aA (λ_ _ E1 _=>by have E5:=aa8 (hM.ext (xt E E1)) (i:=0) U;refine I ?_;refine fM E5 ?_ (i:=0);refine I ?_;exact aE) ?_;refine aA (λ_ _ nm _=>by have ES:=aa8 (hM.ext (xt E nm)) (i:=0) U;refine I ?_;exact aE) ?_;refine sf ?_;intro _ _ D2 _;have⟨O,Ab,E⟩:=ca D2.2 O Ab E;with_reducible refine iA Z ?_
 refine I ?_;by_cases aoo:(((L 0).length:Nat):Int)=(m:Int);refine I ?_;rcases fy:AS n (K 0).length L K with _|aq7;refine I ?_;refine aa (aC (vf:=[]) (vc:=[pT w.heap.size,pT A2.heap.size]) Z Z ?_);refine clb VZ (hc:=FB (lb:=[pT w.heap.size,pT A2.heap.size]) (n:=n) V0 (λW hE=>FD ((hM.ext E).ext hE) ((hN.ext E).ext hE) (O.ext hE) (Ab.ext hE) hv hu U (ht.ext (xt E hE)))) (hk:=?_);rintro _ _ Az Aq;have E:=xt E Az.2;rw[fy]at Aq;subst Aq;refine I ?_;exact bA (t:=4) (u:=5) (v1:=.slice none 0 0) (v2:=.int .i64 130) Z E (FC ⟨cw,cv,by omega⟩ (by rw[fy];exact Z)) Z Z;refine I ?_;refine aa (aC (vf:=[]) (vc:=[pT w.heap.size,pT A2.heap.size]) Z Z ?_);refine clb VZ (hc:=FB (lb:=[pT w.heap.size,pT A2.heap.size]) (n:=n) V0 (λW hE=>FD ((hM.ext E).ext hE) ((hN.ext E).ext hE) (O.ext hE) (Ab.ext hE) hv hu U (ht.ext (xt E hE)))) (hk:=?_);rintro _ _ CG Ap;have E:=xt E CG.2;rw[fy]at Ap;obtain⟨Af,rfl,D1⟩:=Ap;refine I ?_;refine aa (aK (v:=Af) Z ?_);refine I ?_;exact bA (t:=4) (u:=5) (v1:=Af) (v2:=.int .i64 0) Z E (FC ⟨cw,cv,by omega⟩ (by rw[fy];exact⟨_,rfl,dM.mono U D1⟩)) Z Z
 refine I ?_;exact bA (t:=4) (u:=5) (v1:=.slice none 0 0) (v2:=.int .i64 130) Z E (DD kc6) rfl rfl;refine bQ 15 ?_;refine sf ?_;refine aX (V:=.bool (vM n L)) (λ_ _ Av _=>?_) ?_;refine cl tw (val_ok (hM.ext (xt E Av)) hB (ht.ext (xt E Av))) ?_;rintro _ _ ny rfl;have C0:=ny.2;refine I ?_;exact fs ⟨C0,rfl⟩;refine sf ?_;refine aX (V:=.bool (vM m K)) (λ_ _ Ao _=>?_) ?_;refine I ?_;refine cl tw (val_ok (hN.ext (xt E Ao)) hB2 (ht.ext (xt E Ao))) ?_;rintro _ _ od rfl;have Aw:=od.2;refine I ?_;exact fs ⟨Aw,rfl⟩;refine sf ?_;intro _ _ Cr _;have E:=xt E Cr.2;(with_reducible refine iA Z ?_);refine I ?_;exact bA (t:=4) (u:=5) (v1:=.slice none 0 0) (v2:=.int .i64 130) Z E (DD kc6) rfl rfl;refine bQ 15 ?_;refine sf ?_;refine aX (V:=.bool (vM n L)) (λ_ _ As _=>?_) ?_;refine cl tw (val_ok (hM.ext (xt E As)) hB (ht.ext (xt E As))) ?_;rintro _ _ B1 rfl;have E6:=B1.2;refine I ?_;exact fs ⟨E6,rfl⟩;refine sf ?_;intro _ _ Ax _;have E:=xt E Ax.2;(with_reducible refine iA Z ?_);refine I ?_;exact bA (t:=4) (u:=5) (v1:=.slice none 0 0) (v2:=.int .i64 130) Z E (DD kc6) Z Z
set_option maxHeartbeats 2000000 in
def FE {L:Rows}(hM:Mt w lo A n H L)(hv:VM n L)(hn0:n=(L 0).length)(ht:Tb w):
 CL 176 #[.slice A n C,.iface 106 (.agg #[])] w (ji PN w (lN n L) (λd v _=>v=.agg #[S d.1,S d.2])):=by
 have Az:=hv.ok;have P2:=hv.1;have Lk:=hv.2.1;rw[<-hn0]at Az;have E0:=aa3 w;refine iZ func176 Z (I ?_);refine al aU (λB2 KM E=>?_);have E0:=xt E0 KM.2;refine I ?_;rcases lr:elim n n n L with _|cx;refine I ?_;refine aa (dQ (vs:=[.slice A n C,.iface 106 (.agg #[]),.int .i64 n]) Nw Z (ae0 lr (sY (Mt.mono (qa7 _) (hM.ext E0)) Az U U U U (ht.ext E0))) (λ_ La=>?_));have E0:=xt E0 La;refine I ?_;exact gC ⟨E0,(Hk lr),rfl⟩;refine I ?_;refine clb Nw (hc:=ad7 lr (sY (Mt.mono (qa7 _) (hM.ext E0)) Az U U U U (ht.ext E0))) (hk:=?_);rintro _ B1 KY FR;have⟨E,E0⟩:=bo KY.2 E E0;obtain⟨E4,L3,E6,CG,Kp,Cr,K2,rfl,_,EW,L2,KC⟩:=v8.get FR;have Am:=ab2 EW;have Ab:=ab5 L2;have Af:=ab5 KC;have No:=mX Az U lr;refine al o4 (λ_ Ar GC=>?_);have E:=be Ar.2 E;have Am:=aa4 Ar.2 Am;have Ab:=aa9 Ar.2 Ab;have Af:=aa9 Ar.2 Af;have E0:=xt E0 Ar.2;refine SA GC (λ_ Ap O=>?_);have E:=pb Ap E;have Am:=ad0 Ap U Am;have Ab:=ab8 Ap U Ab
 have Af:=ab8 Ap U Af;have E0:=bi Ap E0;have P1:=gJ Ap;refine I ?_;by_cases ao3:((cx.piv.length:Nat):Int)<(n:Int);refine I ?_;refine aa (C5 (t:=106) (v:=.agg #[]) (vs:=[]) Ca kV mD Z Z Z (lJ _) ?_);rintro _ _ wr rfl;have⟨E,O,E0⟩:=ca wr.2 E O E0;refine SA E (λ_ C0 Ix=>?_);have O:=pb C0 O;have E0:=bi C0 E0;refine I ?_;refine mK (v:=.agg #[S ((z0).1),S ((z0).2)]) (ci Z ?_) ⟨E0,_,Hl lr U,rfl⟩;refine ai (t:=4) (cs:=[S ((z0).1),S ((z0).2)]) (b:=w.heap.size) (o:=0) iW Z b8 ?_ ?_;exact Z;exact aa0 Ix (i:=0) Z;refine I ?_;refine aa (C5 (t:=106) (v:=.agg #[]) (vs:=[]) QY Fl mD Z Z Z (Kd _) ?_);rintro _ ES Aw rfl;have E:=be Aw.2 E;have Am:=aa4 Aw.2 Am;have Ab:=aa9 Aw.2 Ab;have Af:=aa9 Aw.2 Af;have⟨O,E0⟩:=bo Aw.2 O E0;refine al aU (λ_ Ay H4=>?_);have E:=be Ay.2 E;have Am:=aa4 Ay.2 Am;have Ab:=aa9 Ay.2 Ab;have Af:=aa9 Ay.2 Af;have⟨O,E0⟩:=bo Ay.2 O E0;refine SA H4 (λG0 Av Ao=>?_);have E:=pb Av E;have Am:=ad0 Av U Am;have Ab:=ab8 Av U Ab;have Af:=ab8 Av U Af;have⟨O,E0,_⟩:=j3 Av O E0;refine I ?_
 refine b7 [(8,8),(27,35)] (λK3 e W=>∃i:Nat,∃d:R,(cx.piv.length-i=K3)/\(e 27=.int .i64 i)/\(i<=cx.piv.length)/\(bN d=true)/\(ir cx.piv (cx.piv.length-i) i d=ir cx.piv cx.piv.length 0 o1)/\(G0.heap.size<=W.heap.size)/\(aO w W)/\(ar W w.heap.size 33 #[S [],S []])/\(nB W B2.heap.size B1.heap.size E4 n E6 cx.L)/\(mj W B2.heap.size B1.heap.size CG (ag cx.piv))/\(mj W B2.heap.size B1.heap.size Cr (ints cx.cols))/\(ar W B1.heap.size 103 #[.slice E4 n L3,.slice CG cx.piv.length Kp,.slice Cr cx.cols.length K2,.bool (decide (cx.sw%2=1))])/\(ar W ES.heap.size 33 #[S d.1,S d.2])) (cx.piv.length-0) ⟨0,o1,rfl,rfl,(qa7 _),YK,rfl,(qa0 _),E0,E,Am,Ab,Af,O,Ao⟩ ?_;rintro _ _ _ ⟨i,d,rfl,P0,hi_i,hd,hP,N0,A2,E,Am,Ab,Af,O,Ao⟩;have Ne:=bz A2;by_cases hl_i:i<cx.piv.length;have Li:=bD (Ab).rw (k:=(i)) U;refine I ?_;refine li Li (I ?_);refine al aU (λ_ As L1=>?_);have E:=be As.2 E;have Am:=aa4 As.2 Am;have Ab:=aa9 As.2 Ab;have Af:=aa9 As.2 Af;have⟨O,Ao,A2⟩:=ca As.2 O Ao A2;refine SA L1 (λ_ Aq B0=>?_);have E:=pb Aq E;have Am:=ad0 Aq U Am;have Ab:=ab8 Aq U Ab;have Af:=ab8 Aq U Af;have⟨O,Ao,A2,_⟩:=Re Aq O Ao A2;refine I ?_;rcases aoq:fe d (ao cx.piv i)with _|aoy;refine I ?_;refine aa (gT (t:=106) (v:=.agg #[]) (vs:=[.agg #[S d.1,S d.2],.agg #[S ((ao cx.piv i).1),S ((ao cx.piv i).2)]]) wv kj mD Z Z Z (ae0 aoq (qZ d (ao cx.piv i) _ (ht.ext A2))) (λ_ H2=>?_));have A2:=xt A2 H2;refine I ?_;exact gC ⟨A2,(Pk lr U (Dz hl_i hP aoq)),rfl⟩;refine I ?_;refine aa (C5 (t:=106) (v:=.agg #[]) (vs:=[.agg #[S d.1,S d.2],.agg #[S ((ao cx.piv i).1),S ((ao cx.piv i).2)]]) wv kj mD Z Z Z (ad7 aoq (qZ d (ao cx.piv i) _ (ht.ext A2))) ?_);rintro _ _ nm rfl;have E:=be nm.2 E;have Am:=aa4 nm.2 Am;have Ab:=aa9 nm.2 Ab;have Af:=aa9 nm.2 Af;have⟨O,Ao,B0,A2⟩:=fw nm.2 O Ao B0 A2;refine SA Ao (λ_ Ax Lj=>?_);have E:=pb Ax E;have Am:=ad0 Ax U Am;have Ab:=ab8 Ax U Ab;have Af:=ab8 Ax U Af;have⟨O,B0,A2,_⟩:=Re Ax O B0 A2;refine I ?_;refine fO ?_
 refine I ?_;exact bF ⟨i+1,aoy,rfl,rfl,U,(Fe aoq),(Dy hl_i hP aoq),U,A2,E,Am,Ab,Af,O,Lj⟩;have hP2:=Ha hl_i hP;refine I ?_;by_cases aos:cx.sw%2=1;refine I ?_;refine bQ 7 ?_;refine sf ?_;refine aX (V:=.agg #[S ((z0).1),S ((z0).2)]) (λ_ _ _ _=>?_) ?_;refine aa (C5 (t:=106) (v:=.agg #[]) (vs:=[]) Ca kV mD Z Z Z (lJ _) ?_);rintro _ _ ny rfl;have E7:=ny.2;refine I ?_;exact fs ⟨E7,rfl⟩;refine sf ?_;refine aA (λ_ _ _ _=>by refine aa (aC (vf:=[.iface 106 (.agg #[])]) (vc:=[]) Z Z ?_);refine I ?_;exact aE) ?_;refine aA (λ_ _ _ _=>by refine aa (qJ (t:=106) (v:=.agg #[]) pP mD Z Z ?_);refine I ?_;exact aE) ?_;refine sf ?_;intro _ _ od _;have⟨E,O,Ao,A2⟩:=fw od.2 E O Ao A2;refine aa (C5 (t:=106) (v:=.agg #[]) (vs:=[.agg #[S ((z0).1),S ((z0).2)],.agg #[S d.1,S d.2]]) Iy pP mD Z Z Z (ad7 (q8 hd) (Do z0 d _ (ht.ext A2))) ?_);rintro _ _ L4 rfl;have⟨E,O,Ao,A2⟩:=fw L4.2 E O Ao A2;refine SA Ao (λ_ E5 D2=>?_);have⟨E,O⟩:=js E5 E O;have A2:=bi E5 A2;refine I ?_;refine SA E (λ_ E1 H3=>?_);have⟨O,D2⟩:=js E1 O D2;have A2:=bi E1 A2;refine I ?_;refine mK (v:=.agg #[S ((sq d).1),S ((sq d).2)]) (ci Z ?_) ⟨A2,_,Pn lr U hP2 aos,rfl⟩
 refine ai (t:=4) (cs:=[S ((sq d).1),S ((sq d).2)]) (b:=w.heap.size) (o:=0) iW Z b8 ?_ ?_;exact Z;exact aa0 H3 (i:=0) Z;refine I ?_;refine SA E (λ_ D1 E9=>?_);have⟨O,Ao⟩:=js D1 O Ao;have A2:=bi D1 A2;refine I ?_;refine mK (v:=.agg #[S d.1,S d.2]) (ci Z ?_) ⟨A2,_,Pm lr U hP2 aos,rfl⟩;refine ai (t:=4) (cs:=[S d.1,S d.2]) (b:=w.heap.size) (o:=0) iW Z b8 ?_ ?_;exact Z;exact aa0 E9 (i:=0) Z
set_option maxHeartbeats 2000000 in
def Pp {L:Rows}(hM:Mt w lo A n H L)(hv:VM n L)(hn0:n=(L 0).length)(hb1:ar w b1 27 #[.slice A n C])(ht:Tb w):
 CL 175 #[pT b1] w (ji PN w (lN n L) (λd v _=>v=.agg #[S d.1,S d.2])):=by
 have Ap:=bt hb1;refine iZ func175 Z (I ?_);refine al aU (λ_ Ab O=>?_);have hb1:=be Ab.2 hb1;have E:=Ab.2;refine I ?_;rcases cv:lN n L with _|cm;refine I ?_;refine aa (jv (v:=.agg #[]) mD Z Z ?_);refine aa (dQ (vs:=[.slice A n C,.iface 106 (.agg #[])]) VT Z (ae0 cv (FE (hM.ext E) hv hn0 (ht.ext E))) (λ_ Ao=>?_));have E:=xt E Ao;refine I ?_;exact gC ⟨E,(by first|exact cv|rfl),rfl⟩;refine I ?_;refine aa (jv (v:=.agg #[]) mD Z Z ?_);refine cl VT (ad7 cv (FE (hM.ext E) hv hn0 (ht.ext E))) ?_;rintro _ _ Am rfl;have⟨hb1,O,E⟩:=ca Am.2 hb1 O E;refine SA O (λ_ A2 Af=>?_);have hb1:=pb A2 hb1;have E:=bi A2 E;refine I ?_;refine mK (v:=.agg #[S ((cm).1),S ((cm).2)]) (ci Z ?_) ⟨E,cm,(by first|exact cv|rfl),rfl⟩;refine ai (t:=1) (cs:=[S ((cm).1),S ((cm).2)]) (b:=w.heap.size) (o:=0) iW Z b8 ?_ ?_;exact Z;exact aa0 Af (i:=0) Z
def FF {L:Rows}(hM:Mt w lo A n H L)(hB:Bd n L)(ht:Tb w):
 CL 133 #[.slice A n C] w (aH w λv w'=>v=KF (kX n L)):=by
 refine aD func133 Z (I ?_);refine bx (λAm Ax O=>?_);have E:=Ax.2;refine al aU (λ_ Aw A2=>?_);have⟨O,E⟩:=bo Aw.2 O E;refine I ?_;refine cl Nx (Fu (hM.ext E) hB (ht.ext E)) ?_;rintro _ _ Av rfl;have⟨O,A2,E⟩:=ca Av.2 O A2 E;refine I ?_;rcases qa4 (Hb n L)with cw|cw;have Ab:q7 n L=true:=cw;have hv:=(md Ab).1;have Ap:=(md Ab).2;refine I ?_;refine aa (aC (vf:=[]) (vc:=[pT w.heap.size]) Z Z ?_);refine cl YX (O9 (lb:=[pT w.heap.size]) YY (λW hE=>Pp ((hM.ext E).ext hE) hv Ap (O.ext hE) (ht.ext (xt E hE)))) ?_;rintro _ _ Aq rfl;have⟨O,A2,E⟩:=ca Aq.2 O A2 E;refine I ?_;refine SA A2 (λ_ Ao Ar=>?_);have O:=pb Ao O;have E:=bi Ao E;refine I ?_;refine aW (v:=.tuple #[.agg #[S (rN (lN n L)),S (rD (lN n L))],.int .i64 (Vz (lN n L).isSome)]) (c8 (r1:=.cell 2 33) (r2:=.tmp 3) Z ?_ ?_) E (UB Ab);refine ai (t:=2) (cs:=[S (rN (lN n L)),S (rD (lN n L))]) (b:=Am.heap.size) (o:=0) iW Z b8 ?_ ?_;exact Z;exact aa0 Ar (i:=0) Z;exact aM (t:=3) RM _;refine I ?_;refine SA A2 (λ_ Af As=>?_);have O:=pb Af O
 have E:=bi Af E;refine I ?_;refine aW (v:=.tuple #[.agg #[S [],S []],.int .i64 130]) (c8 (r1:=.cell 2 33) (r2:=.tmp 3) Z ?_ ?_) E (UA ka5);refine ai (t:=2) (cs:=[S [],S []]) (b:=Am.heap.size) (o:=0) iW Z b8 ?_ ?_;exact Z;exact aa0 As (i:=0) Z;exact aM (t:=3) RM _
def rZ {α:Type}(a b:α)(i:Nat):α:=if i=0 then a else b
def Zr {l0 l1:List R}(h:W.ownsRow lo 28 1 (.slice A 2 2) 2 [.slice A0 n0 c0,.slice A1 n1 c1])(r0:Rw W l0' A0 (ag l0))(r1:Rw W l1' A1 (ag l1))(e0:l0.length=n0)(e1:l1.length=n1)(h0:n0<=c0)(h1:n1<=c1):
 Mt W 0 A 2 (rZ (.slice A0 n0 c0) (.slice A1 n1 c1)) (rZ l0 l1):=by
 subst e0 e1
 refine⟨(aa7 h).mono (qa7 _),λi hi=>?_,λi hi=>?_,λi hi=>?_⟩
 · unfold rZ;by_cases e:i=0
   · rw[if_pos e,if_pos e];rfl
   · rw[if_neg e,if_neg e];rfl
 · unfold rZ;by_cases e:i=0
   · rw[if_pos e,if_pos e];exact r0.mono (qa7 _)
   · rw[if_neg e,if_neg e];exact r1.mono (qa7 _)
 · unfold rZ;by_cases e:i=0
   · rw[if_pos e,if_pos e];exact h0
   · rw[if_neg e,if_neg e];exact h1
def Zs (l0 l1:List R):k5 (rZ l0 l1) 2=l0++l1:=by simp[k5,rZ]
def Wr.setRow {hi:Nat}{L:Rows}{r:Value}{l:List R}(h:Wr W lo hi n H L)(hr:W.ownsRow lo 33 2 r l.length (ag l))(hne:∀j,j<n->ay r (H j)):Wr W lo W.heap.size n (bO H i r) (bO L i l):=by
 refine⟨λj E=>?_,λj E g e=>?_,λj k E hk O=>?_⟩
 · by_cases e:j=i
   · subst e;rw[bj,bj];exact hr
   · rw[bm _ _ e,bm _ _ e];exact h.own j E
 · by_cases e':j=i
   · subst e';rw[bj]at e;exact dr hr g e
   · rw[bm _ _ e']at e;exact dr (h.own j E) g e
 · by_cases e:j=i
   · subst e;rw[bj,bm _ _ (Ne.symm O)];exact hne k hk
   · by_cases e2:k=i
     · subst e2;rw[bj,bm _ _ e];exact aa5 (hne j E)
     · rw[bm _ _ e,bm _ _ e2];exact h.ne j k E hk O
def K6 {r:Value}{cs:List Value}(h:∀j,j<n->(H j).ownBlock≠some b)(hr:W.ownsRow lo 33 2 r k cs)(hb:b<lo):∀j,j<n->(bO H i r j).ownBlock≠some b:=λj E e=>by
 by_cases e':j=i
 · subst e';rw[bj]at e;have:=aS hr b e;omega
 · rw[bm _ _ e']at e;exact h j E e
def Xz (hj:j<n):ao (uR i n) j=if i=j then o1 else z0:=by
 rw[eu (by rw[mW];exact hj)];simp[uR]
def XC (hj:j<n):ao (zs n) j=z0:=by
 rw[eu (by rw[lM];exact hj)];simp[zs]
def UC (hi:i<n):(zs n).set i o1=uR i n:=by
 refine nz (by rw[List.length_set,lM,mW]) λj E=>?_
 rw[List.length_set,lM]at E
 rw[pM (by rw[lM];exact hi),Xz E,XC E]
 by_cases e:j=i
 · rw[if_pos e,if_pos e.symm]
 · rw[if_neg e,if_neg (Ne.symm e)]
def Pq (hn:n<=1000):
 CL 172 #[.slice none 0 0,.int .i64 n] w (aH w λv w'=>World.ownsRow w' w.heap.size 33 2 v 0 (ag [])):=by
 refine aD func172 Z (I ?_);refine aa (RA (A:=none) (m:=0) (c:=0) vY Z ?_);refine I ?_;refine qk ?_;refine aa (jp (a:=(n:Int)) (b:=((0:Nat):Int)-((0:Nat):Int)) (c:=(n:Int)) Z Z L7 U ?_);refine I ?_;by_cases cm:0<(n:Int);refine I ?_;refine aa (RA (A:=none) (m:=0) (c:=0) vY Z ?_);refine aa (rr (A:=none) (m:=0) (c:=0) (j:=0) vY b8 Z Z (qa7 _) ?_);refine I ?_;refine aa (O2 (k:=n) Z Z Z U U (λ_ E O Ab=>?_));have A2:=O;refine I ?_;refine aa (rr (A:=some ⟨w.heap.size,0,none⟩) (m:=n) (c:=E) (j:=0) vY b8 Z Z (qa7 _) ?_);refine I ?_;exact am (t:=4) (v:=.slice (some ⟨w.heap.size,0,none⟩) 0 E) Z A2 (bM U Ab) Z;refine I ?_;exact am (t:=4) (v:=.slice none 0 0) Z (aa3 _) bK Z
def UD {L:Rows}(hM:Mt w lo A n H L)(hn:n<=16)(hb:∀i,i<n->(L i).length<=16):
 CL 126 #[.slice A n C] w (aH w λv w'=>World.ownsRow w' w.heap.size 33 2 v (k5 L n).length (ag (k5 L n))):=by
 refine aD func126 Z (I ?_);have B1:=aa3 w;refine b7 [(3,3),(5,5),(11,22)] (λAb e W=>∃i:Nat,(n-i=Ab)/\(e 11=.int .i64 i)/\(e 3=.int .i64 (((k5 L i).length:Nat):Int))/\(i<=n)/\((k5 L i).length<=16*i)/\(aO w W)) (n-0) ⟨0,rfl,rfl,rfl,(qa7 _),(qa7 _),B1⟩ ?_;rintro _ _ Ay ⟨i,rfl,CG,D2,Cr,E4,A2⟩;have E1:=bz A2;by_cases hli:i<n;have C0:=hb i hli;have Ar:(k5 L (i+1)).length=(k5 L i).length+(L i).length:=List.length_append;have B2:=aa8 (hM.ext A2) (i:=(i)) U;refine I ?_;refine fM B2 (I ?_);refine aa (cG (a:=(((k5 L i).length:Nat):Int)) (b:=(((L i).length:Nat):Int)) (c:=(((k5 L (i+1)).length:Nat):Int)) Z Z L7 (by rw[show(k5 L (i+1)).length=(k5 L i).length+(L i).length from List.length_append];omega) ?_);refine I ?_;refine fO (I ?_);exact bF ⟨i+1,rfl,rfl,rfl,U,U,A2⟩;have Aw:(k5 L i).length<=1000:=J
 refine I ?_;refine cl Wd (Pq Aw) ?_;rintro Am B0 Av As;have A2:=xt A2 Av.2;refine aa (aK (v:=Am) Z ?_);refine I ?_;refine b7 [(6,6),(8,8),(27,34)] (λAb e W=>∃j:Nat,∃E:Value,(n-j=Ab)/\(e 27=.int .i64 j)/\(e 6=E)/\(j<=n)/\((k5 L j).length<=16*j)/\(B0.heap.size<=W.heap.size)/\(aO w W)/\(W.ownsRow Ay.heap.size 33 2 E ((k5 L j).length) (ag (k5 L j)))) (n-0) ⟨0,Am,rfl,rfl,rfl,(qa7 _),(qa7 _),(qa0 _),A2,As⟩ ?_;rintro _ _ _ ⟨j,E,rfl,E6,Aq,D1,E0,od,O,Af⟩;have E5:=bz O;by_cases hlj:j<n;have C0:=hb j hlj;have Ar:(k5 L (j+1)).length=(k5 L j).length+(L j).length:=List.length_append;have Ax:=aa8 (hM.ext O) (i:=(j)) U;refine I ?_;refine fM Ax (I ?_);refine aa (aT (v:=E) Aq ?_);refine I ?_;refine aa (jI (v:=E) (k:=(k5 L j).length) (m:=(L j).length) (news:=ag (L j)) vY aU Z dc Z Af Z (Mt.row (hM.ext O) j U) (kaA _) oD CA U U (λAo _ Az Ap _=>?_));have O:=bu Af U U O Ap;have E7:=Ap.size;refine aa (aK (v:=Ao) Z ?_);refine I ?_;refine fO (I ?_);exact bF ⟨j+1,Ao,rfl,rfl,rfl,U,U,U,O,(aP Az Ar.symm (uQ _ _))⟩;refine I ?_;refine aa (aT (v:=E) Aq ?_);refine aa (aK (v:=E) Z ?_);refine I ?_
 exact am (t:=2) (v:=E) Z O (by have h:=Af;rw[show j=n by omega]at h;exact bM U h) Z
def Pr {l0 l1:List R}(h:w.ownsRow lo 28 1 (.slice A 2 2) 2 [.slice A0 n0 c0,.slice A1 n1 c1])(r0:Rw w l0' A0 (ag l0))(r1:Rw w l1' A1 (ag l1))(e0:l0.length=n0)(e1:l1.length=n1)(h0:n0<=c0)(h1:n1<=c1)(b0:n0<=16)(b1:n1<=16):
 CL 126 #[.slice A 2 2] w (aH w λv w'=>World.ownsRow w' w.heap.size 33 2 v (l0++l1).length (ag (l0++l1))):=by
 have hM:=Zr h r0 r1 e0 e1 h0 h1
 have:=UD (C:=2) hM dc (λi _=>by unfold rZ;split <;>omega)
 rwa [Zs]at this
def K7 {L:Rows}(hM:Mt w lo A n H L){m:Nat}{K:Rows}(hN:Mt w lo2 B m G K)(hn:0<n)(hn16:n<=16)(hm:n<=m)(hb:∀i,i<n->(L i).length<=16)(hc:∀i,i<n->(K i).length<=16):
 CL 68 #[.slice A n C,.slice B m D] w (aH w λv w'=>dM w.heap.size w' v n (λi=>L i++K i)):=by
 have E0:=aa3 w;refine aD func68 Z (I ?_);refine aa (my (m:=(n)) Nu jq Z Z U CA (λKY E6 _ D2=>?_));have E0:=xt E0 E6;obtain⟨cm,w6⟩:∃x,x=some (⟨w.heap.size,0,none⟩:Addr):=⟨_,rfl⟩;rw[<-w6]at D2;obtain⟨K3,Av,No,E9⟩:=nC D2 U;refine aa (aK (v:=.slice cm (n) (n)) (qb2 (λa=>Value.slice a n n) w6.symm) ?_);refine I ?_;refine b7 [(6,6),(12,28)] (λL1 e W=>∃i:Nat,∃H2:Nat->Value,∃K2:Rows,(n-i=L1)/\(e 12=.int .i64 i)/\(i<=n)/\(∀x,x<i->K2 x=L x++K x)/\(∀j,j<n->(H2 j).ownBlock≠some (bJ cm))/\(KY.heap.size<=W.heap.size)/\(aO w W)/\(Ho W cm n H2)/\(Wr W w.heap.size W.heap.size n H2 K2)) (n-0) ⟨0,(λ_=>.slice none 0 0),pS,rfl,rfl,(qa7 _),(λx hx=>by omega),E9,(qa0 _),E0,K3,(Wr.top No)⟩ ?_;rintro _ _ Af ⟨i,H2,K2,rfl,X2,WV,hK2,hnoH2,W3,E,hH2,wH2⟩;have W1:=bz E;by_cases hli:i<n;have Vm:=hb i hli;have P1:=hc i hli;refine I ?_;have As:=ac3 Af
 refine tX 12 (λls e W=>∃O:Nat,∃A2:Value,(aO w W)/\(Af.heap.size<=W.heap.size)/\(ls 10=true->e 25=.slice (some ⟨O,0,none⟩) 2 2)/\(ls 11=true->e 26=A2)/\(ls 10=true->Af.heap.size<=O/\O<W.heap.size)/\(Ho W cm n H2)/\(Wr W w.heap.size Af.heap.size n H2 K2)/\(ls 10=true->ls 11=false->(World.ownsRow W O 28 1 (.slice (some ⟨O,0,none⟩) 2 2) 2 [.slice (sA (H i)) ((L i).length) (sC (H i)),.slice (sA (G i)) ((K i).length) (sC (G i))]))/\(ls 11=true->(W.ownsRow Af.heap.size 33 2 A2 (((L i)++(K i)).length) (ag ((L i)++(K i)))))) ⟨0,.nilIface,(xt E As),(bz As),(ff Z),(ff Z),(ff Z),(ac1 As hH2),(aa1 As wH2),(λh _=>ff Z h),(λh=>ff Z h)⟩ ?_;refine sf ?_;refine b9 (λW0 T2 T3 _ E5 V2 _=>by obtain⟨_,_,E,_⟩:=E5;have FR:=aa8 (hM.ext E) (i:=(i)) U;refine I ?_;refine fM FR ?_;refine I ?_;exact aE) ?_;refine b9 (λRm S0 Q0 _ KC a2 _=>by obtain⟨_,_,E,_⟩:=KC;have a3:=aa8 (hM.ext E) (i:=(i)) U;refine I ?_;exact aE) ?_;refine sf ?_;refine b9 (λW2 Wa a0 _ G0 VW _=>by obtain⟨_,_,E,_⟩:=G0;have KM:=aa8 (hN.ext E) (i:=(i)) U;refine I ?_;refine fM KM ?_;refine I ?_;exact aE) ?_;refine b9 (λP2 P0 X0 _ ES S9 _=>by obtain⟨_,_,E,_⟩:=ES;have a4:=aa8 (hN.ext E) (i:=(i)) U;refine I ?_;exact aE) ?_
 refine fU (λ_ Li _ E7 EW N0 _=>?_) ?_;obtain⟨O,A2,E,D1,Ax,nm,Ap,Aq,Ao,B2,Az⟩:=E7;have ny:=Aq;have od:=Ao;refine TK (λ_ CG _ L3=>?_);have ny:=ac1 CG ny;have od:=aa1 CG od;have E:=xt E CG;refine I ?_;exact fs ⟨Li.heap.size,A2,E,U,(λ_=>rfl),nm,(λ_=>⟨by omega,by omega⟩),ny,od,(λ_ _=>L3),(λH3=>ff (bG EW (i:=10) (j:=11) Z N0) H3)⟩;refine fU (λ_ _ _ Lk _ E4 C0=>?_) ?_;obtain⟨O,A2,E,D1,Ax,nm,Ap,Aq,Ao,B2,Az⟩:=Lk;have Ix:=Ax (C0 10 Z);have L4:=Ap (C0 10 Z);have B1:=Aq;have B0:=Ao;have H4:=B2 (C0 10 Z) E4;refine clb Y9 (hc:=Pr H4 (Mt.row (hM.ext E) i U) (Mt.row (hN.ext E) i U) Z Z ((hM.ext E).cap i U) ((hN.ext E).cap i U) U U) (hk:=?_) (hv:=av Ix Z);rintro Lj _ Ar Ay;have Ar:=Ar.2;have Ay:=bM (lo':=Af.heap.size) U Ay;have B1:=ac1 Ar B1;have B0:=aa1 Ar B0;have E:=xt E Ar;refine I ?_;exact fs ⟨O,Lj,E,U,Ax,(λ_=>rfl),(λx=>by have:=Ap x;omega),B1,B0,(λ_ Kp=>tf Z Kp),(λ_=>Ay)⟩;refine sf ?_;rintro La _ _ wr ⟨O,A2,E,D1,Ax,nm,Ap,Aq,Ao,B2,Az⟩;have L4:=Ap (wr 10 Z);have Cr:=Aq;have Am:=Ao;have Ab:=Az (wr 11 Z);have Ne:=gP Cr Am (i:=(i)) U;refine I ?_;refine fM Ne ?_;have L2:La 26=A2:=(nm (wr 11 Z))
 refine aa (kU (i:=(i)) Cr U mf Z L2 (bP Ab) (λ_ Aw GC=>?_));have Am:=Wr.putOut Aw hnoH2 Am;have Ab:=aw Aw (λe=>by have:=aS Ab _ e;have:=Av;omega) Ab;have E:=ad5 Aw E (by have:=Av;omega);have a5:=gJ Aw;refine I ?_;refine fO (I ?_);have E1:=bM (lo':=w.heap.size) U Ab;refine I ?_;exact bF ⟨i+1,(bO H2 i A2),bO K2 i (L i++K i),rfl,rfl,U,(λx hx=>by by_cases e:x=i;rw[e,bj];rw[bm _ _ e];exact hK2 x U),(K6 hnoH2 Ab (by have:=Av;omega)),U,E,GC,(Wr.setRow Am E1 (Wr.far Am Ab U))⟩;refine I ?_;exact am (t:=4) (v:=.slice cm (n) (n)) Z E ⟨_,_,_,rfl,qa0 _,Mt.mono U ((Wr.mt wH2 (Ho.rw hH2 Av.1)).congr (λj _=>hK2 j U))⟩ Z
def Ps {L:Rows}(h:q7 n L=true)(h2:kn n L (L 0).length (λj=>mc L n j)):Kx n L:=λi hi k hk=>by
 obtain⟨hv,E⟩:=md h
 have:=h2.2 i hi
 rw[this,uP L i U]
def Pt {L:Rows}(h:q7 n L=true)(h2:Kx n L):kn n L (L 0).length (λj=>mc L n j):=by
 obtain⟨hv,E⟩:=md h
 refine⟨E,λi hi=>nz (by rw[pQ,(hv.ok i hi).1,<-E]) λj O=>?_⟩
 rw[(hv.ok i hi).1,<-E]at O
 show ao (L i) j=ao (mc L n i) j
 rw[uP L i O]
 rcases Nat.lt_trichotomy i j with h|h|h
 · exact(h2 j O i h).symm
 · subst h;rfl
 · exact h2 i hi j h
set_option maxRecDepth 100000 in
def FG (hn:1<=n)(hn16:n<=16):
 CL 69 #[.iface 106 (.agg #[]),.int .i64 n] w (aH w λv w'=>dM w.heap.size w' v n (λi=>uR i n)):=by
 have E0:=aa3 w;refine aD func69 Z (I ?_);refine aa (my (m:=(n)) Nu jq Z Z U CA (λE4 nm _ Ax=>?_));have E0:=xt E0 nm;obtain⟨cr,nq⟩:∃x,x=some (⟨w.heap.size,0,none⟩:Addr):=⟨_,rfl⟩;rw[<-nq]at Ax;obtain⟨wr,Ao,B2,E1⟩:=nC Ax U;refine aa (aK (v:=.slice cr (n) (n)) (qb2 (λa=>Value.slice a n n) nq.symm) ?_);refine I ?_;refine b7 [(6,6),(11,30)] (λB0 e W=>∃i:Nat,∃H2:Nat->Value,∃K2:Rows,(n-i=B0)/\(e 11=.int .i64 i)/\(i<=n)/\(∀x,x<i->K2 x=uR x n)/\(∀j,j<n->(H2 j).ownBlock≠some (bJ cr))/\(E4.heap.size<=W.heap.size)/\(aO w W)/\(Ho W cr n H2)/\(Wr W w.heap.size W.heap.size n H2 K2)) (n-0) ⟨0,(λ_=>.slice none 0 0),pS,rfl,rfl,(qa7 _),(λx hx=>by omega),E1,(qa0 _),E0,wr,(Wr.top B2)⟩ ?_;rintro _ _ _ ⟨i,H2,K2,rfl,ES,E9,hK2,hnoH2,G0,E,hH2,wH2⟩;have H3:=bz E;by_cases hli:i<n;refine I ?_;refine aa (C5 (t:=106) (v:=.agg #[]) (vs:=[]) Ca kV mD Z Z Z (lJ _) ?_);rintro _ _ As rfl;have hH2:=ac1 As.2 hH2;have wH2:=aa1 As.2 wH2;have E:=xt E As.2;refine BS (λAy Aq _ Az=>?_);have hH2:=ac1 Aq hH2;have wH2:=aa1 Aq wH2;have E:=xt E Aq;refine I ?_;refine clb Y6 (hc:=Uy (n:=(n)) (show Rw _ _ _ (ag [z0])from aa7 Az) U U) (hk:=?_);rintro CG _ Af Ab
 have Af:=Af.2;have Ab:=aP (bM (lo':=Ay.heap.size) U Ab) (lM n).symm Z;have hH2:=ac1 Af hH2;have wH2:=aa1 Af wH2;have E:=xt E Af;have E5:=gP hH2 wH2 (i:=(i)) U;refine I ?_;refine fM E5 ?_;refine aa (kU (i:=(i)) hH2 U mf Z Z (bP Ab) (λ_ Am O=>?_));have wH2:=Wr.putOut Am hnoH2 wH2;have Ab:=aw Am (λe=>by have:=aS Ab _ e;have:=Ao;omega) Ab;have E:=ad5 Am E kc7;have FR:=gJ Am;refine I ?_;have E6:=bM (lo':=w.heap.size) U Ab;have A2:=Wr.setRow (i:=i) wH2 E6 (Wr.far wH2 Ab U);have Av:=K6 (i:=i) hnoH2 Ab kc7;have EW:(bO K2 i (zs n) i).length=n:=by rw[bj,lM]
 refine I ?_;refine bQ 7 ?_;refine sf ?_;refine aA (λ_ _ od _=>by have O:=ac1 od O;have A2:=aa1 od A2;have D1:=gP O A2 (i:=(i)) U;refine I ?_;refine fM D1 ?_;refine I ?_;exact aE) ?_;refine aA (λ_ _ Aw _=>by have O:=ac1 Aw O;have A2:=aa1 Aw A2;have GC:=gP O A2 (i:=(i)) U;refine I ?_;exact aE) ?_;refine sf ?_;refine aX (V:=.agg #[S ((o1).1),S ((o1).2)]) (λ_ _ _ _=>?_) ?_;refine aa (C5 (t:=106) (v:=.agg #[]) (vs:=[]) QY Fl mD Z Z Z (Kd _) ?_);rintro _ _ C0 rfl;have E7:=C0.2;refine I ?_;exact fs ⟨E7,rfl⟩;refine sf ?_;intro _ _ Ap _;have O:=ac1 Ap.2 O;have A2:=aa1 Ap.2 A2;have E:=xt E Ap.2;have Cr:=Wr.elem A2 (i:=(i)) (k:=(i)) U U;refine I ?_;refine li Cr ?_;refine aa (mT (q:=o1) (i:=(i)) (k:=(i)) A2 U U b8 Z Z (λ_ Ar _ _ D2 B1=>?_));have O:=Ho.put Ar (λe=>Av i U (by rw[D2,e])) O;have E:=bi Ar E;have H4:=gJ Ar;refine I ?_;refine fO (I ?_);exact bF ⟨i+1,(bO H2 i CG),(bO (bO K2 i (zs n)) i (((bO K2 i (zs n)) i).set i o1)),rfl,rfl,U,(λx hx=>by by_cases e:x=i;rw[e,bj,bj];exact UC hli;rw[bm _ _ e,bm _ _ e];exact hK2 x U),Av,U,E,O,(Wr.top B1)⟩;refine I ?_
 exact am (t:=4) (v:=.slice cr (n) (n)) Z E ⟨_,_,_,rfl,qa0 _,Mt.mono U ((Wr.mt wH2 (Ho.rw hH2 Ao.1)).congr (λj _=>hK2 j U))⟩ Z
set_option maxHeartbeats 2000000 in
set_option maxRecDepth 100000 in
def s5 {L:Rows}(hM:Mt w lo A n H L)(hv:VM n L)(hb1:ar w b1 27 #[.slice A n C])(hb2:ar w b2 3 #[.int .i64 n])(hn0:n=(L 0).length)(ht:Tb w):
 CL 67 #[pT b1,pT b2] w (ji PN w (elim n (n+n) n (ij n L)) (λs v w'=>YL w.heap.size n w' s v)):=by
 have L4:=bt hb1;have La:=bt hb2;have Ao:=hv.ok;have Li:=hv.1;have L3:=hv.2.1;refine iZ func67 Z (I ?_);refine al o4 (λAb ny O=>?_);have⟨hb1,hb2⟩:=dN ny.2 hb1 hb2;have E:=ny.2;refine I ?_;rcases cx:elim n (n+n) n (ij n L)with _|cr;refine bQ 9 ?_;refine sf ?_;refine aA (λ_ _ _ _=>by refine aa (jv (v:=.agg #[]) mD Z Z ?_);refine I ?_;exact aE) ?_;refine sf ?_;refine bY (λv w=>dM Ab.heap.size w v n (λi=>uR i n)) (hs:=λ_ _ _ k h=>dM.ext k h) (λ_ _ Kp _=>?_) ?_;refine clb VY (hc:=FG U U) (hk:=?_);rintro _ _ E1 Ix;have H3:=E1.2;refine I ?_;exact fs ⟨H3,(dM.mono (by have:=bz Kp;omega) Ix)⟩;refine bY (λv w=>dM Ab.heap.size w v n (ij n L)) (hs:=λ_ _ _ k h=>dM.ext k h) (λ_ _ Ax B2=>?_) ?_;obtain⟨_,_,_,G0,_,B1⟩:=(B2 4 7 Z Z);refine clb VX (hc:=K7 (hM.ext (xt E Ax)) B1 U U (qa0 _) (λi hi=>by have:=(Ao i hi).1;omega) (λi hi=>by rw[mW];omega)) (hk:=?_) (hv:=av Z (av G0 Z));rintro _ _ D1 E6;have CG:=D1.2;refine I ?_;exact fs ⟨CG,(dM.mono (by have:=bz Ax;omega) E6)⟩;refine sf ?_;refine aA (λ_ _ _ _=>by refine aa (jv (v:=.agg #[]) mD Z Z ?_);refine I ?_;exact aE) ?_
 refine sf ?_;intro _ _ K3 H4;have E:=xt E K3.2;obtain⟨Az,FR,_,E9,_,C0⟩:=(H4 5 8 Z Z);have E0:=ab2 C0;refine aa (dQ (vs:=[.slice Az n FR,.iface 106 (.agg #[]),.int .i64 n]) Nw (av E9 (av Z (av Z Z))) (ae0 cx (sY (Mt.mono (qa7 _) (E0).mt) (show fH n (n+n) (ij n L)by have h:=lL hv;rwa [<-hn0]at h) U U U U (ht.ext E))) (λ_ Cr=>?_));have E:=xt E Cr;refine I ?_;exact gC ⟨E,(by first|exact cx|rfl),rfl⟩;refine bQ 9 ?_;refine sf ?_;refine aA (λ_ _ _ _=>by refine aa (jv (v:=.agg #[]) mD Z Z ?_);refine I ?_;exact aE) ?_;refine sf ?_;refine bY (λv w=>dM Ab.heap.size w v n (λi=>uR i n)) (hs:=λ_ _ _ k h=>dM.ext k h) (λ_ _ nm _=>?_) ?_;refine clb VY (hc:=FG U U) (hk:=?_);rintro _ _ K2 KM;have Ay:=K2.2;refine I ?_;exact fs ⟨Ay,(dM.mono (by have:=bz nm;omega) KM)⟩;refine bY (λv w=>dM Ab.heap.size w v n (ij n L)) (hs:=λ_ _ _ k h=>dM.ext k h) (λ_ _ As E7=>?_) ?_;obtain⟨_,_,_,L2,_,E5⟩:=(E7 4 7 Z Z);refine clb VX (hc:=K7 (hM.ext (xt E As)) E5 U U (qa0 _) (λi hi=>by have:=(Ao i hi).1;omega) (λi hi=>by rw[mW];omega)) (hk:=?_) (hv:=av Z (av L2 Z));rintro _ _ D2 KY;have E4:=D2.2;refine I ?_
 exact fs ⟨E4,(dM.mono (by have:=bz As;omega) KY)⟩;refine sf ?_;refine aA (λ_ _ _ _=>by refine aa (jv (v:=.agg #[]) mD Z Z ?_);refine I ?_;exact aE) ?_;refine sf ?_;intro _ _ EW KC;have⟨hb1,hb2,O,E⟩:=fw EW.2 hb1 hb2 O E;obtain⟨_,_,_,ES,_,B0⟩:=(KC 5 8 Z Z);have H2:=ab2 B0;refine clb Nw (hc:=ad7 cx (sY (Mt.mono (qa7 _) (H2).mt) (show fH n (n+n) (ij n L)by have h:=lL hv;rwa [<-hn0]at h) U U U U (ht.ext E))) (hk:=?_) (hv:=av ES (av Z (av Z Z)));rintro _ _ L1 A2;have⟨hb1,hb2,O,E⟩:=fw L1.2 hb1 hb2 O E;obtain⟨Ap,Am,_,Aw,Av,Ar,Aq,rfl,_,_,_,_⟩:=v8.get A2;have Lj:=mX (show fH n (n+n) (ij n L)by have h:=lL hv;rwa [<-hn0]at h) U cx;refine SA O (λ_ Af GC=>?_);have⟨hb1,hb2⟩:=js Af hb1 hb2;have A2:=v8.put Af U A2;have E:=bi Af E;refine I ?_;refine mK (v:=.agg #[.slice Ap n Am,.slice Aw cr.piv.length Av,.slice Ar cr.cols.length Aq,.bool (decide (cr.sw%2=1))]) (ci Z ?_) ⟨E,cr,(by first|exact cx|rfl),v8.mono U A2⟩;refine ai (t:=2) (cs:=[.slice Ap n Am,.slice Aw cr.piv.length Av,.slice Ar cr.cols.length Aq,.bool (decide (cr.sw%2=1))]) (b:=w.heap.size) (o:=0) YG Z Gu ?_ ?_;exact Z;exact aa0 GC (i:=0) Z
def bR (b:List R):Rows:=λi=>[ao b i]
def AZ (s:El)(n:Nat):Rows:=λi=>(s.L i).drop n
def FH {L:Rows}(hM:Mt w lo A n H L)(hB:Bd n L)(ht:Tb w):
 CL 27 #[.slice A n C] w (aH w λv w'=>nI w.heap.size w' n (dJ n L) v):=by
 refine aD func27 Z (I ?_);refine bx (λ_ Lj E=>?_);have O:=Lj.2;refine I ?_;refine cl Nx (Fu (hM.ext O) hB (ht.ext O)) ?_;rintro _ B1 P1 rfl;have⟨E,O⟩:=bo P1.2 E O;refine I ?_;rcases qa4 (Hb n L)with wr|wr;have CG:q7 n L=true:=wr;have hv:=(md CG).1;have D2:=(md CG).2;have a5:=hv.1;have X0:=hv.2.1;have K3:=hv.ok;rw[<-D2]at K3;refine I ?_;refine al kI (λ_ L2 T3=>?_);have⟨E,O⟩:=bo L2.2 E O;refine SO T3 (λE4 Q0 A2=>?_);have⟨E,O,_⟩:=j3 Q0 E O;refine I ?_;rcases oq:elim n (n+n) n (ij n L)with _|cm;refine I ?_;refine aa (aC (vf:=[]) (vc:=[pT w.heap.size,pT B1.heap.size]) Z Z ?_);refine cl Ny (sZ (lb:=[pT w.heap.size,pT B1.heap.size]) (n:=n) Nz (λW hE=>s5 ((hM.ext O).ext hE) hv (E.ext hE) (A2.ext hE) D2 (ht.ext (xt O hE)))) ?_;rintro _ _ Ne E6;have⟨E,A2,O⟩:=ca Ne.2 E A2 O;rw[oq]at E6;subst E6;refine I ?_;refine al o4 (λ_ Wa Rm=>?_);have⟨E,A2,O⟩:=ca Wa.2 E A2 O;refine SA Rm (λ_ E1 _=>?_);have E:=pb E1 E
 have A2:=pb E1 A2;have O:=bi E1 O;refine I ?_;exact bA (t:=2) (u:=3) (v1:=.slice none 0 0) (v2:=.int .i64 130) Z O (Hg CG oq) Z Z;refine I ?_;refine aa (aC (vf:=[]) (vc:=[pT w.heap.size,pT B1.heap.size]) Z Z ?_);refine cl Ny (sZ (lb:=[pT w.heap.size,pT B1.heap.size]) (n:=n) Nz (λW hE=>s5 ((hM.ext O).ext hE) hv (E.ext hE) (A2.ext hE) D2 (ht.ext (xt O hE)))) ?_;rintro _ B2 KY GC;have⟨E,A2,O⟩:=ca KY.2 E A2 O;rw[oq]at GC;obtain⟨_,rfl,Vm⟩:=GC;obtain⟨ES,P2,B0,ny,VW,EW,W1,rfl,_,T2,L4,K2⟩:=v8.get Vm;have Ab:=ab2 T2;have Am:=ab5 L4;have Af:=ab5 K2;have Lk:=mX (show fH n (n+n) (ij n L)by have h:=lL hv;rwa [<-D2]at h) U oq;have L1:=Lk.1;refine I ?_;refine al o4 (λ_ Cr Kp=>?_);have⟨E,A2⟩:=dN Cr.2 E A2;have Ab:=aa4 Cr.2 Ab;have Am:=aa9 Cr.2 Am;have Af:=aa9 Cr.2 Af;have O:=xt O Cr.2;refine SA Kp (λAx od Ar=>?_);have⟨E,A2⟩:=js od E A2;have Ab:=ad0 od U Ab;have Am:=ab8 od U Am;have Af:=ab8 od U Af;have O:=bi od O;have a3:=gJ od;refine I ?_;by_cases aos:((cm.piv.length:Nat):Int)<(n:Int);refine I ?_;exact bA (t:=2) (u:=3) (v1:=.slice none 0 0) (v2:=.int .i64 130) Z O (K4 CG oq U) Z Z;refine I ?_;have W0:World.ownsRow Ax Ax.heap.size 28 1 (.slice none 0 0) 0 []:=bK
 have S9:Wr Ax Ax.heap.size Ax.heap.size 0 (λ_=>.nilIface) (AZ cm n):=Wr.nil;refine b7 [(7,7),(9,9),(32,43)] (λS0 e W=>∃i:Nat,∃H2:Nat->Value,∃Ao:Value,(n-i=S0)/\(e 32=.int .i64 i)/\(e 7=Ao)/\(i<=n)/\(∀zz,zz<i->ay Ao (H2 zz))/\(Ax.heap.size<=W.heap.size)/\((Ao).ownBlock≠some w.heap.size)/\((Ao).ownBlock≠some B1.heap.size)/\((Ao).ownBlock≠some B2.heap.size)/\(aO w W)/\(ar W w.heap.size 27 #[.slice A n C])/\(ar W B1.heap.size 3 #[.int .i64 n])/\(nB W E4.heap.size B2.heap.size ES n B0 cm.L)/\(mj W E4.heap.size B2.heap.size ny (ag cm.piv))/\(mj W E4.heap.size B2.heap.size EW (ints cm.cols))/\(ar W B2.heap.size 103 #[.slice ES n P2,.slice ny cm.piv.length VW,.slice EW cm.cols.length W1,.bool (decide (cm.sw%2=1))])/\(W.ownsRow Ax.heap.size 28 1 Ao i ((List.range i).map H2))/\(Wr W Ax.heap.size W.heap.size i H2 (AZ cm n))) (n-0) ⟨0,(λ_=>.nilIface),.slice none 0 0,rfl,rfl,rfl,(qa7 _),(λj Ix=>by omega),(qa0 _),(λe=>by cases e),(λe=>by cases e),(λe=>by cases e),O,E,A2,Ab,Am,Af,Ar,W0,S9⟩ ?_;rintro _ _ E7 ⟨i,H2,Ao,rfl,a4,H4,hi_i,G0,a0,FR,E9,H3,Ay,E,A2,Ab,Am,Af,Ar,Aq,As⟩;by_cases hli:i<n;have X2:=(L1 i hli).1;have W3:=aa8 (Ab).mt (i:=(i)) U;refine I ?_;refine fM W3 (I ?_);refine aa (aT (v:=Ao) H4 ?_);refine I ?_
 refine aa (uO (A:=sA (B0 i)) (m:=(cm.L i).length) (c:=sC (B0 i)) (i:=(n)) vY b8 Z Z U ((Ab).mt.cap i U) ?_);refine clb NA (hc:=pZ (Rw.fromR (Mt.row (Ab).mt i U) ((Ab).mt.cap i U) U) (by rw[List.length_drop];omega)) (hk:=?_) (hv:=av (qb2 (λk=>Value.slice (rU 2 (sA (B0 i)) (sC (B0 i)) n) k (sC (B0 i)-n)) (List.length_drop (i:=(n)) (l:=(cm.L i))).symm) Z);rintro Az _ Av Ap;have Av:=Av.2;have Ap:=bM (lo':=E7.heap.size) U Ap;have E5:ay Az (Ao):=λg h1 h2=>by have h3:=aS Ap _ h1;have h4:=(dr Aq) _ h2;omega
 have⟨E,A2⟩:=dN Av E A2;have Ab:=aa4 Av Ab;have Am:=aa9 Av Am;have Af:=aa9 Av Af;have Ar:=be Av Ar;have Aq:=ab Av Aq;have As:=aa1 Av As;have Ay:=xt Ay Av;refine aa (cE (vs:=[(0,Az)]) (cells:=#[Az]) QP jq Z dc dc (jd _ (bP Ap)) Z dc (λ_ Aw _ Li=>?_));have⟨E,A2⟩:=dN Aw E A2;have Ab:=aa4 Aw Ab;have Am:=aa9 Aw Am;have Af:=aa9 Aw Af;have Ar:=be Aw Ar;have Aq:=ab Aw Aq;have As:=aa1 Aw As;have Ap:=ab Aw Ap;have Ay:=xt Ay Aw;refine AP Aq (aa7 Li) (λE0 P0 N0 nm C0=>?_) (h1:=Ro (bP Ap));have L3:=aR C0 FR (bt E);have V2:=aR C0 E9 (bt A2);have WV:=aR C0 H3 (bt Ar);have KC:∀D1,D1<i->ay E0 (H2 D1):=λD1 hi=>ab0 C0 (G0 D1 hi) (Wr.own As D1 hi);have E:=aa2 nm (λe=>FR e.symm) E;have A2:=aa2 nm (λe=>E9 e.symm) A2;have Ab:=nB.gr nm (λg e=>by have:=aS Aq _ e;omega) Ab;have Am:=mj.gr nm (λg e=>by have:=aS Aq _ e;omega) Am;have Af:=mj.gr nm (λg e=>by have:=aS Aq _ e;omega) Af;have Ar:=aa2 nm (λe=>H3 e.symm) Ar;have As:=ad4 nm G0 As;have La:=ab0 C0 (aa5 E5) Ap
 have Ap:=ab3 (aa5 E5) nm Ap;have Ay:=bu Aq U U Ay nm;have a2:=nm.size;refine aa (aK (v:=E0) Z ?_);refine I ?_;refine fO (I ?_);have KM:World.ownsRow P0 E7.heap.size 33 2 Az ((AZ cm n) i).length (ag ((AZ cm n) i)):=aP Ap Z Z;have W2:=bM (lo':=Ax.heap.size) U KM;have No:∀zz,zz<i->ay Az (H2 zz):=Wr.far As Ap U;refine I ?_;exact bF ⟨i+1,bO H2 i Az,E0,rfl,rfl,rfl,U,(λj Ix=>dX KC La j Ix),U,L3,V2,WV,Ay,E,A2,Ab,Am,Af,Ar,(aP N0 Z (ek H2 i Az).symm),(by have h:=Wr.push As W2 No;rwa [nA]at h)⟩;refine I ?_;refine aa (aT (v:=Ao) H4 ?_);refine aa (aK (v:=Ao) Z ?_);refine I ?_;exact bA (t:=2) (u:=3) (v1:=Ao) (v2:=.int .i64 0) Z Ay (Pe CG oq U (by have h:=pU Aq As;rw[show i=n by omega]at h;exact h.mono U)) Z Z;refine I ?_;exact bA (t:=2) (u:=3) (v1:=.slice none 0 0) (v2:=.int .i64 130) Z O (Pd ka5) Z Z
def Pu {L:Rows}(hM:Mt w lo A n H L)(hB:Bd n L)(hC:n<=C)(ht:Tb w):
 CL 78 #[.slice A n C] w (aH w λv w'=>v=G9 (nL n L)):=by
 refine aD func78 Z (I ?_);refine cl Nx (Fu (hM.ext (aa3 _)) hB (ht.ext (aa3 _))) ?_;rintro _ E6 FR rfl;have A2:=FR.2;refine I ?_;rcases qa4 (Hb n L)with fx|fx;have Af:q7 n L=true:=fx;have hv:=(md Af).1;have H2:=(md Af).2;have S0:=hv.1;have L2:=hv.2.1;have Ap:=hv.ok;rw[<-H2]at Ap;refine I ?_;refine cl VS (RE (hM.ext A2) hB (ht.ext A2)) ?_;rintro _ D2 L1 E1;have A2:=xt A2 L1.2;rw[if_pos (show vM n L=true from decide_eq_true hv)]at E1;obtain⟨E0,_,CG,rfl,_,G0⟩:=E1;have O:=ab2 G0;refine cl Y0 (Uv (hM.ext A2) (O).mt hB) ?_;rintro _ Kp E7 rfl;have O:=aa4 E7.2 O;have A2:=xt A2 E7.2;refine I ?_;by_cases fy:kn n L ((L 0).length) (λj=>mc L n j);refine I ?_;have As:Kx n L:=Ps Af fy;refine b7 [(2,5),(7,9),(20,53)] (λAq e W=>∃k:Nat,(n-k=Aq)/\(e 20=.int .i64 k)/\(k<=n)/\(nK L (n-k) k=nK L n 0)/\(Kp.heap.size<=W.heap.size)/\(aO w W)/\(nB W E6.heap.size D2.heap.size E0 ((L 0).length) CG (λj=>mc L n j))) (n-0) ⟨0,rfl,rfl,(qa7 _),rfl,(qa0 _),A2,O⟩ ?_;rintro _ _ Ao ⟨k,rfl,Li,La,hP,Lk,ny,O⟩;have Ne:=bz ny;by_cases hlk:k<n;refine I ?_;refine aa (cG (a:=(k:Int)) (b:=1) (c:=((k+1:Nat):Int)) Z Z L7 U ?_);refine aa (rr (A:=A) (m:=n) (c:=C) (j:=k+1) QP mf Z Z U ?_)
 refine I ?_;have E9:World.ownsRow Ao Ao.heap.size 28 1 (.slice none 0 0) 0 []:=bK;refine b7 [(5,5),(7,7),(28,39)] (λAq e W=>∃i:Nat,∃Ab:Value,(k+1-i=Aq)/\(e 28=.int .i64 i)/\(e 5=Ab)/\(i<=k+1)/\(Ao.heap.size<=W.heap.size)/\(aO w W)/\(nB W E6.heap.size D2.heap.size E0 ((L 0).length) CG (λj=>mc L n j))/\(W.ownsRow Ao.heap.size 28 1 Ab i ((List.range i).map (Gt H (k+1))))) (k+1-0) ⟨0,.slice none 0 0,rfl,rfl,rfl,(qa7 _),(qa0 _),ny,O,E9⟩ ?_;rintro _ _ Az ⟨i,Ab,rfl,N0,od,No,P0,E,O,Am⟩;have Rm:=bz E;by_cases hli:i<k+1;have L4:=(Ap i U).1;have KY:=aa8 (hM.ext E) (i:=(i)) U;refine I ?_;refine fM KY (I ?_);refine aa (aT (v:=Ab) od ?_);refine I ?_;refine aa (cG (a:=(k:Int)) (b:=1) (c:=((k+1:Nat):Int)) Z Z L7 U ?_);refine aa (rr (A:=sA (H i)) (m:=(L i).length) (c:=sC (H i)) (j:=(k+1)) vY b8 Z Z (by have:=(hM.ext E).cap i U;omega) ?_);refine BS (λ_ Ar _ GC=>?_);have O:=aa4 Ar O;have Am:=ab Ar Am;have E:=xt E Ar;refine AP Am (aa7 GC) (λAx _ K3 Av _=>?_);have O:=nB.gr Av (λg e=>by have:=aS Am _ e;omega) O;have E:=bu Am U U E Av;have P2:=Av.size;refine aa (aK (v:=Ax) Z ?_);refine I ?_;refine fO (I ?_)
 exact bF ⟨i+1,Ax,rfl,rfl,rfl,U,U,E,O,(aP K3 Z (G5 (Gt H (k+1)) i))⟩;have D1:i=k+1:=J
 have Cr:nB Az 0 Az.heap.size (sA Ab) (k+1) (Gt H (k+1)) (λi=>(L i).take (k+1)):=ab2 (Mt.takes (Mt.mono (qa7 _) (hM.ext E)) U (λi hi=>by have:=(Ap i hi).1;omega) (by have h:=fE Am;rwa [D1]at h) (qa7 _));have B1:Ab=.slice (sA Ab) (k+1) (sC Ab):=by rw[<-D1];exact dk Am
 refine I ?_;rcases cy:kX (k+1) (λi=>(L i).take (k+1))with _|cv;have Lj:=od.trans B1;refine I ?_;refine clb VR (hc:=FF (Cr).mt (Bd.takes hB U) (ht.ext E)) (hk:=?_);rintro _ _ KC B0;have E:=xt E KC.2;rw[cy]at B0;subst B0;refine I ?_;refine al aU (λ_ Ix H4=>?_);have E:=xt E Ix.2;refine SA H4 (λ_ ES _=>?_);have E:=bi ES E;refine I ?_;exact bA (t:=2) (u:=3) (v1:=.bool false) (v2:=.int .i64 130) Z E (Hj Af As (Hi hlk hP cy)) Z Z;have P1:=od.trans B1;refine I ?_;refine clb VR (hc:=FF (Cr).mt (Bd.takes hB U) (ht.ext E)) (hk:=?_);rintro _ _ C0 Ay;have O:=aa4 C0.2 O;have E:=xt E C0.2;rw[cy]at Ay;subst Ay;have EW:=Pf cy;have L3:Vz (some cv).isSome=0:=rfl;refine I ?_;refine al aU (λ_ B2 KM=>?_);have O:=aa4 B2.2 O;have E:=xt E B2.2;refine SA KM (λ_ Aw _=>?_);have O:=ad0 Aw U O;have E:=bi Aw E;have Q0:=gJ Aw;refine I ?_;refine bQ 3 ?_;refine sf ?_;refine aX (V:=.agg #[S ((z0).1),S ((z0).2)]) (λ_ _ _ _=>?_) ?_;refine cl Ca (lJ _) ?_;rintro _ _ nm rfl;have K2:=nm.2;refine I ?_;exact fs ⟨K2,rfl⟩;refine sf ?_;intro _ _ E5 _;have O:=aa4 E5.2 O;have E:=xt E E5.2;refine cl o6 (OG _ _ _ (ht.ext E) EW) ?_
 rintro _ _ E4 rfl;have O:=aa4 E4.2 O;have E:=xt E E4.2;refine I ?_;by_cases ns:(qS (aj (cv).1))<=0;refine I ?_;exact bA (t:=2) (u:=3) (v1:=.bool false) (v2:=.int .i64 0) Z E (xb Af As (Pg hlk hP cy ns)) Z Z;refine I ?_;refine fO (I ?_);exact bF ⟨k+1,rfl,rfl,U,(Hh hlk hP cy ns),U,E,O⟩;have H3:=K5 hlk hP;refine I ?_;exact bA (t:=2) (u:=3) (v1:=.bool true) (v2:=.int .i64 0) Z ny (xb Af As H3) Z Z;refine I ?_;exact bA (t:=2) (u:=3) (v1:=.bool false) (v2:=.int .i64 0) Z A2 (Pj Af (λh=>fy (Pt Af h))) Z Z;refine I ?_;exact bA (t:=2) (u:=3) (v1:=.bool false) (v2:=.int .i64 130) Z A2 (Pi ka5) Z Z
def df :
 CL 40 #[.bool true] w (aH w λv w'=>v=.tuple #[]):=by
 refine aD func40 Z (I ?_);exact Ij (nG Z) (aa3 _) Z
def uX {a:Addr}(hE:Er w a):
 CL 40 #[.bool false] w (fq (pE a) w):=by
 refine iZ func40 Z (I ?_);refine aa (bC (v:=eV a) (b:=0) (o:=0) YS Z Z (ab6 (Er.ext (aa3 _) hE) Z) ?_);refine aa (Ez (ty':=316) (u:=.pointer (some a)) Z ?_);exact gC ⟨(aa3 _),rfl⟩
def uZ :
 CL 146 #[.slice A n C,.int .i64 0] w (aH w λv w'=>v=.slice A n C):=by
 refine aD func146 Z (I ?_);refine cl fp df ?_;rintro _ _ O rfl;have E:=O.2;refine I ?_;exact am (t:=4) (v:=.slice A n C) Z E Z Z
def Hm {a:Addr}(hE:Er w a):
 CL 146 #[.slice none 0 0,.int .i64 130] w (fq (pE a) w):=by
 refine iZ func146 Z (I ?_);refine aa (dQ (vs:=[.bool false]) fp Z (uX (Er.ext (aa3 _) hE)) (λ_ E=>?_));have O:=E;refine I ?_;exact gC ⟨O,rfl⟩
def k7 {l m:List UInt8}:
 CL 99 #[.agg #[S l,S m],.int .i64 0] w (aH w λv w'=>v=.agg #[S l,S m]):=by
 refine aD func99 Z (I ?_);refine bx (λAp Aq O=>?_);have E:=Aq.2;refine al aU (λ_ Am A2=>?_);have⟨O,E⟩:=bo Am.2 O E;refine I ?_;refine cl fp df ?_;rintro _ _ Af rfl;have⟨O,A2,E⟩:=ca Af.2 O A2 E;refine I ?_;refine SA A2 (λ_ Ab Ao=>?_);have O:=pb Ab O;have E:=bi Ab E;refine I ?_;refine aW (v:=.agg #[S l,S m]) (ci  rfl ?_) E Z;refine ai (t:=4) (cs:=[S l,S m]) (b:=Ap.heap.size) (o:=0) iW Z b8 ?_ ?_;exact Z;exact aa0 Ao (i:=0) Z
def K8 {k l m n:List UInt8}:
 CL 104 #[.agg #[S k,S l,S m,S n],.int .i64 0] w (aH w λv w'=>v=.agg #[S k,S l,S m,S n]):=by
 refine aD func104 Z (I ?_);refine bx (λAp Aq O=>?_);have E:=Aq.2;refine al Vc (λ_ Am A2=>?_);have⟨O,E⟩:=bo Am.2 O E;refine I ?_;refine cl fp df ?_;rintro _ _ Af rfl;have⟨O,A2,E⟩:=ca Af.2 O A2 E;refine I ?_;refine aa (aN (cs:=[S k,S l,S m,S n]) (b:=w.heap.size) (o:=0) fL Z ef Z (aa0 O (i:=0) Z) ?_);refine SA A2 (λ_ Ab Ao=>?_);have O:=pb Ab O;have E:=bi Ab E;refine I ?_;refine aW (v:=.agg #[S k,S l,S m,S n]) (ci  rfl ?_) E Z;refine ai (t:=4) (cs:=[S k,S l,S m,S n]) (b:=Ap.heap.size) (o:=0) fL Z ef ?_ ?_;exact Z;exact aa0 Ao (i:=0) Z
end
section
open Go Go.Eng Go.RowKit Tryz
def nS (n:Nat):List UInt8:=ae (n:Int)
def Fi (n:Nat):Prop:=n<10^200
def Fz (z:Int):Prop:=z.natAbs<10^200
def Fz.fits {z:Int}(h:Fz z):fits z=true:=qa1 h
def Fi.z (h:Fi n):Fz (n:Int):=by simpa[Fz,Fi]using h
def Fz.int {z:Int}(h:Fz z):isInt (ae z)=true:=br h.fits
def K9 {a b:Int}(ha:Fz a)(hb:Fz b)(h:Fz (a+b)):x7 (ae a) (ae b)=some (ae (a+b)):=by
 rw[yb kb1,aJ,aJ];unfold bg;rw[if_pos h.fits]
def UE {a b:Int}(ha:Fz a)(hb:Fz b)(h:Fz (a-b)):aV (ae a) (ae b)=some (ae (a-b)):=by
 rw[pt kb1,aJ,aJ];unfold bg;rw[if_pos h.fits]
def Lb {a b:Int}(ha:Fz a)(hb:Fz b)(h:Fz (a*b)):az (ae a) (ae b)=some (ae (a*b)):=by
 rw[gF kb1,aJ,aJ];unfold bg;rw[if_pos h.fits]
def u3 {a b:Int}(ha:Fz a)(hb:Fz b)(h0:b≠0)(h:Fz (a/b)):du (ae a) (ae b)=some (ae (a/b),ae (a%b)):=by
 rw[lD kb1 (by rw[gL,gK];omega),aJ,aJ];unfold bg;rw[if_pos h.fits];rfl
def Lc {a b:Int}(ha:Fz a)(hb:Fz b):dT (ae a) (ae b)=aQ a b:=by
 unfold dT;rw[if_pos kb1,aJ,aJ]
def XD:([48]:List UInt8)=nS 0:=by decide +kernel
def Ld:([49]:List UInt8)=nS 1:=by decide +kernel
def xc:([50]:List UInt8)=nS 2:=by decide +kernel
def Zt:([52]:List UInt8)=nS 4:=by decide +kernel
def dU {z:Int}:(ae z=[48])↔z=0:=⟨λh=>nf (h.trans XD),λh=>by subst h;exact XD.symm⟩
def kz {a b:Int}(h:Fz a)(hb:0<b):Fz (a/b):=by
 unfold Fz at *
 refine Nat.lt_of_le_of_lt ?_ h
 obtain⟨k,rfl⟩:∃k:Nat,b=k:=⟨b.toNat,by omega⟩
 rcases Int.eq_nat_or_neg a with⟨n,rfl|rfl⟩
 · have:((n:Int)/(k:Int))=((n/k:Nat):Int):=rfl
   rw[this,Int.natAbs_natCast,Int.natAbs_natCast];exact Nat.div_le_self _ _
 · have h1:-(n:Int)<=-(n:Int)/(k:Int):=by
    rw[Int.le_ediv_iff_mul_le hb]
    have:(n:Int)<=(n:Int)*(k:Int):=by have:=Int.mul_le_mul_of_nonneg_left (show(1:Int)<=k by omega) (show(0:Int)<=n by omega);simpa using this
    rw[Int.neg_mul];omega
   have h2:-(n:Int)/(k:Int)<=0:=by
    refine Int.ediv_le_of_le_mul hb ?_
    simp
   omega
abbrev N2:=Nat×Nat
def s6 (a b:Nat):Nat:=if a%b=0 then a/b else a/b+1
def qn (S n d:Nat):N2:=(n*S/d,s6 (n*S) d)
def nD (S:Nat)(a b:N2):N2:=(a.1*b.1/S,s6 (a.2*b.2) S)
def wk (S:Nat)(a b:N2):N2:=(a.1*S/b.2,s6 (a.2*S) b.1)
def lO (a:N2)(n d:Nat):N2:=(a.1*n/d,s6 (a.2*n) d)
def RG (a b:N2):N2:=(a.1+b.1,a.2+b.2)
def BZ (a b:N2):Int×Int:=((a.1:Int)-b.2,(a.2:Int)-b.1)
def yG (hb:0<b):s6 a b<=a:=by
 unfold s6
 split
 · exact Nat.div_le_self _ _
 · rename_i h
   have h1:=Nat.div_add_mod a b
   have h2:a/b<=b*(a/b):=Nat.le_mul_of_pos_left _ hb
   omega
def Bk (k:Nat)(p:N2):Prop:=p.1<10^k/\p.2<10^k
def yH (p:N2):Bool:=decide (p.1<10^95)&&decide (p.2<10^95)
def kaC {p:N2}(h:yH p=true):Bk 95 p:=by simpa[yH,Bk]using h
structure Sc (S:Nat):Prop where
 pos:0<S
 lt:S<10^95
def iJ {m:Nat}(ha:a<10^k)(hb:b<10^m):a*b<10^(k+m):=by
 rw[Nat.pow_add];exact Nat.mul_lt_mul'' ha hb
def jg {m:Nat}(h:a<10^k)(hl:k<=m):a<10^m:=qb1 h (Nat.pow_le_pow_right U hl)
def Bk.mono {m:Nat}{p:N2}(h:Bk k p)(hl:k<=m):Bk m p:=⟨jg h.1 hl,jg h.2 hl⟩
def Bk.fi {p:N2}(h:Bk k p)(hl:k<=200):Fi p.1/\Fi p.2:=⟨jg h.1 hl,jg h.2 hl⟩
def ia (h:a<10^k)(hl:k<=200):Fi a:=jg h hl
def kaD {m:Nat}(ha:a<10^k)(hb:b<10^m)(hl:k+m<=200):Fi (a*b):=ia (iJ ha hb) hl
def Le {S:Nat}{a b:N2}(hS:0<S)(ha:Bk 95 a)(hb:Bk 95 b):Bk 190 (nD S a b):=
 ⟨Nat.lt_of_le_of_lt (Nat.div_le_self _ _) (iJ ha.1 hb.1),Nat.lt_of_le_of_lt (yG hS) (iJ ha.2 hb.2)⟩
def Lf {S:Nat}{a b:N2}(hS:Sc S)(h0:0<b.1)(ha:Bk 95 a):Bk 190 (wk S a b):=
 ⟨Nat.lt_of_le_of_lt (Nat.div_le_self _ _) (iJ ha.1 hS.lt),Nat.lt_of_le_of_lt (yG h0) (iJ ha.2 hS.lt)⟩
def oH (nx:Nat->N2->N2)(t0:N2):Nat->N2
 |0=>t0
 |k+1=>nx (k+1) (oH nx t0 k)
def p0 (T:Nat->N2):Nat->N2
 |0=>(0,0)
 |k+1=>RG (p0 T k) (T k)
def Lg (nx:Nat->N2->N2):Nat->Nat->N2->N2->Nat->Option N2
 |0,_,_,_,_=>none
 | f +1,n,t,a,l=>if yH t=true then
  (if 2<=n/\t.2<=2/\t.2*2<=l+2 then some (a.1+t.1,a.2+t.2+(t.2+4))else Lg nx f (n+1) (nx n t) (RG a t) t.2)
   else none
def yI (nx:Nat->N2->N2)(t0:N2):Option N2:=Lg nx 1000 1 t0 (0,0) 0
structure A3 (T:Nat->N2)(m:Nat):Prop where
 lt:m<1000
 bd:∀k≤m,Bk 95 (T k)
 go:∀k<m,k=0\/¬((T k).2<=2/\(T k).2*2<=(T (k-1)).2+2)
 pos:0<m
 stop:(T m).2<=2/\(T m).2*2<=(T (m-1)).2+2
def wl (T:Nat->N2)(m:Nat):N2:=((p0 T (m+1)).1,(p0 T (m+1)).2+((T m).2+4))
def A4 {nx:Nat->N2->N2}{t0 r:N2}:∀(f k l:Nat),k+f<=1000->(k=0\/l=(oH nx t0 (k-1)).2)->(∀j<k,Bk 95 (oH nx t0 j))->(∀j<k,j=0\/¬((oH nx t0 j).2<=2/\(oH nx t0 j).2*2<=(oH nx t0 (j-1)).2+2))->
 Lg nx f (k+1) (oH nx t0 k) (p0 (oH nx t0) k) l=some r->∃m,A3 (oH nx t0) m/\wl (oH nx t0) m=r
 |0,_,_,_,_,_,_,h=>by simp[Lg]at h
 | f + 1,k,l,hk,hl,hb,hg,h=>by
   unfold Lg at h
   by_cases h1:yH (oH nx t0 k)=true
   · rw [if_pos h1]at h
     have hb':∀j≤k,Bk 95 (oH nx t0 j):=λj E=>by
      by_cases e:j=k
      · subst e;exact kaC h1
      · exact hb j U
     split at h
     · rename_i hs
       cases h
       have hl':l=(oH nx t0 (k-1)).2:=by rcases hl with e|e;omega;exact e
       exact⟨k,⟨by omega,hb',hg,by omega,hs.2.1,by rw[<-hl'];exact hs.2.2⟩,rfl⟩
     · rename_i hs
       refine A4 f (k+1) _ U (Or.inr Z) (λj E=>hb' j U) (λj E=>?_) h
       by_cases e:j=k
       · subst e
         by_cases e0:j=0
         · exact Or.inl e0
         · refine Or.inr λhc=>hs ⟨by omega,hc.1,?_⟩
           rcases hl with e|e;omega;rw[e];exact hc.2
       · exact hg j U
   · rw[if_neg h1]at h;cases h
def u4 {nx:Nat->N2->N2}{t0 r:N2}(h:yI nx t0=some r):∃m,A3 (oH nx t0) m/\wl (oH nx t0) m=r:=
 A4 1000 0 0 U (Or.inl Z) (λj E=>by omega) (λj E=>by omega) h
def FI {T:Nat->N2}{m:Nat}(hT:∀k≤m,Bk 95 (T k)):∀k≤m+1,(p0 T k).1<=k*10^95/\(p0 T k).2<=k*10^95
 |0,_=>by simp[p0]
 | k+1,hk=>by
   obtain⟨h1,h2⟩:=FI hT k U
   obtain⟨h3,h4⟩:=hT k U
   simp only[p0,RG,Nat.add_mul,Nat.one_mul]
   exact⟨by omega,by omega⟩
def A3.tot {T:Nat->N2}{m:Nat}(h:A3 T m)(hk:k<=m+1):Bk 99 (p0 T k):=by
 obtain⟨_,_⟩:=FI h.bd k hk
 have h3:k*10^95<=1000*10^95:=Nat.mul_le_mul_right _ (by have:=h.lt;omega)
 have h4:1000*10^95<10^99:=by decide
 exact⟨by omega,by omega⟩
def jX (S:Nat):Nat->N2->Nat->Option (N2×Nat)
 |0,_,_=>none
 |f+1,x,h=>if S<x.2*2 then jX S f (lO x 1 2) (h+1)else some (x,h)
def H8 (S:Nat):Nat->N2->Option N2
 |0,a=>if yH a=true then some a else none
 |h+1,a=>if yH a=true then H8 S h (nD S a a)else none
def Lh (S:Nat)(x:N2)(n:Nat)(t:N2):N2:=lO (nD S t x) 1 n
def yJ (S:Nat)(x:N2):Option N2:=if yH x=true then(jX S 200 x 0).bind λp=>(yI (Lh S p.1) (1*S,1*S)).bind (H8 S p.2)else none
def Pv {x:N2}(h:Bk k x):Bk k (lO x 1 2):=
 ⟨Nat.lt_of_le_of_lt (by simpa[lO]using Nat.div_le_self _ _) h.1,Nat.lt_of_le_of_lt (by simpa[lO]using yG (a:=x.2) (b:=2) U) h.2⟩
def UF {S:Nat}{x:N2}{p:N2×Nat}(hh:jX S f x h=some p)(hl:S<x.2*2):∃g,f=g+1/\jX S g (lO x 1 2) (h+1)=some p:=by
 cases f with
 |zero=>simp[jX]at hh
 |succ g=>unfold jX at hh;rw[if_pos hl]at hh;exact⟨g,rfl,hh⟩
def UG {S:Nat}{x:N2}{p:N2×Nat}(hh:jX S f x h=some p)(hl:¬S<x.2*2):p=(x,h):=by
 cases f with
 |zero=>simp[jX]at hh
 |succ g=>unfold jX at hh;rw[if_neg hl]at hh;cases hh;rfl
def Zu {S:Nat}{a r:N2}(hh:H8 S (h-i) a=some r)(hl:i<h):Bk 95 a/\H8 S (h-(i+1)) (nD S a a)=some r:=by
 obtain⟨k,hk⟩:∃k,h-i=k+1:=⟨h-i-1,by omega⟩
 rw[hk]at hh
 unfold H8 at hh
 rw[show h-(i+1)=k by omega]
 split at hh
 · rename_i h1;exact⟨kaC h1,hh⟩
 · cases hh
def Zv {S:Nat}{a r:N2}(hh:H8 S (h-i) a=some r)(hl:¬i<h):a=r/\Bk 95 r:=by
 rw[show h-i=0 by omega]at hh
 unfold H8 at hh
 split at hh
 · rename_i h1;cases hh;exact⟨rfl,kaC h1⟩
 · cases hh
def FJ {S:Nat}{x r:N2}(h:yJ S x=some r):Bk 95 x/\∃p s,jX S 200 x 0=some p/\yI (Lh S p.1) (1*S,1*S)=some s/\H8 S p.2 s=some r:=by
 unfold yJ at h
 split at h
 · rename_i h1
   refine⟨kaC h1,?_⟩
   cases hp:jX S 200 x 0 with
   |none=>rw[hp]at h;cases h
   | some p=>
     rw[hp,Option.bind_some]at h
     cases hs:yI (Lh S p.1) (1*S,1*S)with
     |none=>rw[hs]at h;cases h
     |some s=>rw[hs,Option.bind_some]at h;exact⟨p,s,rfl,hs,h⟩
 · cases h
def RH {S:Nat}:∀{h:Nat} {a r:N2},H8 S h a=some r->Bk 95 r
 |0,a,r,h=>by unfold H8 at h;split at h;rename_i h1;cases h;exact kaC h1;cases h
 |k+1,a,r,h=>by unfold H8 at h;split at h;exact RH h;cases h
def UH {S:Nat}{x r:N2}(h:yJ S x=some r):Bk 95 r:=by
 obtain⟨_,p,s,_,_,h3⟩:=FJ h
 exact RH h3
def UI (S:Nat)(y:N2)(fr n:Nat)(u:N2):N2:=lO (nD S u y) 2 (fr+2*n)
end
section
set_option maxRecDepth 100000
open Go Go.Eng Go.RowKit Tryz
attribute [local irreducible] wpListIn Code.wpIn Oper.wpIn Exit.then Exit.inBlock Exit.noGoto
set_option maxHeartbeats 40000000
section
variable {f:FuncId}{a:Array Value}
def nE {X Y:Value}(h:CL f a w (aH w λv _=>v=X))(e:X=Y):CL f a w (aH w λv _=>v=Y):=e▸h
def cB {X Y:Bool}(h:CL f a w (aH w λv _=>v=.bool X))(e:X=Y):CL f a w (aH w λv _=>v=.bool Y):=e▸h
end
def Zw (h:nS (a%b)=[48]):S (nS (a/b))=S (nS (s6 a b)):=by
 have:=dU.1 h
 unfold s6;rw[if_pos U]
def Zx (h:¬nS (a%b)=[48]):S (nS (a/b+1))=S (nS (s6 a b)):=by
 unfold s6;rw[if_neg λe=>h (by rw[e];rfl)]
def UJ (h:Fi a):Fi (a/b):=Nat.lt_of_le_of_lt (Nat.div_le_self _ _) h
def UK (h:Fi a)(hb:0<b):Fi (s6 a b):=Nat.lt_of_le_of_lt (yG hb) h
def XE (h:Fi a)(hb:0<b)(h0:¬nS (a%b)=[48]):Fi (a/b+1):=by
 have h1:=UK h hb
 unfold s6 at h1
 rwa [if_neg λe=>h0 (by rw[e];rfl)]at h1
def Ll (h:Fi (a+b)):Fi a/\Fi b:=by unfold Fi at *;omega
def UL (ha:Fi a)(hb:Fi b)(h0:0<b):du (nS a) (nS b)=some (nS (a/b),nS (a%b)):=u3 ha.z hb.z U (UJ ha).z
def Pw {l m:List UInt8}{a b:Int}(hl:l=ae a)(hm:m=ae b)(ha:Fz a)(hb:Fz b)(h:Fz (a+b))(ht:Tb w):
 CL 222 #[S l,S m] w (aH w λv w'=>v=S (ae (a+b))):=by
 subst hl hm;refine aD func222 Z (I ?_);refine cl IA (nE (Y:=.tuple #[S (ae (a+b)),.int .i64 0]) (yi _ _ _ (ht.ext (aa3 _))) (qb2 iF (K9 ha hb h))) ?_;rintro _ _ O rfl;have E:=O.2;refine I ?_;exact am (t:=4) (v:=S (ae (a+b))) Z E Z Z
def FK {l m:List UInt8}{a b:Int}(hl:l=ae a)(hm:m=ae b)(ha:Fz a)(hb:Fz b)(h:Fz (a-b))(ht:Tb w):
 CL 227 #[S l,S m] w (aH w λv w'=>v=S (ae (a-b))):=by
 subst hl hm;refine aD func227 Z (I ?_);refine cl Ep (nE (Y:=.tuple #[S (ae (a-b)),.int .i64 0]) (sP _ _ _ (ht.ext (aa3 _))) (qb2 iF (UE ha hb h))) ?_;rintro _ _ O rfl;have E:=O.2;refine I ?_;exact am (t:=4) (v:=S (ae (a-b))) Z E Z Z
def Px {l m:List UInt8}{a b:Int}(hl:l=ae a)(hm:m=ae b)(ha:Fz a)(hb:Fz b)(h:Fz (a*b))(ht:Tb w):
 CL 219 #[S l,S m] w (aH w λv w'=>v=S (ae (a*b))):=by
 subst hl hm;refine aD func219 Z (I ?_);refine cl Q3 (nE (Y:=.tuple #[S (ae (a*b)),.int .i64 0]) (EV _ _ _ (ht.ext (aa3 _))) (qb2 iF (Lb ha hb h))) ?_;rintro _ _ O rfl;have E:=O.2;refine I ?_;exact am (t:=4) (v:=S (ae (a*b))) Z E Z Z
def Lm {l m:List UInt8}{a b:Int}(hl:l=ae a)(hm:m=ae b)(ha:Fz a)(hb:Fz b)(hp:0<b)(ht:Tb w):
 CL 218 #[S l,S m] w (aH w λv w'=>v=S (ae (a/b))):=by
 subst hl hm;have A2:b≠0:=U;refine aD func218 Z (I ?_);refine clb zu (hc:=nE (Y:=.tuple #[S (ae (a/b)),S (ae (a%b)),.int .i64 0]) (ke _ _ _ (ht.ext (aa3 _))) (qb2 wh (u3 ha hb A2 (kz ha U)))) (hk:=?_);rintro _ _ O rfl;have E:=O.2;refine I ?_;exact am (t:=4) (v:=S (ae (a/b))) Z E Z Z
def ko {l m:List UInt8}(hl:l=nS a)(hm:m=nS b)(h:Fi (a+b))(ht:Tb w):CL 222 #[S l,S m] w (aH w λv _=>v=S (nS (a+b))):=Pw hl hm (Ll h).1.z (Ll h).2.z h.z ht
def gm {l m:List UInt8}(hl:l=nS a)(hm:m=nS b)(ha:Fi a)(hb:Fi b)(h:Fi (a*b))(ht:Tb w):CL 219 #[S l,S m] w (aH w λv _=>v=S (nS (a*b))):=Px hl hm ha.z hb.z h.z ht
def p7 {l m:List UInt8}(hl:l=nS a)(hm:m=nS b)(ha:Fi a)(hb:Fi b)(hp:0<b)(ht:Tb w):CL 218 #[S l,S m] w (aH w λv _=>v=S (nS (a/b))):=Lm hl hm ha.z hb.z U ht
def yK {l m:List UInt8}(hl:l=nS a)(hm:m=nS b)(ha:Fi a)(hb:Fi b)(hp:0<b)(ht:Tb w):
 CL 220 #[S l,S m] w (aH w λv w'=>v=S (nS (s6 a b))):=by
 subst hl hm;refine aD func220 Z (I ?_);refine cl zu (nE (Y:=.tuple #[S (nS (a/b)),S (nS (a%b)),.int .i64 0]) (ke _ _ _ (ht.ext (aa3 _))) (qb2 wh (UL ha hb hp))) ?_;rintro _ _ O rfl;have E:=O.2;refine I ?_;refine sh (b:=[48]) (I ?_);by_cases cm:(nS (a%b))=([48]);refine I ?_;exact am (t:=4) (v:=S (nS (a/b))) Z E (Zw cm) Z;refine I ?_;refine cl mF (ko Z Ld (XE ha hp cm) (ht.ext E)) ?_;rintro _ _ A2 rfl;have E:=xt E A2.2;refine I ?_;exact am (t:=4) (v:=S (nS (a/b+1))) Z E (Zx cm) Z
def u5 (hn:n<1000000000)(ht:Tb w):
 CL 185 #[.int .i64 n] w (aH w λv w'=>v=S (nS n)):=by
 refine aD func185 Z (I ?_);refine clb Iu (hc:=nE (Y:=S (nS n)) (x8 _ _ U U (ht.ext (aa3 _))) (qb2 S (Ah n))) (hk:=?_);rintro _ _ O rfl;have E:=O.2;refine I ?_;exact am (t:=2) (v:=S (nS n)) Z E Z Z
def p9 :aO w w:=aa3 _
section
variable {f:FuncId}{a:Array Value}{m:Nat}
def Ln {o o':Option Rows}(h:CL f a w (aH w λv w'=>nI lo w' n o v))(e:o=o'):CL f a w (aH w λv w'=>nI lo w' n o' v):=e▸h
def UM {L:Rows}(h:CL f a w (aH w λv w'=>dM lo w' v n L))(e:n=m):CL f a w (aH w λv w'=>dM lo w' v m L):=e▸h
end
def eZ {L:Rows}(hM:Mt w lo A n H L)(hB:Bd n L){m:Nat}{K:Rows}(hN:Mt w lo2 B m G K)(hB2:Bd m K){P:Rows}(e:dw n L m K=some P)(ht:Tb w):
 CL 93 #[.slice A n C,.slice B m D] w (aH w λv w'=>dM w.heap.size w' v n P):=by
 refine aD func93 Z (I ?_);refine cl YV (Ln (o':=some P) (Po (hM.ext p9) hB (hN.ext p9) hB2 (ht.ext p9)) e) ?_;rintro _ _ Ap ⟨Ar,rfl,Ab,A2,Ao,rfl,Aq,Am⟩;have E:=Ap.2;have O:=ab2 Am;refine I ?_;refine cl xO uZ ?_;rintro _ _ Af rfl;have O:=aa4 Af.2 O;have E:=xt E Af.2;refine I ?_;exact am (t:=4) (v:=.slice Ab n A2) Z E ⟨Ab,A2,Ao,rfl,Aq,(O).mt⟩ Z
def s7 {L:Rows}(hM:Mt w lo A n H L)(hB:Bd n L){P:Rows}(e:dJ n L=some P)(ht:Tb w):
 CL 91 #[.slice A n C] w (aH w λv w'=>dM w.heap.size w' v n P):=by
 refine aD func91 Z (I ?_);refine cl Sp (Ln (o':=some P) (FH (hM.ext p9) hB (ht.ext p9)) e) ?_;rintro _ _ Ap ⟨Ar,rfl,Ab,A2,Ao,rfl,Aq,Am⟩;have E:=Ap.2;have O:=ab2 Am;refine I ?_;refine cl xO uZ ?_;rintro _ _ Af rfl;have O:=aa4 Af.2 O;have E:=xt E Af.2;refine I ?_;exact am (t:=2) (v:=.slice Ab n A2) Z E ⟨Ab,A2,Ao,rfl,Aq,(O).mt⟩ Z
def Lo {L:Rows}(hM:Mt w lo A n H L)(hB:Bd n L){a:Addr}(hE:Er w a)(e:dJ n L=none)(ht:Tb w):
 CL 91 #[.slice A n C] w (fq (pE a) w):=by
 refine iZ func91 Z (I ?_);refine cl Sp (Ln (o':=none) (FH (hM.ext p9) hB (ht.ext p9)) e) ?_;rintro _ _ O rfl;have E:=O.2;refine I ?_;refine aa (dQ (vs:=[.slice none 0 0,.int .i64 130]) xO Z (Hm (Er.ext E hE)) (λ_ A2=>?_));have E:=xt E A2;refine I ?_;exact gC ⟨E,rfl⟩
def mY {L:Rows}(hM:Mt w lo A n H L)(hB:Bd n L)(hv:vM n L=true)(hl:(L 0).length=k)(ht:Tb w):
 CL 92 #[.slice A n C] w (aH w λv w'=>dM w.heap.size w' v k (λj=>mc L n j)):=by
 refine aD func92 Z (I ?_);refine clb VS (hc:=UM (m:=k) (RE (hM.ext p9) hB (ht.ext p9)) (by rw[if_pos hv];exact hl)) (hk:=?_);rintro _ _ A2 ⟨O,E,Af,rfl,Ap,Ao⟩;have Ab:=A2.2;have Am:=ab2 Ao;refine I ?_;exact am (t:=2) (v:=.slice O k E) Z Ab ⟨O,E,Af,rfl,Ap,(Am).mt⟩ Z
def mZ :
 CL 95 #[.agg #[.slice A n C,.slice Y ny CY,.slice B nb CB]] w (aH w λv w'=>v=.int .i64 n):=by
 refine aD func95 Z (I ?_);refine bx (λ_ O _=>?_);have E:=O.2;refine I ?_;exact am (t:=2) (v:=.int .i64 n) Z E Z Z
def A5 {L:Rows}(hM:Mt w lo A n H L)(hn:0<n):
 CL 96 #[.agg #[.slice A n C,.slice Y ny CY,.slice B nb CB]] w (aH w λv w'=>v=.int .i64 (((L 0).length:Nat):Int)):=by
 refine aD func96 Z (I ?_);refine bx (λ_ A2 _=>?_);have E:=A2.2;have O:=aa8 (hM.ext E) (i:=0) U;refine I ?_;refine fM O ?_ (i:=0);refine I ?_;exact am (t:=2) (v:=.int .i64 (((L 0).length:Nat):Int)) Z E Z Z
def iK {b:List R}(hb:Rw w lo A (ag b))(hbl:b.length*32<=140737488355328):
 CL 61 #[.slice A b.length C] w (aH w λv w'=>dM w.heap.size w' v b.length (bR b)):=by
 refine aD func61 Z (I ?_);have E7:World.ownsRow w w.heap.size 28 1 (.slice none 0 0) 0 []:=bK;have D2:Wr w w.heap.size w.heap.size 0 (λ_=>.nilIface) (bR b):=Wr.nil;have E4:=aa3 w;refine b7 [(2,2),(4,4),(7,16)] (λCr e W=>∃i:Nat,∃H2:Nat->Value,∃Af:Value,(b.length-i=Cr)/\(e 7=.int .i64 i)/\(e 2=Af)/\(i<=b.length)/\(∀zz,zz<i->ay Af (H2 zz))/\(w.heap.size<=W.heap.size)/\(aO w W)/\(W.ownsRow w.heap.size 28 1 Af i ((List.range i).map H2))/\(Wr W w.heap.size W.heap.size i H2 (bR b))) (b.length-0) ⟨0,(λ_=>.nilIface),.slice none 0 0,rfl,rfl,rfl,(qa7 _),(λj B1=>by omega),(qa0 _),E4,E7,D2⟩ ?_;rintro _ _ _ ⟨i,H2,Af,rfl,GC,Az,hi_i,Ay,H3,A2,E,O⟩;have FR:=bz A2;by_cases hli:i<b.length;have E1:=bD (hb.ext A2) (k:=(i)) U;refine I ?_;refine li E1 (I ?_);refine al aU (λ_ Ax C0=>?_);have E9:=bn E;have E:=ab Ax.2 E;have O:=aa1 Ax.2 O;have A2:=xt A2 Ax.2;refine SA C0 (λAb Ar Aq=>?_);have E:=aw Ar E9 E;have O:=ab9 Ar U O;have A2:=bi Ar A2;have H4:=gJ Ar;refine I ?_;refine aa (aT (v:=Af) Az ?_);refine I ?_;have nm:=dr E;refine BS (λod Aw _ E6=>?_);have G0:=bn E;have E:=ab Aw E;have O:=aa1 Aw O;have⟨Aq,A2⟩:=bo Aw Aq A2
 have Am:World.ownsRow od Ab.heap.size 33 2 (.slice (some ⟨Ab.heap.size,0,none⟩) 1 1) [ao b i].length (ag [ao b i]):=aP E6 Z Z;refine BS (λ_ Ao _ D1=>?_);have E:=ab Ao E;have O:=aa1 Ao O;have Aq:=be Ao Aq;have Am:=ab Ao Am;have A2:=xt A2 Ao;refine AP E (aa7 D1) (λAv EW ES As B0=>?_);have wr:∀Ap,Ap<i->ay Av (H2 Ap):=λAp hi=>ab0 B0 (Ay Ap hi) (Wr.own O Ap hi);have O:=ad4 As Ay O;have E0:=ab0 B0 (aa5 (λg h1 h2=>by cases h1;have h3:Ab.heap.size<_:=nm _ h2;omega)) Am;have Am:=ab3 (aa5 (λg h1 h2=>by cases h1;have h3:Ab.heap.size<_:=nm _ h2;omega)) As Am;have A2:=bu E U U A2 As;have Ix:=As.size;refine aa (aK (v:=Av) Z ?_);refine I ?_;refine fO (I ?_);have E5:World.ownsRow EW Ab.heap.size 33 2 (.slice (some ⟨Ab.heap.size,0,none⟩) 1 1) ((bR b) i).length (ag ((bR b) i)):=aP Am Z Z;have B2:=bM (lo':=w.heap.size) U E5;have CG:∀zz,zz<i->ay (.slice (some ⟨Ab.heap.size,0,none⟩) 1 1) (H2 zz):=Wr.far O Am U;refine I ?_;exact bF ⟨i+1,bO H2 i (.slice (some ⟨Ab.heap.size,0,none⟩) 1 1),Av,rfl,rfl,rfl,U,(λj B1=>dX wr E0 j B1),U,A2,(aP ES Z (ek H2 i (.slice (some ⟨Ab.heap.size,0,none⟩) 1 1)).symm),(by have h:=Wr.push O B2 CG;rwa [nA]at h)⟩
 refine I ?_;refine aa (aT (v:=Af) Az ?_);refine aa (aK (v:=Af) Z ?_);refine I ?_;exact am (t:=2) (v:=Af) Z A2 (by have h:=pU E O;rw[show i=b.length by omega]at h;exact h.mono U) Z
end
end Go.Proofs.YtlmihmlnpjkblaaGreatDoor
namespace La
variable {k n i j s p:Nat}{f g u:Nat->Rat}
abbrev Mx:=Nat->Nat->Rat
def sm:Nat->(Nat->Rat)->Rat
 |0,_=>0
 |n+1,f=>sm n f+f n
def ap :∀{n:Nat},(∀i,i<n->f i=g i)->sm n f=sm n g
 |0,_=>rfl
 |n+1,h=>by unfold sm;rw[ap (λi hi=>h i J),h n J]
def dD:∀{n:Nat} {f:Nat->Rat},(∀i,i<n->f i=0)->sm n f=0
 |0,_,_=>rfl
 |n+1,f,h=>by unfold sm;rw[dD (λi hi=>h i J),h n J];grind
def lP (f g:Nat->Rat):∀n,sm n (λi=>f i+g i)=sm n f+sm n g
 |0=>by simp only[sm];grind
 |n+1=>by simp only[sm];rw[lP f g n];grind
def di (c:Rat)(f:Nat->Rat):∀n,sm n (λi=>c*f i)=c*sm n f
 |0=>by simp only[sm];grind
 |n+1=>by simp only[sm];rw[di c f n];grind
def jA (c:Rat)(f:Nat->Rat)(n:Nat):sm n (λi=>f i*c)=sm n f*c:=by
 rw[Rat.mul_comm,<-di];exact ap λi _=>qb7 _ _
def lQ (f g:Nat->Rat):∀n,sm n (λi=>f i-g i)=sm n f-sm n g
 |0=>by simp only[sm];grind
 |n+1=>by simp only[sm];rw[lQ f g n];grind
def iR (f:Nat->Nat->Rat)(m:Nat):∀n,sm n (λi=>sm m (λj=>f i j))=sm m (λj=>sm n (λi=>f i j))
 |0=>by simp only[sm];exact(dD λ_ _=>rfl).symm
 |n+1=>by simp only[sm];rw[iR f m n,<-lP]
def iL :∀{n:Nat},k<n->(∀i,i<n->i≠k->f i=0)->sm n f=f k
 | n+1,hk,h=>by
   unfold sm
   by_cases e:k=n
   · subst e;rw[dD (λi hi=>h i J J)];grind
   · rw[iL J (λi hi hne=>h i J hne),h n J J];grind
def u9 (f:Nat->Rat)(a:Nat):∀b,sm (a+b) f=sm a f+sm b (λi=>f (a+i))
 |0=>by simp only[sm];grind
 | b+1=>by
   show sm (a+b) f+f (a+b)=sm a f+(sm b (λi=>f (a+i))+f (a+b))
   rw[u9 f a b];grind
def sk (k i:Nat):Nat:=if i<k then i else i+1
def yL (f:Nat->Rat)(k:Nat):∀n,k<=n->sm (n+1) f=f k+sm n (λi=>f (sk k i))
 | 0,h=>by
   have:k=0:=J
   subst this;simp only[sm];grind
 | n +1,h=>by
   rw[show sm (n+1+1) f=sm (n+1) f+f (n+1)from rfl]
   by_cases e:k=n+1
   · subst e
     rw[ap (g:=λi=>f (sk (n+1) i)) (n:=n+1) (λi hi=>by simp[sk,hi])]
     grind
   · rw[yL f k n J]
     show _=f k+(sm n (λi=>f (sk k i))+f (sk k n))
     rw[show sk k n=n+1 by unfold sk;rw[if_neg J]]
     grind
def mul (k:Nat)(A B:Mx):Mx:=λi j=>sm k (λl=>A i l*B l j)
def one:Mx:=λi j=>if i=j then 1 else 0
def tr (A:Mx):Mx:=λi j=>A j i
def jB (n m:Nat)(A B:Mx):Prop:=∀i,i<n->∀j,j<m->A i j=B i j
def mul_assoc (a b:Nat)(A B C:Mx)(i j:Nat):mul b (mul a A B) C i j=mul a A (mul b B C) i j:=by
 unfold mul
 rw[ap (g:=λl=>sm a (λk=>A i k*B k l*C l j)) (λl _=>by rw[<-jA]),iR]
 exact ap λl _=>by rw[<-di];exact ap λk _=>by grind
def mul_one {A:Mx}(h:j<n):mul n A one i j=A i j:=by
 unfold mul one
 rw[iL h (λl _ hl=>by rw[if_neg hl];grind)]
 simp
def one_mul {A:Mx}(h:i<n):mul n one A i j=A i j:=by
 unfold mul one
 rw[iL h (λl _ hl=>by rw[if_neg (λe=>hl e.symm)];grind)]
 simp
def eF {A A' B B':Mx}(h:∀l,l<k->A i l=A' i l)(h':∀l,l<k->B l j=B' l j):mul k A B i j=mul k A' B' i j:=
 ap λl hl=>by rw[h l hl,h' l hl]
def yM (k:Nat)(A B:Mx)(i j:Nat):mul k A B j i=mul k (tr B) (tr A) i j:=ap λ_ _=>qb7 _ _
def ker (s:Nat):∀(r:Nat) (Y:Mx),s<r->∃v:Nat->Rat,(∃j,j<r/\v j≠0)/\∀i,i<s->sm r (λj=>Y i j*v j)=0:=by
 induction s with
 | zero=>
   intro r Y h
   exact⟨λ_=>1,⟨0,h,by simp⟩,λi hi=>absurd hi J⟩
 | succ s ih=>
   intro r Y h
   by_cases O:∀j,j<r->Y s j=0
   · obtain⟨v,hv,h2⟩:=ih r Y J
     refine⟨v,hv,λi hi=>?_⟩
     by_cases e:i=s
     · subst e;exact dD λj A2=>by rw[O j A2];grind
     · exact h2 i J
   · have O:∃j,j<r/\Y s j≠0:=by
      refine qb6 λAm=>O λj A2=>qb6 λh=>Am ⟨j,A2,h⟩
     obtain⟨E,Ar,Ap⟩:=O
     obtain⟨r,rfl⟩:∃r',r=r'+1:=⟨r-1,by omega⟩
     obtain⟨v,⟨Af,Aq,hv⟩,h2⟩:=ih r (λi j=>Y i (sk E j)-Y i E/Y s E*Y s (sk E j)) J
     let t:=sm r (λj=>Y s (sk E j)*v j)
     let w:Nat->Rat:=λj=>if j=E then-(t/Y s E)else v (if j<E then j else j-1)
     have Ao:w E= -(t/Y s E):=by simp[w]
     have Ab:∀j,w (sk E j)=v j:=by
      intro j
      show(if sk E j=E then _ else _)=_
      unfold sk
      split
      · rename_i h;simp;omega
      · rename_i h;rw[if_neg J,if_neg J];rfl
     refine⟨w,⟨sk E Af,by unfold sk;split <;>omega,by rw[Ab];exact hv⟩,λi hi=>?_⟩
     rw[yL _ E r J,Ao,ap (g:=λj=>Y i (sk E j)*v j) (λj _=>by rw[Ab])]
     by_cases e:i=s
     · subst e
       show Y i E*-(t/Y i E)+t=0
       grind
     · have h3:=h2 i J
       rw[ap (g:=λj=>Y i (sk E j)*v j-Y i E/Y s E*(Y s (sk E j)*v j)) (λj _=>by grind),lQ,di]at h3
       show Y i E*-(t/Y s E)+_=0
       have h4:sm r (λj=>Y i (sk E j)*v j)-Y i E/Y s E*t=0:=h3
       grind
def Lp {r:Nat}{X Y:Mx}(h:jB r r (mul s X Y) one):r<=s:=by
 refine Nat.le_of_not_lt λhlt=>?_
 obtain⟨v,⟨j,E,A2⟩,h2⟩:=ker s r Y hlt
 refine A2 ?_
 have:sm r (λl=>mul s X Y j l*v l)=v j:=by
  rw[iL E (λl hl O=>by rw[h j E l hl];unfold one;rw[if_neg (λe=>O e.symm)];grind)]
  rw[h j E j E];simp[one]
 rw[<-this]
 unfold mul
 rw[ap (g:=λl=>sm s (λk=>X j k*(Y k l*v l))) (λl _=>by rw[<-jA];exact ap λk _=>by grind),iR]
 exact dD λk hk=>by rw[di,h2 k hk];grind
structure XF (n m r:Nat)(A C F CL FR:Mx):Prop where
 eq:jB n m A (mul r C F)
 cl:jB r r (mul n CL C) one
 fr:jB r r (mul m F FR) one
def Rk (n m r:Nat)(A:Mx):Prop:=∃C F CL FR,XF n m r A C F CL FR
def XF.mid {m r:Nat}{A C F CL FR X Y zd V:Mx}(h:XF n m r A C F CL FR)(hA:jB n m A (mul s X Y))(_:zd=mul n CL X)(_:V=mul m Y FR):jB r r (mul s zd V) one:=by
 intro i hi j E
 subst zd V
 have h1:mul m (mul n CL A) FR i j=mul m (mul n CL (mul r C F)) FR i j:=
  eF (λl hl=>eF (λ_ _=>rfl) (λk hk=>h.eq k hk l hl)) (λ_ _=>rfl)
 have h2:mul m (mul n CL A) FR i j=mul m (mul n CL (mul s X Y)) FR i j:=
  eF (λl hl=>eF (λ_ _=>rfl) (λk hk=>hA k hk l hl)) (λ_ _=>rfl)
 have h3:mul m (mul n CL (mul r C F)) FR i j=one i j:=by
  rw[eF (A':=mul r (mul n CL C) F) (B':=FR) (λl _=>(mul_assoc _ _ _ _ _ _ _).symm) (λ_ _=>rfl)]
  rw[eF (A':=F) (B':=FR) (λl _=>by
   rw[eF (A':=one) (B':=F) (λk hk=>h.cl i hi k hk) (λ_ _=>rfl)];exact one_mul hi) (λ_ _=>rfl)]
  exact h.fr i hi j E
 rw[<-h3,<-h1,h2]
 rw[eF (A':=mul s (mul n CL X) Y) (B':=FR) (λl _=>(mul_assoc _ _ _ _ _ _ _).symm) (λ_ _=>rfl)]
 exact(mul_assoc _ _ _ _ _ _ _).symm
def XF.le {m r:Nat}{A C F CL FR X Y:Mx}(h:XF n m r A C F CL FR)(hA:jB n m A (mul s X Y)):r<=s:=Lp (h.mid hA Z Z)
def Rk.tr {m r:Nat}{A:Mx}(h:Rk n m r A):Rk m n r (tr A):=by
 obtain⟨C,F,CL,FR,h⟩:=h
 refine⟨La.tr F,La.tr C,La.tr FR,La.tr CL,⟨λi hi j E=>?_,λi hi j E=>?_,λi hi j E=>?_⟩⟩
 · show A j i=_;rw[h.eq j E i hi,yM]
 · rw[<-yM,h.fr j E i hi];unfold one;simp only[eq_comm]
 · rw[<-yM,h.cl j E i hi];unfold one;simp only[eq_comm]
def Rk.le_n {m r:Nat}{A:Mx}(h:Rk n m r A):r<=n:=by
 obtain⟨C,F,_,_,h⟩:=h
 exact Lp h.cl
def Rk.le_m {m r:Nat}{A:Mx}(h:Rk n m r A):r<=m:=h.tr.le_n
def Rk.mul_r {m q t:Nat}{A B:Mx}(hB:Rk k m q B)(hT:Rk n m t (mul k A B)):t<=q:=by
 obtain⟨C,F,_,_,h⟩:=hB
 obtain⟨_,_,_,_,E⟩:=hT
 exact E.le (X:=mul k A C) (Y:=F) λi _ j O=>by
  rw[eF (A':=A) (B':=mul q C F) (λ_ _=>rfl) (λl hl=>h.eq l hl j O)];exact(mul_assoc _ _ _ _ _ _ _).symm
def sg (i:Nat):Rat:=if i%2=0 then 1 else -1
def s8 (i:Nat):sg (i+1)= -sg i:=by
 unfold sg
 rcases Nat.mod_two_eq_zero_or_one i with h|h
 · rw[if_neg J,if_pos h]
 · rw[if_pos J,if_neg J];grind
def mn (i:Nat)(A:Mx):Mx:=λr c=>A (sk i r) (c+1)
def det:Nat->Mx->Rat
 |0,_=>1
 |n+1,A=>sm (n+1) λi=>sg i*A i 0*det n (mn i A)
def mr (k:Nat)(A:Mx):Mx:=λr c=>A (r+1) (sk k c)
def A6:Nat->Mx->Rat
 |0,_=>1
 |n+1,A=>sm (n+1) λk=>sg k*A 0 k*A6 n (mr k A)
def RI (h:i<n):sk k i<n+1:=by unfold sk;split <;>omega
def fk:∀{n:Nat} {A B:Mx},jB n n A B->det n A=det n B
 |0,_,_,_=>rfl
 | n+1,A,B,h=>ap λi hi=>by
   rw[h i hi 0 J,fk (A:=mn i A) (B:=mn i B) λr hr c hc=>h _ (RI hr) _ J]
def Lq:∀(n:Nat) (A:Mx),det n (tr A)=A6 n A
 |0,_=>rfl
 | n+1,A=>ap λi _=>by
   show sg i*A 0 i*det n (mn i (tr A))=_
   rw[show mn i (tr A)=tr (mr i A)from rfl,Lq n]
def ic (f:Nat->Rat):∀n,sm (n+1) f=f 0+sm n (λi=>f (i+1))
 |0=>by simp only[sm];grind
 | n+1=>by
   rw[show sm (n+1+1) f=sm (n+1) f+f (n+1)from rfl,ic f n]
   simp only[sm];grind
def sk0 (r:Nat):sk 0 r=r+1:=by simp[sk]
def RJ (i:Nat):sk (i+1) 0=0:=by simp[sk]
def RL (i r:Nat):sk (i+1) (r+1)=sk i r+1:=by unfold sk;split <;>split <;>omega
def qb:∀(n:Nat) (A:Mx),det n A=A6 n A
 |0,_=>rfl
 |1,A=>by simp[det,A6,sm]
 | n +2,A=>by
   rw[det,ic,A6,ic (λk=>sg k*A 0 k*A6 (n+1) (mr k A))]
   have h0:mn 0 A=mr 0 A:=by funext r c;simp[mn,mr,sk0]
   rw[h0,qb (n+1) (mr 0 A)]
   let D:Nat->Nat->Mx:=λi k r c=>A (sk i r+1) (sk k c+1)
   have h1:∀i,i<n+1->sg (i+1)*A (i+1) 0*det (n+1) (mn (i+1) A)=sm (n+1) λk=> -(sg i*sg k)*(A (i+1) 0*A 0 (k+1))*det n (D i k):=by
    intro i _
    rw[qb (n+1),A6,<-di]
    refine ap λk _=>?_
    rw[show mr k (mn (i+1) A)=D i k by funext r c;simp[mr,mn,D,RL],<-qb n,s8]
    show _*(sg k*A (sk (i+1) 0) (k+1)*_)=_
    rw[RJ];grind
   have h2:∀k,k<n+1->sg (k+1)*A 0 (k+1)*A6 (n+1) (mr (k+1) A)=sm (n+1) λi=> -(sg i*sg k)*(A (i+1) 0*A 0 (k+1))*det n (D i k):=by
    intro k _
    rw[<-qb (n+1),det,<-di]
    refine ap λi _=>?_
    rw[show mn i (mr (k+1) A)=D i k by funext r c;simp[mr,mn,D,RL],s8]
    show _*(sg i*A (i+1) (sk (k+1) 0)*_)=_
    rw[RJ];grind
   rw[ap h1,ap h2,iR]
def kA (n:Nat)(A:Mx):det n (tr A)=det n A:=by rw[Lq,qb]
def ur (A:Mx)(k:Nat)(u:Nat->Rat):Mx:=λi j=>if i=k then u j else A i j
def oI {A:Mx}:mn k (ur A k u)=mn k A:=by
 funext r c;unfold mn ur;rw[if_neg (by unfold sk;split <;>omega)]
def pk (i k:Nat):Nat:=if k<i then k else k-1
def Lr {A:Mx}(h:i≠k):mn i (ur A k u)=ur (mn i A) (pk i k) (λj=>u (j+1)):=by
 funext r c;unfold mn ur
 have:(sk i r=k)↔(r=pk i k):=by unfold sk pk;split <;>split <;>omega
 by_cases e:sk i r=k
 · rw[if_pos e,if_pos (this.1 e)]
 · rw[if_neg e,if_neg (λh=>e (this.2 h))]
def s9:∀(n:Nat) (A:Mx) (k:Nat) (u v:Nat->Rat) (c:Rat),k<n->det n (ur A k (λj=>u j+c*v j))=det n (ur A k u)+c*det n (ur A k v)
 |0,_,_,_,_,_,h=>absurd h J
 | n +1,A,k,u,v,c,h=>by
   simp only[det]
   rw[<-di,<-lP]
   refine ap λi hi=>?_
   by_cases e:i=k
   · subst e
     rw[oI,oI,oI]
     simp only[ur,if_true];grind
   · rw[Lr e,Lr e,Lr e,s9 n _ _ (λj=>u (j+1)) (λj=>v (j+1)) c (by unfold pk;split <;>omega)]
     simp only[ur,if_neg e];grind
def tc (A:Mx)(k:Nat):ur A k (A k)=A:=by funext i j;unfold ur;split <;>simp_all
def xd {A:Mx}(u:Nat->Rat)(c:Rat)(h:k<n):det n (ur A k (λj=>c*u j))=c*det n (ur A k u):=by
 have h1:=s9 n A k u u (c-1) h
 rw[show(λj=>u j+(c-1)*u j)=λj=>c*u j by funext j;grind]at h1
 rw[h1];grind
def A7 {A:Mx}(h:k<n)(hz:∀j,j<n->A k j=0):det n A=0:=by
 have h1:=xd (A:=A) (A k) 0 h
 rw[tc]at h1
 rw[<-Rat.zero_mul (det n A),<-h1]
 refine fk λi _ j E=>?_
 unfold ur
 split
 · rename_i e;subst e;rw[hz j E];grind
 · rfl
def sa (k i:Nat):Nat:=if i=k then k+1 else if i=k+1 then k else i
def RN (f:Nat->Rat)(k:Nat):∀n,k+1<n->sm n (λi=>f (sa k i))=sm n f
 |0,h=>absurd h J
 | n +1,h=>by
   by_cases e:k+1=n
   · subst e
     show sm k (λi=>f (sa k i))+f (sa k k)+f (sa k (k+1))=sm k f+f k+f (k+1)
     rw[ap (g:=f) (n:=k) (λi hi=>by unfold sa;rw[if_neg J,if_neg J])]
     rw[show sa k k=k+1 by simp[sa],show sa k (k+1)=k by simp[sa]];grind
   · show sm n (λi=>f (sa k i))+f (sa k n)=sm n f+f n
     rw[RN f k n J,show sa k n=n by unfold sa;rw[if_neg J,if_neg J]]
def UN {r:Nat}:sa i (sk i r)=sk (i+1) r:=by unfold sa sk;grind
def UO {r:Nat}:sa k (sk (k+1) r)=sk k r:=by unfold sa sk;grind
def UP {r:Nat}(e1:¬i=k)(e2:¬i=k+1):sa k (sk i r)=sk i (sa (if k<i then k else k-1) r):=by unfold sa sk;grind
def va:∀(n:Nat) (A:Mx) (k:Nat),k+1<n->det n (λi j=>A (sa k i) j)= -det n A
 |0,_,_,h=>absurd h J
 | n + 1,A,k,h=>by
   simp only[det]
   rw[<-RN (λi=>sg i*A i 0*det n (mn i A)) k (n+1) h,show∀x:Rat,- x=(-1)*x by intro x;grind,<-di]
   refine ap λi hi=>?_
   by_cases e1:i=k
   · subst e1
     rw[show mn i (λi' j=>A (sa i i') j)=mn (i+1) A by
      funext r c;show A (sa i (sk i r)) (c+1)=A (sk (i+1) r) (c+1);rw[UN]]
     rw[show sa i i=i+1 by simp[sa],s8];grind
   · by_cases e2:i=k+1
     · subst e2
       rw[show mn (k+1) (λi' j=>A (sa k i') j)=mn k A by
        funext r c;show A (sa k (sk (k+1) r)) (c+1)=A (sk k r) (c+1);rw[UO]]
       rw[show sa k (k+1)=k by simp[sa],s8];grind
     · rw[show sa k i=i by unfold sa;rw[if_neg e1,if_neg e2]]
       rw[show mn i (λi' j=>A (sa k i') j)=λr j=>mn i A (sa (if k<i then k else k-1) r) j by
        funext r c;show A (sa k (sk i r)) (c+1)=A (sk i (sa (if k<i then k else k-1) r)) (c+1);rw[UP e1 e2]]
       rw[va n _ _ ke0];grind
def sx (p r i:Nat):Nat:=if i=p then r else if i=r then p else i
def DF:∀(d n:Nat) (A:Mx) (p:Nat),p+d+1<n->det n (λi j=>A (sx p (p+d+1) i) j)= -det n A
 | 0,n,A,p,h=>by
   rw[show(λi j=>A (sx p (p+0+1) i) j)=λi j=>A (sa p i) j from rfl];exact va n A p h
 | d +1,n,A,p,h=>by
   have h1:=va n (λi j=>A (sx (p+1) (p+1+d+1) (sa p i)) j) p J
   have h2:=DF d n (λi j=>A (sa p i) j) (p+1) J
   have h3:=va n A p J
   have h4:=va n (λi j=>A (sa p (sx (p+1) (p+1+d+1) i)) j) p J
   rw[show(λi j=>A (sx p (p+(d+1)+1) i) j)=λi j=>A (sa p (sx (p+1) (p+1+d+1) (sa p i))) j by
    funext i j;congr 1;unfold sx sa;split <;>(try split) <;>(try split) <;>(try split) <;>(try split) <;>(try split) <;>(try split) <;>omega]
   rw[h4,h2,h3];grind
def A8 {A:Mx}{r:Nat}(hp:p<n)(hr:r<n)(hne:p≠r):det n (λi j=>A (sx p r i) j)= -det n A:=by
 rcases Nat.lt_or_gt_of_ne hne with h|h
 · obtain⟨d,rfl⟩:∃d,r=p+d+1:=⟨r-p-1,by omega⟩
   exact DF d n A p hr
 · obtain⟨d,rfl⟩:∃d,p=r+d+1:=⟨p-r-1,by omega⟩
   rw[<-DF d n A r hp]
   congr 1
   funext i j;congr 1;unfold sx;split <;>split <;>(try split) <;>omega
def A9 {A:Mx}{r:Nat}(hp:p<n)(hr:r<n)(hne:p≠r)(h:∀j,j<n->A p j=A r j):det n A=0:=by
 have h1:=A8 (A:=A) hp hr hne
 rw [fk (A:=λi j=>A (sx p r i) j) (B:=A) (λi _ j E=>by
  show A (sx p r i) j=A i j
  unfold sx;split
  · rename_i e;rw[e,h j E]
  · split
    · rename_i e;rw[e,h j E]
    · rfl)]at h1
 grind
def DG {A:Mx}(c:Rat)(hi:i<n)(hk:k<n)(hne:i≠k):det n (ur A i (λj=>A i j+c*A k j))=det n A:=by
 rw[s9 n A i (A i) (A k) c hi,tc,A9 (A:=ur A i (A k)) hi hk hne (λj _=>by unfold ur;rw[if_pos Z,if_neg (λe=>hne e.symm)])]
 grind
def yN:∀n,det n one=1
 |0=>rfl
 | n+1=>by
   rw[det,ic,dD (n:=n) (λi _=>by unfold one;rw[if_neg J];grind)]
   rw[fk (A:=mn 0 one) (B:=one) (λi _ j _=>by unfold mn one;rw[sk0];simp),yN n]
   unfold one sg;simp;grind
end La
