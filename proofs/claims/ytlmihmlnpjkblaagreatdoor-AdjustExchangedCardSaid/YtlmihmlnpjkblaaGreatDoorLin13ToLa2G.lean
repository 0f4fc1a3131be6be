/- Part of the proof of a statement about an adjustment. -/
import Derived.Test.YtlmihmlnpjkblaaGreatDoorLin6ToLin10G
set_option linter.all false
namespace Go.Proofs.YtlmihmlnpjkblaaGreatDoor
variable {lo n C D lo2 b1 b2 l0' l1' n0 n1 c0 c1 i b k j a f h ny CY nb CB:Nat}{H G:Nat->Value}{A B A0 A1 Y:Option Addr}{w W:World}
section
set_option maxRecDepth 100000
open Go Go.Eng Go.RowKit Tryz
attribute [local irreducible] wpListIn Code.wpIn Oper.wpIn Exit.then Exit.inBlock Exit.noGoto
set_option maxHeartbeats 40000000
def Fl {m:Nat}{L K:Rows}{v:Value}(h:vM n L=true/\vM m K=true/\(L 0).length=m)(ho:nj lo w n (AH n (K 0).length L K) v):nj lo w n (dM n L m K) v:=by unfold dM;rw[if_pos h];exact ho
def Dr {m:Nat}{L K:Rows}(h:¬(vM n L=true/\vM m K=true/\(L 0).length=m)):nj lo w n (dM n L m K) (.tuple #[.slice none 0 0,.int .i64 130]):=by unfold dM;rw[if_neg h];rfl
def lJ (n:Nat)(L:Rows):Option R:=(elim n n n L).bind (ox n)
section
variable {L:Rows}{s:El}{d:R}
def Hf (h:elim n n n L=none):lJ n L=none:=by unfold lJ;rw[h];rfl
def Hg (h:elim n n n L=some s)(hp:s.piv.length<n):lJ n L=some z0:=by unfold lJ;rw[h];show ox n s=_;unfold ox;rw[if_pos hp]
def O0 (h:elim n n n L=some s)(hp:¬s.piv.length<n)(hq:iq s.piv s.piv.length 0 o1=none):lJ n L=none:=by unfold lJ;rw[h];show ox n s=_;unfold ox;rw[if_neg hp,hq];rfl
def O1 (h:elim n n n L=some s)(hp:¬s.piv.length<n)(hq:iq s.piv s.piv.length 0 o1=some d)(hs:¬s.sw%2=1):lJ n L=some d:=by unfold lJ;rw[h];show ox n s=_;unfold ox;rw[if_neg hp,hq];simp only[Option.map_some];rw[if_neg hs]
def O2 (h:elim n n n L=some s)(hp:¬s.piv.length<n)(hq:iq s.piv s.piv.length 0 o1=some d)(hs:s.sw%2=1):lJ n L=some (r7 d):=by unfold lJ;rw[h];show ox n s=_;unfold ox;rw[if_neg hp,hq];simp only[Option.map_some];rw[if_pos hs]
def Uk (h:vF n L=true):Ks (lJ n L)=Ks (kU n L):=by unfold kU;rw[if_pos h];rfl
end
set_option maxHeartbeats 2000000 in
def Fo {L:Rows}(hM:Mt w lo A n H L){m:Nat}{K:Rows}(hN:Mt w lo2 B m G K)(hb1:ar w b1 27 #[.slice A n C])(hb2:ar w b2 27 #[.slice B m D])(hv:VM n L)(hu:VM m K)(hLm:(L 0).length=m)(ht:Tb w):
 CL 72 #[pT b1,pT b2] w (jj PN w (AH n (K 0).length L K) (λK' v w'=>dI w.heap.size w' v n K')):=by
 refine iW func72 Z (I ?_);rcases cm:AH n (K 0).length L K with _|cw;refine I ?_;refine aa (ju (v:=.agg #[]) mm Z Z ?_);refine I ?_;refine aa (dO (vs:=[.slice A n C,.iface 106 (.agg #[]),.slice B m D]) VP Z (ad9 cm (wO (hM.ext (aa0 _)) (hN.ext (aa0 _)) hv hu hLm (ht.ext (aa0 _)))) (λ_ Af=>?_));have A2:=Af;refine I ?_;exact gD ⟨A2,(by first|exact cm|rfl),rfl⟩;refine I ?_;refine aa (ju (v:=.agg #[]) mm Z Z ?_);refine I ?_;refine cl VP (ad7 cm (wO (hM.ext (aa0 _)) (hN.ext (aa0 _)) hv hu hLm (ht.ext (aa0 _)))) ?_;rintro E _ O Ab;have Am:=O.2;refine aa (aJ (v:=E) Z ?_);refine I ?_;exact mz (v:=E) (cC Z (aL (t:=2) Wf _)) ⟨Am,cw,(by first|assumption|rfl),dI.mono U Ab⟩
def O3 {L:Rows}(hM:Mt w lo A n H L)(hB:Bd n L){m:Nat}{K:Rows}(hN:Mt w lo2 B m G K)(hB2:Bd m K)(ht:Tb w):
 CL 28 #[.slice A n C,.slice B m D] w (aH w λv w'=>nj w.heap.size w' n (dM n L m K) v):=by
 refine aC func28 Z (I ?_);refine bx (λA2 B1 O=>?_);have E:=B1.2;refine bx (λ_ CG Ab=>?_);have⟨O,E⟩:=bw CG.2 O E;refine I ?_;rcases qa4 (vM n L)with cw|cw;have hv:=jc cw;have ES:=hv.1;have E9:=hv.2.1;rcases qa4 (vM m K)with cv|cv;have hu:=jc cv;refine bP 15 ?_;refine sf ?_;refine a7 (V:=.bool (vM n L)) (λ_ _ Aq _=>?_) ?_;refine cl tg (val_ok (hM.ext (xt E Aq)) hB (ht.ext (xt E Aq))) ?_;rintro _ _ B0 rfl;have C0:=B0.2;refine I ?_;exact fs ⟨C0,rfl⟩;refine sf ?_;refine a7 (V:=.bool (vM m K)) (λ_ _ Ar _=>?_) ?_;refine I ?_;refine cl tg (val_ok (hN.ext (xt E Ar)) hB2 (ht.ext (xt E Ar))) ?_;rintro _ _ D2 rfl;have Cr:=D2.2;refine I ?_;exact fs ⟨Cr,rfl⟩;refine sf ?_;refine aB (λ_ _ E5 _=>by have Ax:=aa6 (hM.ext (xt E E5)) (i:=0) U;refine I ?_;refine eI Ax ?_ (i:=0);refine I ?_;exact aK) ?_;refine aB (λ_ _ nm _=>by have EW:=aa6 (hM.ext (xt E nm)) (i:=0) U;refine I ?_;exact aK) ?_;refine sf ?_;intro _ _ E7 _;have⟨O,Ab,E⟩:=cD E7.2 O Ab E;with_reducible refine ix Z ?_
 refine I ?_;by_cases aoo:(((L 0).length:Nat):Int)=(m:Int);refine I ?_;rcases fy:AH n (K 0).length L K with _|aq7;refine I ?_;refine aa (aE (vf:=[]) (vc:=[pT w.heap.size,pT A2.heap.size]) Z Z ?_);refine clb VN (hc:=Fh (lb:=[pT w.heap.size,pT A2.heap.size]) (n:=n) VO (λW hE=>Fo ((hM.ext E).ext hE) ((hN.ext E).ext hE) (O.ext hE) (Ab.ext hE) hv hu U (ht.ext (xt E hE)))) (hk:=?_);rintro _ _ E1 Af;have E:=xt E E1.2;rw[fy]at Af;subst Af;refine I ?_;exact bF (t:=4) (u:=5) (v1:=.slice none 0 0) (v2:=.int .i64 130) Z E (Fl ⟨cw,cv,by omega⟩ (by rw[fy];exact Z)) Z Z;refine I ?_;refine aa (aE (vf:=[]) (vc:=[pT w.heap.size,pT A2.heap.size]) Z Z ?_);refine clb VN (hc:=Fh (lb:=[pT w.heap.size,pT A2.heap.size]) (n:=n) VO (λW hE=>Fo ((hM.ext E).ext hE) ((hN.ext E).ext hE) (O.ext hE) (Ab.ext hE) hv hu U (ht.ext (xt E hE)))) (hk:=?_);rintro _ _ Ay Am;have E:=xt E Ay.2;rw[fy]at Am;obtain⟨Av,rfl,E6⟩:=Am;refine I ?_;refine aa (aJ (v:=Av) Z ?_);refine I ?_;exact bF (t:=4) (u:=5) (v1:=Av) (v2:=.int .i64 0) Z E (Fl ⟨cw,cv,by omega⟩ (by rw[fy];exact⟨_,rfl,dI.mono U E6⟩)) Z Z
 refine I ?_;exact bF (t:=4) (u:=5) (v1:=.slice none 0 0) (v2:=.int .i64 130) Z E (Dr kb8) rfl rfl;refine bP 15 ?_;refine sf ?_;refine a7 (V:=.bool (vM n L)) (λ_ _ As _=>?_) ?_;refine cl tg (val_ok (hM.ext (xt E As)) hB (ht.ext (xt E As))) ?_;rintro _ _ ny rfl;have D1:=ny.2;refine I ?_;exact fs ⟨D1,rfl⟩;refine sf ?_;refine a7 (V:=.bool (vM m K)) (λ_ _ Ap _=>?_) ?_;refine I ?_;refine cl tg (val_ok (hN.ext (xt E Ap)) hB2 (ht.ext (xt E Ap))) ?_;rintro _ _ od rfl;have E4:=od.2;refine I ?_;exact fs ⟨E4,rfl⟩;refine sf ?_;intro _ _ Aw _;have E:=xt E Aw.2;(with_reducible refine ix Z ?_);refine I ?_;exact bF (t:=4) (u:=5) (v1:=.slice none 0 0) (v2:=.int .i64 130) Z E (Dr kb8) rfl rfl;refine bP 15 ?_;refine sf ?_;refine a7 (V:=.bool (vM n L)) (λ_ _ Ao _=>?_) ?_;refine cl tg (val_ok (hM.ext (xt E Ao)) hB (ht.ext (xt E Ao))) ?_;rintro _ _ E0 rfl;have Az:=E0.2;refine I ?_;exact fs ⟨Az,rfl⟩;refine sf ?_;intro _ _ B2 _;have E:=xt E B2.2;(with_reducible refine ix Z ?_);refine I ?_;exact bF (t:=4) (u:=5) (v1:=.slice none 0 0) (v2:=.int .i64 130) Z E (Dr kb8) Z Z
set_option maxHeartbeats 2000000 in
def Fp {L:Rows}(hM:Mt w lo A n H L)(hv:VM n L)(hn0:n=(L 0).length)(ht:Tb w):
 CL 176 #[.slice A n C,.iface 106 (.agg #[])] w (jj PN w (lJ n L) (λd v _=>v=.agg #[S d.1,S d.2])):=by
 have Az:=hv.ok;have N0:=hv.1;have P2:=hv.2.1;rw[<-hn0]at Az;have E0:=aa0 w;refine iW func176 Z (I ?_);refine al aZ (λB2 KY E=>?_);have E0:=xt E0 KY.2;refine I ?_;rcases lr:elim n n n L with _|cx;refine I ?_;refine aa (dO (vs:=[.slice A n C,.iface 106 (.agg #[]),.int .i64 n]) Ni Z (ad9 lr (sP (Mt.mono (qa7 _) (hM.ext E0)) Az U U U U (ht.ext E0))) (λ_ KC=>?_));have E0:=xt E0 KC;refine I ?_;exact gD ⟨E0,(Hf lr),rfl⟩;refine I ?_;refine clb Ni (hc:=ad7 lr (sP (Mt.mono (qa7 _) (hM.ext E0)) Az U U U U (ht.ext E0))) (hk:=?_);rintro _ B1 H2 Kp;have⟨E,E0⟩:=bw H2.2 E E0;obtain⟨E4,L3,K2,Cr,Ix,E1,L2,rfl,_,E7,ES,Lj⟩:=vR.get Kp;have Am:=ab6 E7;have Ab:=ab9 ES;have Af:=ab9 Lj;have No:=pM Az U lr;refine al td (λ_ Ax La=>?_);have E:=be Ax.2 E;have Am:=aa7 Ax.2 Am;have Ab:=ab3 Ax.2 Ab;have Af:=ab3 Ax.2 Af;have E0:=xt E0 Ax.2;refine SA La (λ_ Ap O=>?_);have E:=pb Ap E;have Am:=ad0 Ap U Am;have Ab:=ac1 Ap U Ab
 have Af:=ac1 Ap U Af;have E0:=bA Ap E0;have P1:=ij Ap;refine I ?_;by_cases ao3:((cx.piv.length:Nat):Int)<(n:Int);refine I ?_;refine aa (CO (t:=106) (v:=.agg #[]) (vs:=[]) BW kS mm Z Z Z (lG _) ?_);rintro _ _ wr rfl;have⟨E,O,E0⟩:=cD wr.2 E O E0;refine SA E (λ_ C0 EW=>?_);have O:=pb C0 O;have E0:=bA C0 E0;refine I ?_;refine mz (v:=.agg #[S ((z0).1),S ((z0).2)]) (cC Z ?_) ⟨E0,_,Hg lr U,rfl⟩;refine ak (t:=4) (cs:=[S ((z0).1),S ((z0).2)]) (b:=w.heap.size) (o:=0) iT Z bX ?_ ?_;exact Z;exact aa1 EW (i:=0) Z;refine I ?_;refine aa (CO (t:=106) (v:=.agg #[]) (vs:=[]) QB EZ mm Z Z Z (J2 _) ?_);rintro _ H3 Aw rfl;have E:=be Aw.2 E;have Am:=aa7 Aw.2 Am;have Ab:=ab3 Aw.2 Ab;have Af:=ab3 Aw.2 Af;have⟨O,E0⟩:=bw Aw.2 O E0;refine al aZ (λ_ Aq H4=>?_);have E:=be Aq.2 E;have Am:=aa7 Aq.2 Am;have Ab:=ab3 Aq.2 Ab;have Af:=ab3 Aq.2 Af;have⟨O,E0⟩:=bw Aq.2 O E0;refine SA H4 (λLi Ar Ao=>?_);have E:=pb Ar E;have Am:=ad0 Ar U Am;have Ab:=ac1 Ar U Ab;have Af:=ac1 Ar U Af;have⟨O,E0,_⟩:=kC Ar O E0;refine I ?_
 refine ck [(8,8),(27,35)] (λKM e W=>∃i:Nat,∃d:R,(cx.piv.length-i=KM)/\(e 27=.int .i64 i)/\(i<=cx.piv.length)/\(bN d=true)/\(iq cx.piv (cx.piv.length-i) i d=iq cx.piv cx.piv.length 0 o1)/\(Li.heap.size<=W.heap.size)/\(aN w W)/\(ar W w.heap.size 33 #[S [],S []])/\(oG W B2.heap.size B1.heap.size E4 n K2 cx.L)/\(pP W B2.heap.size B1.heap.size Cr (ag cx.piv))/\(pP W B2.heap.size B1.heap.size E1 (ints cx.cols))/\(ar W B1.heap.size 103 #[.slice E4 n L3,.slice Cr cx.piv.length Ix,.slice E1 cx.cols.length L2,.bool (decide (cx.sw%2=1))])/\(ar W H3.heap.size 33 #[S d.1,S d.2])) (cx.piv.length-0) ⟨0,o1,rfl,rfl,(qa7 _),Yx,rfl,(qa0 _),E0,E,Am,Ab,Af,O,Ao⟩ ?_;rintro _ _ _ ⟨i,d,rfl,Lk,hi_i,hd,hP,P0,A2,E,Am,Ab,Af,O,Ao⟩;have Ne:=bz A2;by_cases hl_i:i<cx.piv.length;have L4:=aV (Ab).rw (k:=(i)) U;refine I ?_;refine jv L4 (I ?_);refine al aZ (λ_ Av FR=>?_);have E:=be Av.2 E;have Am:=aa7 Av.2 Am;have Ab:=ab3 Av.2 Ab;have Af:=ab3 Av.2 Af;have⟨O,Ao,A2⟩:=cD Av.2 O Ao A2;refine SA FR (λ_ As B0=>?_);have E:=pb As E;have Am:=ad0 As U Am;have Ab:=ac1 As U Ab;have Af:=ac1 As U Af;have⟨O,Ao,A2,_⟩:=tK As O Ao A2;refine I ?_;rcases aoq:gj d (ap cx.piv i)with _|aoy;refine I ?_;refine aa (gQ (t:=106) (v:=.agg #[]) (vs:=[.agg #[S d.1,S d.2],.agg #[S ((ap cx.piv i).1),S ((ap cx.piv i).2)]]) wh ko mm Z Z Z (ad9 aoq (qV d (ap cx.piv i) _ (ht.ext A2))) (λ_ L1=>?_));have A2:=xt A2 L1;refine I ?_;exact gD ⟨A2,(O0 lr U (Do hl_i hP aoq)),rfl⟩;refine I ?_;refine aa (CO (t:=106) (v:=.agg #[]) (vs:=[.agg #[S d.1,S d.2],.agg #[S ((ap cx.piv i).1),S ((ap cx.piv i).2)]]) wh ko mm Z Z Z (ad7 aoq (qV d (ap cx.piv i) _ (ht.ext A2))) ?_);rintro _ _ nm rfl;have E:=be nm.2 E;have Am:=aa7 nm.2 Am;have Ab:=ab3 nm.2 Ab;have Af:=ab3 nm.2 Af;have⟨O,Ao,B0,A2⟩:=fE nm.2 O Ao B0 A2;refine SA Ao (λ_ Ay G0=>?_);have E:=pb Ay E;have Am:=ad0 Ay U Am;have Ab:=ac1 Ay U Ab;have Af:=ac1 Ay U Af;have⟨O,B0,A2,_⟩:=tK Ay O B0 A2;refine I ?_;refine gR ?_
 refine I ?_;exact bJ ⟨i+1,aoy,rfl,rfl,U,(ET aoq),(Dn hl_i hP aoq),U,A2,E,Am,Ab,Af,O,G0⟩;have hP2:=G6 hl_i hP;refine I ?_;by_cases aos:cx.sw%2=1;refine I ?_;refine bP 7 ?_;refine sf ?_;refine a7 (V:=.agg #[S ((z0).1),S ((z0).2)]) (λ_ _ _ _=>?_) ?_;refine aa (CO (t:=106) (v:=.agg #[]) (vs:=[]) BW kS mm Z Z Z (lG _) ?_);rintro _ _ ny rfl;have K3:=ny.2;refine I ?_;exact fs ⟨K3,rfl⟩;refine sf ?_;refine aB (λ_ _ _ _=>by refine aa (aE (vf:=[.iface 106 (.agg #[])]) (vc:=[]) Z Z ?_);refine I ?_;exact aK) ?_;refine aB (λ_ _ _ _=>by refine aa (qE (t:=106) (v:=.agg #[]) pC mm Z Z ?_);refine I ?_;exact aK) ?_;refine sf ?_;intro _ _ od _;have⟨E,O,Ao,A2⟩:=fE od.2 E O Ao A2;refine aa (CO (t:=106) (v:=.agg #[]) (vs:=[.agg #[S ((z0).1),S ((z0).2)],.agg #[S d.1,S d.2]]) Io pC mm Z Z Z (ad7 (qY hd) (Dc z0 d _ (ht.ext A2))) ?_);rintro _ _ E6 rfl;have⟨E,O,Ao,A2⟩:=fE E6.2 E O Ao A2;refine SA Ao (λ_ E5 D1=>?_);have⟨E,O⟩:=lw E5 E O;have A2:=bA E5 A2;refine I ?_;refine SA E (λ_ D2 E9=>?_);have⟨O,D1⟩:=lw D2 O D1;have A2:=bA D2 A2;refine I ?_;refine mz (v:=.agg #[S ((r7 d).1),S ((r7 d).2)]) (cC Z ?_) ⟨A2,_,O2 lr U hP2 aos,rfl⟩
 refine ak (t:=4) (cs:=[S ((r7 d).1),S ((r7 d).2)]) (b:=w.heap.size) (o:=0) iT Z bX ?_ ?_;exact Z;exact aa1 E9 (i:=0) Z;refine I ?_;refine SA E (λ_ CG GC=>?_);have⟨O,Ao⟩:=lw CG O Ao;have A2:=bA CG A2;refine I ?_;refine mz (v:=.agg #[S d.1,S d.2]) (cC Z ?_) ⟨A2,_,O1 lr U hP2 aos,rfl⟩;refine ak (t:=4) (cs:=[S d.1,S d.2]) (b:=w.heap.size) (o:=0) iT Z bX ?_ ?_;exact Z;exact aa1 GC (i:=0) Z
set_option maxHeartbeats 2000000 in
def O4 {L:Rows}(hM:Mt w lo A n H L)(hv:VM n L)(hn0:n=(L 0).length)(hb1:ar w b1 27 #[.slice A n C])(ht:Tb w):
 CL 175 #[pT b1] w (jj PN w (lJ n L) (λd v _=>v=.agg #[S d.1,S d.2])):=by
 have Ap:=bt hb1;refine iW func175 Z (I ?_);refine al aZ (λ_ Ab O=>?_);have hb1:=be Ab.2 hb1;have E:=Ab.2;refine I ?_;rcases cv:lJ n L with _|cm;refine I ?_;refine aa (ju (v:=.agg #[]) mm Z Z ?_);refine aa (dO (vs:=[.slice A n C,.iface 106 (.agg #[])]) VE Z (ad9 cv (Fp (hM.ext E) hv hn0 (ht.ext E))) (λ_ Ao=>?_));have E:=xt E Ao;refine I ?_;exact gD ⟨E,(by first|exact cv|rfl),rfl⟩;refine I ?_;refine aa (ju (v:=.agg #[]) mm Z Z ?_);refine cl VE (ad7 cv (Fp (hM.ext E) hv hn0 (ht.ext E))) ?_;rintro _ _ Af rfl;have⟨hb1,O,E⟩:=cD Af.2 hb1 O E;refine SA O (λ_ A2 Am=>?_);have hb1:=pb A2 hb1;have E:=bA A2 E;refine I ?_;refine mz (v:=.agg #[S ((cm).1),S ((cm).2)]) (cC Z ?_) ⟨E,cm,(by first|exact cv|rfl),rfl⟩;refine ak (t:=1) (cs:=[S ((cm).1),S ((cm).2)]) (b:=w.heap.size) (o:=0) iT Z bX ?_ ?_;exact Z;exact aa1 Am (i:=0) Z
def Fq {L:Rows}(hM:Mt w lo A n H L)(hB:Bd n L)(ht:Tb w):
 CL 133 #[.slice A n C] w (aH w λv w'=>v=Ks (kU n L)):=by
 refine aC func133 Z (I ?_);refine bx (λAf Aq O=>?_);have E:=Aq.2;refine al aZ (λ_ As A2=>?_);have⟨O,E⟩:=bw As.2 O E;refine I ?_;refine cl R0 (KE (hM.ext E) hB (ht.ext E)) ?_;rintro _ _ Aw rfl;have⟨O,A2,E⟩:=cD Aw.2 O A2 E;refine I ?_;rcases qa4 (KD n L)with cw|cw;have Ab:vF n L=true:=cw;have hv:=(nH Ab).1;have Ap:=(nH Ab).2;refine I ?_;refine aa (aE (vf:=[]) (vc:=[pT w.heap.size]) Z Z ?_);refine cl YK (OS (lb:=[pT w.heap.size]) YL (λW hE=>O4 ((hM.ext E).ext hE) hv Ap (O.ext hE) (ht.ext (xt E hE)))) ?_;rintro _ _ Ar rfl;have⟨O,A2,E⟩:=cD Ar.2 O A2 E;refine I ?_;refine SA A2 (λ_ Am Ax=>?_);have O:=pb Am O;have E:=bA Am E;refine I ?_;refine ba (v:=.tuple #[.agg #[S (rN (lJ n L)),S (rD (lJ n L))],.int .i64 (Vk (lJ n L).isSome)]) (de (r1:=.cell 2 33) (r2:=.tmp 3) Z ?_ ?_) E (Uk Ab);refine ak (t:=2) (cs:=[S (rN (lJ n L)),S (rD (lJ n L))]) (b:=Af.heap.size) (o:=0) iT Z bX ?_ ?_;exact Z;exact aa1 Ax (i:=0) Z;exact aL (t:=3) Wf _;refine I ?_;refine SA A2 (λ_ Ao Av=>?_);have O:=pb Ao O
 have E:=bA Ao E;refine I ?_;refine ba (v:=.tuple #[.agg #[S [],S []],.int .i64 130]) (de (r1:=.cell 2 33) (r2:=.tmp 3) Z ?_ ?_) E (Uj kb1);refine ak (t:=2) (cs:=[S [],S []]) (b:=Af.heap.size) (o:=0) iT Z bX ?_ ?_;exact Z;exact aa1 Av (i:=0) Z;exact aL (t:=3) Wf _
def rH {α:Type}(a b:α)(i:Nat):α:=if i=0 then a else b
def Ze {l0 l1:List R}(h:W.ownsRow lo 28 1 (.slice A 2 2) 2 [.slice A0 n0 c0,.slice A1 n1 c1])(r0:Rw W l0' A0 (ag l0))(r1:Rw W l1' A1 (ag l1))(e0:l0.length=n0)(e1:l1.length=n1)(h0:n0<=c0)(h1:n1<=c1):
 Mt W 0 A 2 (rH (.slice A0 n0 c0) (.slice A1 n1 c1)) (rH l0 l1):=by
 subst e0 e1
 refine⟨(ab0 h).mono (qa7 _),λi hi=>?_,λi hi=>?_,λi hi=>?_⟩
 · unfold rH;by_cases e:i=0
   · rw[if_pos e,if_pos e];rfl
   · rw[if_neg e,if_neg e];rfl
 · unfold rH;by_cases e:i=0
   · rw[if_pos e,if_pos e];exact r0.mono (qa7 _)
   · rw[if_neg e,if_neg e];exact r1.mono (qa7 _)
 · unfold rH;by_cases e:i=0
   · rw[if_pos e,if_pos e];exact h0
   · rw[if_neg e,if_neg e];exact h1
def Zf (l0 l1:List R):kX (rH l0 l1) 2=l0++l1:=by simp[kX,rH]
def Wr.setRow {hi:Nat}{L:Rows}{r:Value}{l:List R}(h:Wr W lo hi n H L)(hr:W.ownsRow lo 33 2 r l.length (ag l))(hne:∀j,j<n->ay r (H j)):Wr W lo W.heap.size n (bD H i r) (bD L i l):=by
 refine⟨λj E=>?_,λj E g e=>?_,λj k E hk O=>?_⟩
 · by_cases e:j=i
   · subst e;rw[aX,aX];exact hr
   · rw[bc _ _ e,bc _ _ e];exact h.own j E
 · by_cases e':j=i
   · subst e';rw[aX]at e;exact dG hr g e
   · rw[bc _ _ e']at e;exact dG (h.own j E) g e
 · by_cases e:j=i
   · subst e;rw[aX,bc _ _ (Ne.symm O)];exact hne k hk
   · by_cases e2:k=i
     · subst e2;rw[aX,bc _ _ e];exact aa4 (hne j E)
     · rw[bc _ _ e,bc _ _ e2];exact h.ne j k E hk O
def KU {r:Value}{cs:List Value}(h:∀j,j<n->(H j).ownBlock≠some b)(hr:W.ownsRow lo 33 2 r k cs)(hb:b<lo):∀j,j<n->(bD H i r j).ownBlock≠some b:=λj E e=>by
 by_cases e':j=i
 · subst e';rw[aX]at e;have:=aR hr b e;omega
 · rw[bc _ _ e']at e;exact h j E e
def Xo (hj:j<n):ap (uR i n) j=if i=j then o1 else z0:=by
 rw[eu (by rw[mK];exact hj)];simp[uR]
def Xp (hj:j<n):ap (zs n) j=z0:=by
 rw[eu (by rw[lI];exact hj)];simp[zs]
def Ul (hi:i<n):(zs n).set i o1=uR i n:=by
 refine m7 (by rw[List.length_set,lI,mK]) λj E=>?_
 rw[List.length_set,lI]at E
 rw[lE (by rw[lI];exact hi),Xo E,Xp E]
 by_cases e:j=i
 · rw[if_pos e,if_pos e.symm]
 · rw[if_neg e,if_neg (Ne.symm e)]
def O5 (hn:n<=1000):
 CL 172 #[.slice none 0 0,.int .i64 n] w (aH w λv w'=>World.ownsRow w' w.heap.size 33 2 v 0 (ag [])):=by
 refine aC func172 Z (I ?_);refine aa (Re (A:=none) (m:=0) (c:=0) te Z ?_);refine I ?_;refine qF ?_;refine aa (jq (a:=(n:Int)) (b:=((0:Nat):Int)-((0:Nat):Int)) (c:=(n:Int)) Z Z j0 U ?_);refine I ?_;by_cases cm:0<(n:Int);refine I ?_;refine aa (Re (A:=none) (m:=0) (c:=0) te Z ?_);refine aa (re (A:=none) (m:=0) (c:=0) (j:=0) te bX Z Z (qa7 _) ?_);refine I ?_;refine aa (OL (k:=n) Z Z Z U U (λ_ E O Ab=>?_));have A2:=O;refine I ?_;refine aa (re (A:=some ⟨w.heap.size,0,none⟩) (m:=n) (c:=E) (j:=0) te bX Z Z (qa7 _) ?_);refine I ?_;exact am (t:=4) (v:=.slice (some ⟨w.heap.size,0,none⟩) 0 E) Z A2 (b9 U Ab) Z;refine I ?_;exact am (t:=4) (v:=.slice none 0 0) Z (aa0 _) bO Z
def Um {L:Rows}(hM:Mt w lo A n H L)(hn:n<=16)(hb:∀i,i<n->(L i).length<=16):
 CL 126 #[.slice A n C] w (aH w λv w'=>World.ownsRow w' w.heap.size 33 2 v (kX L n).length (ag (kX L n))):=by
 refine aC func126 Z (I ?_);have B2:=aa0 w;refine ck [(3,3),(5,5),(11,22)] (λAf e W=>∃i:Nat,(n-i=Af)/\(e 11=.int .i64 i)/\(e 3=.int .i64 (((kX L i).length:Nat):Int))/\(i<=n)/\((kX L i).length<=16*i)/\(aN w W)) (n-0) ⟨0,rfl,rfl,rfl,(qa7 _),(qa7 _),B2⟩ ?_;rintro _ _ B0 ⟨i,rfl,E4,E5,D2,E6,A2⟩;have E1:=bz A2;by_cases hli:i<n;have Ax:=hb i hli;have Ar:(kX L (i+1)).length=(kX L i).length+(L i).length:=List.length_append;have As:=aa6 (hM.ext A2) (i:=(i)) U;refine I ?_;refine eI As (I ?_);refine aa (cG (a:=(((kX L i).length:Nat):Int)) (b:=(((L i).length:Nat):Int)) (c:=(((kX L (i+1)).length:Nat):Int)) Z Z j0 (by rw[show(kX L (i+1)).length=(kX L i).length+(L i).length from List.length_append];omega) ?_);refine I ?_;refine gR (I ?_);exact bJ ⟨i+1,rfl,rfl,rfl,U,U,A2⟩;have Az:(kX L i).length<=1000:=J
 refine I ?_;refine cl V1 (O5 Az) ?_;rintro Am Ay Av B1;have A2:=xt A2 Av.2;refine aa (aJ (v:=Am) Z ?_);refine I ?_;refine ck [(6,6),(8,8),(27,34)] (λAf e W=>∃j:Nat,∃E:Value,(n-j=Af)/\(e 27=.int .i64 j)/\(e 6=E)/\(j<=n)/\((kX L j).length<=16*j)/\(Ay.heap.size<=W.heap.size)/\(aN w W)/\(W.ownsRow B0.heap.size 33 2 E ((kX L j).length) (ag (kX L j)))) (n-0) ⟨0,Am,rfl,rfl,rfl,(qa7 _),(qa7 _),(qa0 _),A2,B1⟩ ?_;rintro _ _ _ ⟨j,E,rfl,Cr,Ao,E0,E7,od,O,Ab⟩;have CG:=bz O;by_cases hlj:j<n;have Ax:=hb j hlj;have Ar:(kX L (j+1)).length=(kX L j).length+(L j).length:=List.length_append;have Aw:=aa6 (hM.ext O) (i:=(j)) U;refine I ?_;refine eI Aw (I ?_);refine aa (aY (v:=E) Ao ?_);refine I ?_;refine aa (jI (v:=E) (k:=(kX L j).length) (m:=(L j).length) (news:=ag (L j)) te aZ Z dc Z Ab Z (Mt.row (hM.ext O) j U) (fU _) ol Rd U U (λAp _ C0 Aq _=>?_));have O:=bB Ab U U O Aq;have D1:=Aq.size;refine aa (aJ (v:=Ap) Z ?_);refine I ?_;refine gR (I ?_);exact bJ ⟨j+1,Ap,rfl,rfl,rfl,U,U,U,O,(aP C0 Ar.symm (uC _ _))⟩;refine I ?_;refine aa (aY (v:=E) Ao ?_);refine aa (aJ (v:=E) Z ?_);refine I ?_
 exact am (t:=2) (v:=E) Z O (by have h:=Ab;rw[show j=n by omega]at h;exact b9 U h) Z
def O6 {l0 l1:List R}(h:w.ownsRow lo 28 1 (.slice A 2 2) 2 [.slice A0 n0 c0,.slice A1 n1 c1])(r0:Rw w l0' A0 (ag l0))(r1:Rw w l1' A1 (ag l1))(e0:l0.length=n0)(e1:l1.length=n1)(h0:n0<=c0)(h1:n1<=c1)(b0:n0<=16)(b1:n1<=16):
 CL 126 #[.slice A 2 2] w (aH w λv w'=>World.ownsRow w' w.heap.size 33 2 v (l0++l1).length (ag (l0++l1))):=by
 have hM:=Ze h r0 r1 e0 e1 h0 h1
 have:=Um (C:=2) hM dc (λi _=>by unfold rH;split <;>omega)
 rwa [Zf]at this
def KV {L:Rows}(hM:Mt w lo A n H L){m:Nat}{K:Rows}(hN:Mt w lo2 B m G K)(hn:0<n)(hn16:n<=16)(hm:n<=m)(hb:∀i,i<n->(L i).length<=16)(hc:∀i,i<n->(K i).length<=16):
 CL 68 #[.slice A n C,.slice B m D] w (aH w λv w'=>dI w.heap.size w' v n (λi=>L i++K i)):=by
 have E0:=aa0 w;refine aC func68 Z (I ?_);refine aa (mf (m:=(n)) Ng jK Z Z U Rd (λH3 E9 _ D1=>?_));have E0:=xt E0 E9;obtain⟨cm,w6⟩:∃x,x=some (⟨w.heap.size,0,none⟩:Addr):=⟨_,rfl⟩;rw[<-w6]at D1;obtain⟨Kp,Ax,E6,G0⟩:=m9 D1 U;refine aa (aJ (v:=.slice cm (n) (n)) (qb2 (λa=>Value.slice a n n) w6.symm) ?_);refine I ?_;refine ck [(6,6),(12,28)] (λKC e W=>∃i:Nat,∃H2:Nat->Value,∃K2:Rows,(n-i=KC)/\(e 12=.int .i64 i)/\(i<=n)/\(∀x,x<i->K2 x=L x++K x)/\(∀j,j<n->(H2 j).ownBlock≠some (aO cm))/\(H3.heap.size<=W.heap.size)/\(aN w W)/\(Ho W cm n H2)/\(Wr W w.heap.size W.heap.size n H2 K2)) (n-0) ⟨0,(λ_=>.slice none 0 0),pI,rfl,rfl,(qa7 _),(λx hx=>by omega),G0,(qa0 _),E0,Kp,(Wr.top E6)⟩ ?_;rintro _ _ Af ⟨i,H2,K2,rfl,Q0,W1,hK2,hnoH2,P2,E,hH2,wH2⟩;have VW:=bz E;by_cases hli:i<n;have T3:=hb i hli;have a4:=hc i hli;refine I ?_;have As:=ac3 Af
 refine xK 12 (λls e W=>∃O:Nat,∃A2:Value,(aN w W)/\(Af.heap.size<=W.heap.size)/\(ls 10=true->e 25=.slice (some ⟨O,0,none⟩) 2 2)/\(ls 11=true->e 26=A2)/\(ls 10=true->Af.heap.size<=O/\O<W.heap.size)/\(Ho W cm n H2)/\(Wr W w.heap.size Af.heap.size n H2 K2)/\(ls 10=true->ls 11=false->(World.ownsRow W O 28 1 (.slice (some ⟨O,0,none⟩) 2 2) 2 [.slice (sA (H i)) ((L i).length) (sC (H i)),.slice (sA (G i)) ((K i).length) (sC (G i))]))/\(ls 11=true->(W.ownsRow Af.heap.size 33 2 A2 (((L i)++(K i)).length) (ag ((L i)++(K i)))))) ⟨0,.nilIface,(xt E As),(bz As),(ff Z),(ff Z),(ff Z),(ac0 As hH2),(aa2 As wH2),(λh _=>ff Z h),(λh=>ff Z h)⟩ ?_;refine sf ?_;refine dk (λWV W3 Vm _ No P0 _=>by obtain⟨_,_,E,_⟩:=No;have L2:=aa6 (hM.ext E) (i:=(i)) U;refine I ?_;refine eI L2 ?_;refine I ?_;exact aK) ?_;refine dk (λX2 P1 W2 _ E1 Rm _=>by obtain⟨_,_,E,_⟩:=E1;have V0:=aa6 (hM.ext E) (i:=(i)) U;refine I ?_;exact aK) ?_;refine sf ?_;refine dk (λS0 Wa X0 _ H4 a5 _=>by obtain⟨_,_,E,_⟩:=H4;have E7:=aa6 (hN.ext E) (i:=(i)) U;refine I ?_;refine eI E7 ?_;refine I ?_;exact aK) ?_;refine dk (λW0 T2 a3 _ E4 a2 _=>by obtain⟨_,_,E,_⟩:=E4;have S9:=aa6 (hN.ext E) (i:=(i)) U;refine I ?_;exact aK) ?_
 refine gE (λ_ E5 _ Ix La K3 _=>?_) ?_;obtain⟨O,A2,E,Cr,Aw,nm,Ao,Aq,Ap,Az,B0⟩:=Ix;have ny:=Aq;have od:=Ap;refine Tt (λ_ B1 _ L4=>?_);have ny:=ac0 B1 ny;have od:=aa2 B1 od;have E:=xt E B1;refine I ?_;exact fs ⟨E5.heap.size,A2,E,U,(λ_=>rfl),nm,(λ_=>⟨by omega,by omega⟩),ny,od,(λ_ _=>L4),(λL3=>ff (aT La (i:=10) (j:=11) Z K3) L3)⟩;refine gE (λ_ _ _ Ne _ KM Ay=>?_) ?_;obtain⟨O,A2,E,Cr,Aw,nm,Ao,Aq,Ap,Az,B0⟩:=Ne;have GC:=Aw (Ay 10 Z);have ES:=Ao (Ay 10 Z);have C0:=Aq;have B2:=Ap;have EW:=Az (Ay 10 Z) KM;refine clb YW (hc:=O6 EW (Mt.row (hM.ext E) i U) (Mt.row (hN.ext E) i U) Z Z ((hM.ext E).cap i U) ((hN.ext E).cap i U) U U) (hk:=?_) (hv:=aw GC Z);rintro Lj _ Ar CG;have Ar:=Ar.2;have CG:=b9 (lo':=Af.heap.size) U CG;have C0:=ac0 Ar C0;have B2:=aa2 Ar B2;have E:=xt E Ar;refine I ?_;exact fs ⟨O,Lj,E,U,Aw,(λ_=>rfl),(λx=>by have:=Ao x;omega),C0,B2,(λ_ Li=>tf Z Li),(λ_=>CG)⟩;refine sf ?_;rintro N0 _ _ wr ⟨O,A2,E,Cr,Aw,nm,Ao,Aq,Ap,Az,B0⟩;have ES:=Ao (wr 10 Z);have D2:=Aq;have Am:=Ap;have Ab:=B0 (wr 11 Z);have Lk:=gN D2 Am (i:=(i)) U;refine I ?_;refine eI Lk ?_;have KY:N0 26=A2:=(nm (wr 11 Z))
 refine aa (ja (i:=(i)) D2 U iS Z KY (bV Ab) (λ_ Av L1=>?_));have Am:=Wr.putOut Av hnoH2 Am;have Ab:=av Av (λe=>by have:=aR Ab _ e;have:=Ax;omega) Ab;have E:=ad5 Av E (by have:=Ax;omega);have a0:=ij Av;refine I ?_;refine gR (I ?_);have FR:=b9 (lo':=w.heap.size) U Ab;refine I ?_;exact bJ ⟨i+1,(bD H2 i A2),bD K2 i (L i++K i),rfl,rfl,U,(λx hx=>by by_cases e:x=i;rw[e,aX];rw[bc _ _ e];exact hK2 x U),(KU hnoH2 Ab (by have:=Ax;omega)),U,E,L1,(Wr.setRow Am FR (Wr.far Am Ab U))⟩;refine I ?_;exact am (t:=4) (v:=.slice cm (n) (n)) Z E ⟨_,_,_,rfl,qa0 _,Mt.mono U ((Wr.mt wH2 (Ho.rw hH2 Ax.1)).congr (λj _=>hK2 j U))⟩ Z
def O7 {L:Rows}(h:vF n L=true)(h2:kq n L (L 0).length (λj=>l8 L n j)):M7 n L:=λi hi k hk=>by
 obtain⟨hv,E⟩:=nH h
 have:=h2.2 i hi
 rw[this,uB L i U]
def O8 {L:Rows}(h:vF n L=true)(h2:M7 n L):kq n L (L 0).length (λj=>l8 L n j):=by
 obtain⟨hv,O⟩:=nH h
 refine⟨O,λi hi=>m7 (by rw[pF,(hv.ok i hi).1,<-O]) λj E=>?_⟩
 rw[(hv.ok i hi).1,<-O]at E
 show ap (L i) j=ap (l8 L n i) j
 rw[uB L i E]
 rcases Nat.lt_trichotomy i j with h|h|h
 · exact(h2 j E i h).symm
 · subst h;rfl
 · exact h2 i hi j h
set_option maxRecDepth 100000 in
def Fs (hn:1<=n)(hn16:n<=16):
 CL 69 #[.iface 106 (.agg #[]),.int .i64 n] w (aH w λv w'=>dI w.heap.size w' v n (λi=>uR i n)):=by
 have E0:=aa0 w;refine aC func69 Z (I ?_);refine aa (mf (m:=(n)) Ng jK Z Z U Rd (λE6 nm _ Ax=>?_));have E0:=xt E0 nm;obtain⟨cr,nq⟩:∃x,x=some (⟨w.heap.size,0,none⟩:Addr):=⟨_,rfl⟩;rw[<-nq]at Ax;obtain⟨wr,Ao,Cr,E5⟩:=m9 Ax U;refine aa (aJ (v:=.slice cr (n) (n)) (qb2 (λa=>Value.slice a n n) nq.symm) ?_);refine I ?_;refine ck [(6,6),(11,30)] (λB0 e W=>∃i:Nat,∃H2:Nat->Value,∃K2:Rows,(n-i=B0)/\(e 11=.int .i64 i)/\(i<=n)/\(∀x,x<i->K2 x=uR x n)/\(∀j,j<n->(H2 j).ownBlock≠some (aO cr))/\(E6.heap.size<=W.heap.size)/\(aN w W)/\(Ho W cr n H2)/\(Wr W w.heap.size W.heap.size n H2 K2)) (n-0) ⟨0,(λ_=>.slice none 0 0),pI,rfl,rfl,(qa7 _),(λx hx=>by omega),E5,(qa0 _),E0,wr,(Wr.top Cr)⟩ ?_;rintro _ _ _ ⟨i,H2,K2,rfl,H4,GC,hK2,hnoH2,FR,E,hH2,wH2⟩;have E9:=bz E;by_cases hli:i<n;refine I ?_;refine aa (CO (t:=106) (v:=.agg #[]) (vs:=[]) BW kS mm Z Z Z (lG _) ?_);rintro _ _ Ap rfl;have hH2:=ac0 Ap.2 hH2;have wH2:=aa2 Ap.2 wH2;have E:=xt E Ap.2;refine BS (λD1 Ar _ E4=>?_);have hH2:=ac0 Ar hH2;have wH2:=aa2 Ar wH2;have E:=xt E Ar;refine I ?_;refine clb YT (hc:=Uh (n:=(n)) (show Rw _ _ _ (ag [z0])from ab0 E4) U U) (hk:=?_);rintro C0 _ Af Ab
 have Af:=Af.2;have Ab:=aP (b9 (lo':=D1.heap.size) U Ab) (lI n).symm Z;have hH2:=ac0 Af hH2;have wH2:=aa2 Af wH2;have E:=xt E Af;have Ay:=gN hH2 wH2 (i:=(i)) U;refine I ?_;refine eI Ay ?_;refine aa (ja (i:=(i)) hH2 U iS Z Z (bV Ab) (λ_ Am O=>?_));have wH2:=Wr.putOut Am hnoH2 wH2;have Ab:=av Am (λe=>by have:=aR Ab _ e;have:=Ao;omega) Ab;have E:=ad5 Am E (by have:=Ao;omega);have H3:=ij Am;refine I ?_;have B2:=b9 (lo':=w.heap.size) U Ab;have A2:=Wr.setRow (i:=i) wH2 B2 (Wr.far wH2 Ab U);have Aw:=KU (i:=i) hnoH2 Ab (by have:=Ao;omega);have ES:(bD K2 i (zs n) i).length=n:=by rw[aX,lI]
 refine I ?_;refine bP 7 ?_;refine sf ?_;refine aB (λ_ _ od _=>by have O:=ac0 od O;have A2:=aa2 od A2;have CG:=gN O A2 (i:=(i)) U;refine I ?_;refine eI CG ?_;refine I ?_;exact aK) ?_;refine aB (λ_ _ Av _=>by have O:=ac0 Av O;have A2:=aa2 Av A2;have EW:=gN O A2 (i:=(i)) U;refine I ?_;exact aK) ?_;refine sf ?_;refine a7 (V:=.agg #[S ((o1).1),S ((o1).2)]) (λ_ _ _ _=>?_) ?_;refine aa (CO (t:=106) (v:=.agg #[]) (vs:=[]) QB EZ mm Z Z Z (J2 _) ?_);rintro _ _ B1 rfl;have Az:=B1.2;refine I ?_;exact fs ⟨Az,rfl⟩;refine sf ?_;intro _ _ Aq _;have O:=ac0 Aq.2 O;have A2:=aa2 Aq.2 A2;have E:=xt E Aq.2;have D2:=Wr.elem A2 (i:=(i)) (k:=(i)) U U;refine I ?_;refine jv D2 ?_;refine aa (py (q:=o1) (i:=(i)) (k:=(i)) A2 U U bX Z Z (λ_ As _ _ E1 E7=>?_));have O:=Ho.put As (λe=>Aw i U (by rw[E1,e])) O;have E:=bA As E;have G0:=ij As;refine I ?_;refine gR (I ?_);exact bJ ⟨i+1,(bD H2 i C0),(bD (bD K2 i (zs n)) i (((bD K2 i (zs n)) i).set i o1)),rfl,rfl,U,(λx hx=>by by_cases e:x=i;rw[e,aX,aX];exact Ul hli;rw[bc _ _ e,bc _ _ e];exact hK2 x U),Aw,U,E,O,(Wr.top E7)⟩;refine I ?_
 exact am (t:=4) (v:=.slice cr (n) (n)) Z E ⟨_,_,_,rfl,qa0 _,Mt.mono U ((Wr.mt wH2 (Ho.rw hH2 Ao.1)).congr (λj _=>hK2 j U))⟩ Z
set_option maxHeartbeats 2000000 in
set_option maxRecDepth 100000 in
def Ft {L:Rows}(hM:Mt w lo A n H L)(hv:VM n L)(hb1:ar w b1 27 #[.slice A n C])(hb2:ar w b2 3 #[.int .i64 n])(hn0:n=(L 0).length)(ht:Tb w):
 CL 67 #[pT b1,pT b2] w (jj PN w (elim n (n+n) n (jX n L)) (λs v w'=>Yy w.heap.size n w' s v)):=by
 have La:=bt hb1;have Lj:=bt hb2;have Ao:=hv.ok;have L4:=hv.1;have L3:=hv.2.1;refine iW func67 Z (I ?_);refine al td (λA2 ny O=>?_);have⟨hb1,hb2⟩:=gu ny.2 hb1 hb2;have E:=ny.2;refine I ?_;rcases cx:elim n (n+n) n (jX n L)with _|cr;refine bP 9 ?_;refine sf ?_;refine aB (λ_ _ _ _=>by refine aa (ju (v:=.agg #[]) mm Z Z ?_);refine I ?_;exact aK) ?_;refine sf ?_;refine b8 (λv w=>dI A2.heap.size w v n (λi=>uR i n)) (hs:=λ_ _ _ k h=>dI.ext k h) (λ_ _ E6 _=>?_) ?_;refine clb VK (hc:=Fs U U) (hk:=?_);rintro _ _ D1 E7;have H4:=D1.2;refine I ?_;exact fs ⟨H4,(dI.mono (by have:=bz E6;omega) E7)⟩;refine b8 (λv w=>dI A2.heap.size w v n (jX n L)) (hs:=λ_ _ _ k h=>dI.ext k h) (λ_ _ Av D2=>?_) ?_;obtain⟨_,_,_,EW,_,ES⟩:=(D2 4 7 Z Z);refine clb VJ (hc:=KV (hM.ext (xt E Av)) ES U U (qa0 _) (λi hi=>by have:=(Ao i hi).1;omega) (λi hi=>by rw[mK];omega)) (hk:=?_) (hv:=aw Z (aw EW Z));rintro _ _ H2 FR;have CG:=H2.2;refine I ?_;exact fs ⟨CG,(dI.mono (by have:=bz Av;omega) FR)⟩;refine sf ?_;refine aB (λ_ _ _ _=>by refine aa (ju (v:=.agg #[]) mm Z Z ?_);refine I ?_;exact aK) ?_
 refine sf ?_;intro _ _ Kp E1;have E:=xt E Kp.2;obtain⟨KC,Ay,_,B2,_,H3⟩:=(E1 5 8 Z Z);have E4:=ab6 H3;refine aa (dO (vs:=[.slice KC n Ay,.iface 106 (.agg #[]),.int .i64 n]) Ni (aw B2 (aw Z (aw Z Z))) (ad9 cx (sP (Mt.mono (qa7 _) (E4).mt) (show gk n (n+n) (jX n L)by have h:=m8 hv;rwa [<-hn0]at h) U U U U (ht.ext E))) (λ_ L2=>?_));have E:=xt E L2;refine I ?_;exact gD ⟨E,(by first|exact cx|rfl),rfl⟩;refine bP 9 ?_;refine sf ?_;refine aB (λ_ _ _ _=>by refine aa (ju (v:=.agg #[]) mm Z Z ?_);refine I ?_;exact aK) ?_;refine sf ?_;refine b8 (λv w=>dI A2.heap.size w v n (λi=>uR i n)) (hs:=λ_ _ _ k h=>dI.ext k h) (λ_ _ nm _=>?_) ?_;refine clb VK (hc:=Fs U U) (hk:=?_);rintro _ _ KM GC;have C0:=KM.2;refine I ?_;exact fs ⟨C0,(dI.mono (by have:=bz nm;omega) GC)⟩;refine b8 (λv w=>dI A2.heap.size w v n (jX n L)) (hs:=λ_ _ _ k h=>dI.ext k h) (λ_ _ Aw E9=>?_) ?_;obtain⟨_,_,_,Cr,_,L1⟩:=(E9 4 7 Z Z);refine clb VJ (hc:=KV (hM.ext (xt E Aw)) L1 U U (qa0 _) (λi hi=>by have:=(Ao i hi).1;omega) (λi hi=>by rw[mK];omega)) (hk:=?_) (hv:=aw Z (aw Cr Z));rintro _ _ K2 Az;have E0:=K2.2;refine I ?_
 exact fs ⟨E0,(dI.mono (by have:=bz Aw;omega) Az)⟩;refine sf ?_;refine aB (λ_ _ _ _=>by refine aa (ju (v:=.agg #[]) mm Z Z ?_);refine I ?_;exact aK) ?_;refine sf ?_;intro _ _ B0 E5;have⟨hb1,hb2,O,E⟩:=fE B0.2 hb1 hb2 O E;obtain⟨_,_,_,G0,_,KY⟩:=(E5 5 8 Z Z);have K3:=ab6 KY;refine clb Ni (hc:=ad7 cx (sP (Mt.mono (qa7 _) (K3).mt) (show gk n (n+n) (jX n L)by have h:=m8 hv;rwa [<-hn0]at h) U U U U (ht.ext E))) (hk:=?_) (hv:=aw G0 (aw Z (aw Z Z)));rintro _ _ Ix Ab;have⟨hb1,hb2,O,E⟩:=fE Ix.2 hb1 hb2 O E;obtain⟨Ax,Aq,_,Am,Ar,As,Ap,rfl,_,_,_,_⟩:=vR.get Ab;have Li:=pM (show gk n (n+n) (jX n L)by have h:=m8 hv;rwa [<-hn0]at h) U cx;refine SA O (λ_ Af B1=>?_);have⟨hb1,hb2⟩:=lw Af hb1 hb2;have Ab:=vR.put Af U Ab;have E:=bA Af E;refine I ?_;refine mz (v:=.agg #[.slice Ax n Aq,.slice Am cr.piv.length Ar,.slice As cr.cols.length Ap,.bool (decide (cr.sw%2=1))]) (cC Z ?_) ⟨E,cr,(by first|exact cx|rfl),vR.mono U Ab⟩;refine ak (t:=2) (cs:=[.slice Ax n Aq,.slice Am cr.piv.length Ar,.slice As cr.cols.length Ap,.bool (decide (cr.sw%2=1))]) (b:=w.heap.size) (o:=0) Yu Z Gm ?_ ?_;exact Z;exact aa1 B1 (i:=0) Z
def cg (b:List R):Rows:=λi=>[ap b i]
def O9 (s:El)(n:Nat):Rows:=λi=>(s.L i).drop n
def Fu {L:Rows}(hM:Mt w lo A n H L)(hB:Bd n L)(ht:Tb w):
 CL 27 #[.slice A n C] w (aH w λv w'=>nj w.heap.size w' n (eY n L) v):=by
 refine aC func27 Z (I ?_);refine bx (λ_ P1 E=>?_);have O:=P1.2;refine I ?_;refine cl R0 (KE (hM.ext O) hB (ht.ext O)) ?_;rintro _ B1 KC rfl;have⟨E,O⟩:=bw KC.2 E O;refine I ?_;rcases qa4 (KD n L)with wr|wr;have CG:vF n L=true:=wr;have hv:=(nH CG).1;have D2:=(nH CG).2;have a0:=hv.1;have a3:=hv.2.1;have K3:=hv.ok;rw[<-D2]at K3;refine I ?_;refine al lf (λ_ S0 Lj=>?_);have⟨E,O⟩:=bw S0.2 E O;refine SO Lj (λE1 P2 A2=>?_);have⟨E,O,_⟩:=kC P2 E O;refine I ?_;rcases oq:elim n (n+n) n (jX n L)with _|cm;refine I ?_;refine aa (aE (vf:=[]) (vc:=[pT w.heap.size,pT B1.heap.size]) Z Z ?_);refine cl VH (Fj (lb:=[pT w.heap.size,pT B1.heap.size]) (n:=n) VI (λW hE=>Ft ((hM.ext O).ext hE) hv (E.ext hE) (A2.ext hE) D2 (ht.ext (xt O hE)))) ?_;rintro _ _ T3 E6;have⟨E,A2,O⟩:=cD T3.2 E A2 O;rw[oq]at E6;subst E6;refine I ?_;refine al td (λ_ Kp W0=>?_);have⟨E,A2,O⟩:=cD Kp.2 E A2 O;refine SA W0 (λ_ E0 _=>?_);have E:=pb E0 E
 have A2:=pb E0 A2;have O:=bA E0 O;refine I ?_;exact bF (t:=2) (u:=3) (v1:=.slice none 0 0) (v2:=.int .i64 130) Z O (Ha CG oq) Z Z;refine I ?_;refine aa (aE (vf:=[]) (vc:=[pT w.heap.size,pT B1.heap.size]) Z Z ?_);refine cl VH (Fj (lb:=[pT w.heap.size,pT B1.heap.size]) (n:=n) VI (λW hE=>Ft ((hM.ext O).ext hE) hv (E.ext hE) (A2.ext hE) D2 (ht.ext (xt O hE)))) ?_;rintro _ C0 P0 E7;have⟨E,A2,O⟩:=cD P0.2 E A2 O;rw[oq]at E7;obtain⟨_,rfl,W1⟩:=E7;obtain⟨ES,No,B0,ny,WV,E9,Rm,rfl,_,T2,V0,Ne⟩:=vR.get W1;have Ab:=ab6 T2;have Am:=ab9 V0;have Af:=ab9 Ne;have N0:=pM (show gk n (n+n) (jX n L)by have h:=m8 hv;rwa [<-D2]at h) U oq;have Wa:=N0.1;refine I ?_;refine al td (λ_ Cr KY=>?_);have⟨E,A2⟩:=gu Cr.2 E A2;have Ab:=aa7 Cr.2 Ab;have Am:=ab3 Cr.2 Am;have Af:=ab3 Cr.2 Af;have O:=xt O Cr.2;refine SA KY (λAx od Ar=>?_);have⟨E,A2⟩:=lw od E A2;have Ab:=ad0 od U Ab;have Am:=ac1 od U Am;have Af:=ac1 od U Af;have O:=bA od O;have a2:=ij od;refine I ?_;by_cases aos:((cm.piv.length:Nat):Int)<(n:Int);refine I ?_;exact bF (t:=2) (u:=3) (v1:=.slice none 0 0) (v2:=.int .i64 130) Z O (KS CG oq U) Z Z;refine I ?_;have L1:World.ownsRow Ax Ax.heap.size 28 1 (.slice none 0 0) 0 []:=bO
 have W3:Wr Ax Ax.heap.size Ax.heap.size 0 (λ_=>.nilIface) (O9 cm n):=Wr.nil;refine ck [(7,7),(9,9),(32,43)] (λS9 e W=>∃i:Nat,∃H2:Nat->Value,∃Ao:Value,(n-i=S9)/\(e 32=.int .i64 i)/\(e 7=Ao)/\(i<=n)/\(∀zz,zz<i->ay Ao (H2 zz))/\(Ax.heap.size<=W.heap.size)/\((Ao).ownBlock≠some w.heap.size)/\((Ao).ownBlock≠some B1.heap.size)/\((Ao).ownBlock≠some C0.heap.size)/\(aN w W)/\(ar W w.heap.size 27 #[.slice A n C])/\(ar W B1.heap.size 3 #[.int .i64 n])/\(oG W E1.heap.size C0.heap.size ES n B0 cm.L)/\(pP W E1.heap.size C0.heap.size ny (ag cm.piv))/\(pP W E1.heap.size C0.heap.size E9 (ints cm.cols))/\(ar W C0.heap.size 103 #[.slice ES n No,.slice ny cm.piv.length WV,.slice E9 cm.cols.length Rm,.bool (decide (cm.sw%2=1))])/\(W.ownsRow Ax.heap.size 28 1 Ao i ((List.range i).map H2))/\(Wr W Ax.heap.size W.heap.size i H2 (O9 cm n))) (n-0) ⟨0,(λ_=>.nilIface),.slice none 0 0,rfl,rfl,rfl,(qa7 _),(λj E5=>by omega),(qa0 _),(λe=>by cases e),(λe=>by cases e),(λe=>by cases e),O,E,A2,Ab,Am,Af,Ar,L1,W3⟩ ?_;rintro _ _ H4 ⟨i,H2,Ao,rfl,X0,EW,hi_i,G0,a4,H3,GC,Ix,Ay,E,A2,Ab,Am,Af,Ar,Aq,Av⟩;by_cases hli:i<n;have X2:=(Wa i hli).1;have K2:=aa6 (Ab).mt (i:=(i)) U;refine I ?_;refine eI K2 (I ?_);refine aa (aY (v:=Ao) EW ?_);refine I ?_
 refine aa (yj (A:=sA (B0 i)) (m:=(cm.L i).length) (c:=sC (B0 i)) (i:=(n)) te bX Z Z U ((Ab).mt.cap i U) ?_);refine clb R1 (hc:=uH (Rw.fromR (Mt.row (Ab).mt i U) ((Ab).mt.cap i U) U) (by rw[List.length_drop];omega)) (hk:=?_) (hv:=aw (qb2 (λk=>Value.slice (uA 2 (sA (B0 i)) (sC (B0 i)) n) k (sC (B0 i)-n)) (List.length_drop (i:=(n)) (l:=(cm.L i))).symm) Z);rintro Az _ As Ap;have As:=As.2;have Ap:=b9 (lo':=H4.heap.size) U Ap;have FR:ay Az (Ao):=λg h1 h2=>by have h3:=aR Ap _ h1;have h4:=(dG Aq) _ h2;omega
 have⟨E,A2⟩:=gu As E A2;have Ab:=aa7 As Ab;have Am:=ab3 As Am;have Af:=ab3 As Af;have Ar:=be As Ar;have Aq:=ab As Aq;have Av:=aa2 As Av;have Ay:=xt Ay As;refine aa (cM (vs:=[(0,Az)]) (cells:=#[Az]) Ic jK Z dc dc (jW _ (bV Ap)) Z dc (λ_ Aw _ W2=>?_));have⟨E,A2⟩:=gu Aw E A2;have Ab:=aa7 Aw Ab;have Am:=ab3 Aw Am;have Af:=ab3 Aw Af;have Ar:=be Aw Ar;have Aq:=ab Aw Aq;have Av:=aa2 Aw Av;have Ap:=ab Aw Ap;have Ay:=xt Ay Aw;refine AP Aq (ab0 W2) (λE4 L4 Lk nm D1=>?_) (h1:=Tu (bV Ap));have Vm:=aS D1 H3 (bt E);have L2:=aS D1 GC (bt A2);have L3:=aS D1 Ix (bt Ar);have Q0:∀B2,B2<i->ay E4 (H2 B2):=λB2 hi=>ab1 D1 (G0 B2 hi) (Wr.own Av B2 hi);have E:=aa3 nm (λe=>H3 e.symm) E;have A2:=aa3 nm (λe=>GC e.symm) A2;have Ab:=oG.gr nm (λg e=>by have:=aR Aq _ e;omega) Ab;have Am:=pP.gr nm (λg e=>by have:=aR Aq _ e;omega) Am;have Af:=pP.gr nm (λg e=>by have:=aR Aq _ e;omega) Af;have Ar:=aa3 nm (λe=>Ix e.symm) Ar;have Av:=ad4 nm G0 Av;have KM:=ab1 D1 (aa4 FR) Ap
 have Ap:=ab5 (aa4 FR) nm Ap;have Ay:=bB Aq U U Ay nm;have a5:=nm.size;refine aa (aJ (v:=E4) Z ?_);refine I ?_;refine gR (I ?_);have La:World.ownsRow L4 H4.heap.size 33 2 Az ((O9 cm n) i).length (ag ((O9 cm n) i)):=aP Ap Z Z;have Li:=b9 (lo':=Ax.heap.size) U La;have VW:∀zz,zz<i->ay Az (H2 zz):=Wr.far Av Ap U;refine I ?_;exact bJ ⟨i+1,bD H2 i Az,E4,rfl,rfl,rfl,U,(λj E5=>ef Q0 KM j E5),U,Vm,L2,L3,Ay,E,A2,Ab,Am,Af,Ar,(aP Lk Z (eU H2 i Az).symm),(by have h:=Wr.push Av Li VW;rwa [pJ]at h)⟩;refine I ?_;refine aa (aY (v:=Ao) EW ?_);refine aa (aJ (v:=Ao) Z ?_);refine I ?_;exact bF (t:=2) (u:=3) (v1:=Ao) (v2:=.int .i64 0) Z Ay (OV CG oq U (by have h:=pK Aq Av;rw[show i=n by omega]at h;exact h.mono U)) Z Z;refine I ?_;exact bF (t:=2) (u:=3) (v1:=.slice none 0 0) (v2:=.int .i64 130) Z O (OU kb1) Z Z
def Pb {L:Rows}(hM:Mt w lo A n H L)(hB:Bd n L)(hC:n<=C)(ht:Tb w):
 CL 78 #[.slice A n C] w (aH w λv w'=>v=G5 (pR n L)):=by
 refine aC func78 Z (I ?_);refine cl R0 (KE (hM.ext (aa0 _)) hB (ht.ext (aa0 _))) ?_;rintro _ Ay K3 rfl;have A2:=K3.2;refine I ?_;rcases qa4 (KD n L)with fx|fx;have Af:vF n L=true:=fx;have hv:=(nH Af).1;have EW:=(nH Af).2;have Lj:=hv.1;have Ne:=hv.2.1;have Aq:=hv.ok;rw[<-EW]at Aq;refine I ?_;refine cl VD (Rh (hM.ext A2) hB (ht.ext A2)) ?_;rintro _ E5 H2 D2;have A2:=xt A2 H2.2;rw[if_pos (show vM n L=true from decide_eq_true hv)]at D2;obtain⟨C0,_,E4,rfl,_,K2⟩:=D2;have O:=ab6 K2;refine cl YN (Ue (hM.ext A2) (O).mt hB) ?_;rintro _ L1 B0 rfl;have O:=aa7 B0.2 O;have A2:=xt A2 B0.2;refine I ?_;by_cases fy:kq n L ((L 0).length) (λj=>l8 L n j);refine I ?_;have As:M7 n L:=O7 Af fy;refine ck [(2,5),(7,9),(20,53)] (λAw e W=>∃k:Nat,(n-k=Aw)/\(e 20=.int .i64 k)/\(k<=n)/\(nl L (n-k) k=nl L n 0)/\(L1.heap.size<=W.heap.size)/\(aN w W)/\(oG W Ay.heap.size E5.heap.size C0 ((L 0).length) E4 (λj=>l8 L n j))) (n-0) ⟨0,rfl,rfl,(qa7 _),rfl,(qa0 _),A2,O⟩ ?_;rintro _ _ Ao ⟨k,rfl,N0,P1,hP,Rm,ny,O⟩;have L3:=bz ny;by_cases hlk:k<n;refine I ?_;refine aa (cG (a:=(k:Int)) (b:=1) (c:=((k+1:Nat):Int)) Z Z j0 U ?_);refine aa (re (A:=A) (m:=n) (c:=C) (j:=k+1) Ic iS Z Z U ?_)
 refine I ?_;have H3:World.ownsRow Ao Ao.heap.size 28 1 (.slice none 0 0) 0 []:=bO;refine ck [(5,5),(7,7),(28,39)] (λAw e W=>∃i:Nat,∃Ab:Value,(k+1-i=Aw)/\(e 28=.int .i64 i)/\(e 5=Ab)/\(i<=k+1)/\(Ao.heap.size<=W.heap.size)/\(aN w W)/\(oG W Ay.heap.size E5.heap.size C0 ((L 0).length) E4 (λj=>l8 L n j))/\(W.ownsRow Ao.heap.size 28 1 Ab i ((List.range i).map (Gt H (k+1))))) (k+1-0) ⟨0,.slice none 0 0,rfl,rfl,rfl,(qa7 _),(qa0 _),ny,O,H3⟩ ?_;rintro _ _ Cr ⟨i,Ab,rfl,P0,od,L2,La,E,O,Am⟩;have L4:=bz E;by_cases hli:i<k+1;have Li:=(Aq i U).1;have E9:=aa6 (hM.ext E) (i:=(i)) U;refine I ?_;refine eI E9 (I ?_);refine aa (aY (v:=Ab) od ?_);refine I ?_;refine aa (cG (a:=(k:Int)) (b:=1) (c:=((k+1:Nat):Int)) Z Z j0 U ?_);refine aa (re (A:=sA (H i)) (m:=(L i).length) (c:=sC (H i)) (j:=(k+1)) te bX Z Z (by have:=(hM.ext E).cap i U;omega) ?_);refine BS (λ_ Ar _ GC=>?_);have O:=aa7 Ar O;have Am:=ab Ar Am;have E:=xt E Ar;refine AP Am (ab0 GC) (λE7 _ ES Ap _=>?_);have O:=oG.gr Ap (λg e=>by have:=aR Am _ e;omega) O;have E:=bB Am U U E Ap;have S0:=Ap.size;refine aa (aJ (v:=E7) Z ?_);refine I ?_;refine gR (I ?_)
 exact bJ ⟨i+1,E7,rfl,rfl,rfl,U,U,E,O,(aP ES Z (G1 (Gt H (k+1)) i))⟩;have Ax:i=k+1:=J
 have D1:oG Cr 0 Cr.heap.size (sA Ab) (k+1) (Gt H (k+1)) (λi=>(L i).take (k+1)):=ab6 (Mt.takes (Mt.mono (qa7 _) (hM.ext E)) U (λi hi=>by have:=(Aq i hi).1;omega) (by have h:=ek Am;rwa [Ax]at h) (qa7 _));have E0:Ab=.slice (sA Ab) (k+1) (sC Ab):=by rw[<-Ax];exact dr Am
 refine I ?_;rcases cy:kU (k+1) (λi=>(L i).take (k+1))with _|cv;have No:=od.trans E0;refine I ?_;refine clb VB (hc:=Fq (D1).mt (Bd.takes hB U) (ht.ext E)) (hk:=?_);rintro _ _ Kp Az;have E:=xt E Kp.2;rw[cy]at Az;subst Az;refine I ?_;refine al aZ (λ_ Ix KM=>?_);have E:=xt E Ix.2;refine SA KM (λ_ G0 _=>?_);have E:=bA G0 E;refine I ?_;exact bF (t:=2) (u:=3) (v1:=.bool false) (v2:=.int .i64 130) Z E (He Af As (Hc hlk hP cy)) Z Z;have Lk:=od.trans E0;refine I ?_;refine clb VB (hc:=Fq (D1).mt (Bd.takes hB U) (ht.ext E)) (hk:=?_);rintro _ _ B1 E1;have O:=aa7 B1.2 O;have E:=xt E B1.2;rw[cy]at E1;subst E1;have KC:=OW cy;have P2:Vk (some cv).isSome=0:=rfl;refine I ?_;refine al aZ (λ_ E6 KY=>?_);have O:=aa7 E6.2 O;have E:=xt E E6.2;refine SA KY (λ_ Av _=>?_);have O:=ad0 Av U O;have E:=bA Av E;have Q0:=ij Av;refine I ?_;refine bP 3 ?_;refine sf ?_;refine a7 (V:=.agg #[S ((z0).1),S ((z0).2)]) (λ_ _ _ _=>?_) ?_;refine cl BW (lG _) ?_;rintro _ _ nm rfl;have H4:=nm.2;refine I ?_;exact fs ⟨H4,rfl⟩;refine sf ?_;intro _ _ CG _;have O:=aa7 CG.2 O;have E:=xt E CG.2;refine cl oS (Om _ _ _ (ht.ext E) KC) ?_
 rintro _ _ B2 rfl;have O:=aa7 B2.2 O;have E:=xt E B2.2;refine I ?_;by_cases ns:(qN (ai (cv).1))<=0;refine I ?_;exact bF (t:=2) (u:=3) (v1:=.bool false) (v2:=.int .i64 0) Z E (wP Af As (OX hlk hP cy ns)) Z Z;refine I ?_;refine gR (I ?_);exact bJ ⟨k+1,rfl,rfl,U,(Hb hlk hP cy ns),U,E,O⟩;have FR:=KT hlk hP;refine I ?_;exact bF (t:=2) (u:=3) (v1:=.bool true) (v2:=.int .i64 0) Z ny (wP Af As FR) Z Z;refine I ?_;exact bF (t:=2) (u:=3) (v1:=.bool false) (v2:=.int .i64 0) Z A2 (OZ Af (λh=>fy (O8 Af h))) Z Z;refine I ?_;exact bF (t:=2) (u:=3) (v1:=.bool false) (v2:=.int .i64 130) Z A2 (OY kb1) Z Z
def dn :
 CL 40 #[.bool true] w (aH w λv w'=>v=.tuple #[]):=by
 refine aC func40 Z (I ?_);exact H8 (nh Z) (aa0 _) Z
def uI {a:Addr}(hE:Er w a):
 CL 40 #[.bool false] w (fo (pE a) w):=by
 refine iW func40 Z (I ?_);refine aa (bn (v:=eV a) (b:=0) (o:=0) YF Z Z (ab4 (Er.ext (aa0 _) hE) Z) ?_);refine aa (Ek (ty':=316) (u:=.pointer (some a)) Z ?_);exact gD ⟨(aa0 _),rfl⟩
def AO :
 CL 146 #[.slice A n C,.int .i64 0] w (aH w λv w'=>v=.slice A n C):=by
 refine aC func146 Z (I ?_);refine cl fK dn ?_;rintro _ _ E rfl;have O:=E.2;refine I ?_;exact am (t:=4) (v:=.slice A n C) Z O Z Z
def Hh {a:Addr}(hE:Er w a):
 CL 146 #[.slice none 0 0,.int .i64 130] w (fo (pE a) w):=by
 refine iW func146 Z (I ?_);refine aa (dO (vs:=[.bool false]) fK Z (uI (Er.ext (aa0 _) hE)) (λ_ E=>?_));have O:=E;refine I ?_;exact gD ⟨O,rfl⟩
def kY {l m:List UInt8}:
 CL 99 #[.agg #[S l,S m],.int .i64 0] w (aH w λv w'=>v=.agg #[S l,S m]):=by
 refine aC func99 Z (I ?_);refine bx (λAf Aq O=>?_);have E:=Aq.2;refine al aZ (λ_ Ap A2=>?_);have⟨O,E⟩:=bw Ap.2 O E;refine I ?_;refine cl fK dn ?_;rintro _ _ Ao rfl;have⟨O,A2,E⟩:=cD Ao.2 O A2 E;refine I ?_;refine SA A2 (λ_ Ab Am=>?_);have O:=pb Ab O;have E:=bA Ab E;refine I ?_;refine ba (v:=.agg #[S l,S m]) (cC  rfl ?_) E Z;refine ak (t:=4) (cs:=[S l,S m]) (b:=Af.heap.size) (o:=0) iT Z bX ?_ ?_;exact Z;exact aa1 Am (i:=0) Z
def KW {k l m n:List UInt8}:
 CL 104 #[.agg #[S k,S l,S m,S n],.int .i64 0] w (aH w λv w'=>v=.agg #[S k,S l,S m,S n]):=by
 refine aC func104 Z (I ?_);refine bx (λAf Aq E=>?_);have O:=Aq.2;refine al k9 (λ_ Ap A2=>?_);have⟨E,O⟩:=bw Ap.2 E O;refine I ?_;refine cl fK dn ?_;rintro _ _ Ao rfl;have⟨E,A2,O⟩:=cD Ao.2 E A2 O;refine I ?_;refine aa (aM (cs:=[S k,S l,S m,S n]) (b:=w.heap.size) (o:=0) fJ Z eh Z (aa1 E (i:=0) Z) ?_);refine SA A2 (λ_ Ab Am=>?_);have E:=pb Ab E;have O:=bA Ab O;refine I ?_;refine ba (v:=.agg #[S k,S l,S m,S n]) (cC  rfl ?_) O Z;refine ak (t:=4) (cs:=[S k,S l,S m,S n]) (b:=Af.heap.size) (o:=0) fJ Z eh ?_ ?_;exact Z;exact aa1 Am (i:=0) Z
end
section
open Go Go.Eng Go.RowKit Tryz
def nS (n:Nat):List UInt8:=ae (n:Int)
def Fi (n:Nat):Prop:=n<10^200
def Fz (z:Int):Prop:=z.natAbs<10^200
def Fz.fits {z:Int}(h:Fz z):fits z=true:=qa1 h
def Fi.z (h:Fi n):Fz (n:Int):=by simpa[Fz,Fi]using h
def Fz.int {z:Int}(h:Fz z):isInt (ae z)=true:=bu h.fits
def KX {a b:Int}(ha:Fz a)(hb:Fz b)(h:Fz (a+b)):xP (ae a) (ae b)=some (ae (a+b)):=by
 rw[xT ka1,aG,aG];unfold bj;rw[if_pos h.fits]
def Un {a b:Int}(ha:Fz a)(hb:Fz b)(h:Fz (a-b)):aW (ae a) (ae b)=some (ae (a-b)):=by
 rw[pf ka1,aG,aG];unfold bj;rw[if_pos h.fits]
def KZ {a b:Int}(ha:Fz a)(hb:Fz b)(h:Fz (a*b)):az (ae a) (ae b)=some (ae (a*b)):=by
 rw[gH ka1,aG,aG];unfold bj;rw[if_pos h.fits]
def uJ {a b:Int}(ha:Fz a)(hb:Fz b)(h0:b≠0)(h:Fz (a/b)):dt (ae a) (ae b)=some (ae (a/b),ae (a%b)):=by
 rw[lB ka1 (by rw[gK,gJ];omega),aG,aG];unfold bj;rw[if_pos h.fits];rfl
def K0 {a b:Int}(ha:Fz a)(hb:Fz b):dR (ae a) (ae b)=aQ a b:=by
 unfold dR;rw[if_pos ka1,aG,aG]
def Xq:([48]:List UInt8)=nS 0:=by decide +kernel
def K4:([49]:List UInt8)=nS 1:=by decide +kernel
def wQ:([50]:List UInt8)=nS 2:=by decide +kernel
def Zg:([52]:List UInt8)=nS 4:=by decide +kernel
def dT {z:Int}:(ae z=[48])↔z=0:=⟨λh=>mU (h.trans Xq),λh=>by subst h;exact Xq.symm⟩
def kz {a b:Int}(h:Fz a)(hb:0<b):Fz (a/b):=by
 unfold Fz at *
 refine Nat.lt_of_le_of_lt ?_ h
 obtain⟨k,rfl⟩:∃k:Nat,b=k:=⟨b.toNat,by omega⟩
 rcases Int.eq_nat_or_neg a with⟨n,rfl|rfl⟩
 · have:((n:Int)/(k:Int))=((n/k:Nat):Int):=rfl
   rw[this,Int.natAbs_natCast,Int.natAbs_natCast];exact Nat.div_le_self _ _
 · have h1:-(n:Int)<=-(n:Int)/(k:Int):=by
    rw[Int.le_ediv_iff_mul_le hb]
    have:(n:Int)<=(n:Int)*(k:Int):=by have:=Int.mul_le_mul_of_nonneg_left (show(1:Int)<=k by omega) (show(0:Int)<=n by omega);simpa using this
    rw[Int.neg_mul];omega
   have h2:-(n:Int)/(k:Int)<=0:=by
    refine Int.ediv_le_of_le_mul hb ?_
    simp
   omega
abbrev N2:=Nat×Nat
def sQ (a b:Nat):Nat:=if a%b=0 then a/b else a/b+1
def qj (S n d:Nat):N2:=(n*S/d,sQ (n*S) d)
def na (S:Nat)(a b:N2):N2:=(a.1*b.1/S,sQ (a.2*b.2) S)
def vU (S:Nat)(a b:N2):N2:=(a.1*S/b.2,sQ (a.2*S) b.1)
def lK (a:N2)(n d:Nat):N2:=(a.1*n/d,sQ (a.2*n) d)
def Ri (a b:N2):N2:=(a.1+b.1,a.2+b.2)
def BK (a b:N2):Int×Int:=((a.1:Int)-b.2,(a.2:Int)-b.1)
def yr (hb:0<b):sQ a b<=a:=by
 unfold sQ
 split
 · exact Nat.div_le_self _ _
 · rename_i h
   have h1:=Nat.div_add_mod a b
   have h2:a/b<=b*(a/b):=Nat.le_mul_of_pos_left _ hb
   omega
def Bk (k:Nat)(p:N2):Prop:=p.1<10^k/\p.2<10^k
def yt (p:N2):Bool:=decide (p.1<10^95)&&decide (p.2<10^95)
def fY {p:N2}(h:yt p=true):Bk 95 p:=by simpa[yt,Bk]using h
structure Sc (S:Nat):Prop where
 pos:0<S
 lt:S<10^95
def iG {m:Nat}(ha:a<10^k)(hb:b<10^m):a*b<10^(k+m):=by
 rw[Nat.pow_add];exact Nat.mul_lt_mul'' ha hb
def je {m:Nat}(h:a<10^k)(hl:k<=m):a<10^m:=qb1 h (Nat.pow_le_pow_right U hl)
def Bk.mono {m:Nat}{p:N2}(h:Bk k p)(hl:k<=m):Bk m p:=⟨je h.1 hl,je h.2 hl⟩
def Bk.fi {p:N2}(h:Bk k p)(hl:k<=200):Fi p.1/\Fi p.2:=⟨je h.1 hl,je h.2 hl⟩
def g7 (h:a<10^k)(hl:k<=200):Fi a:=je h hl
def fZ {m:Nat}(ha:a<10^k)(hb:b<10^m)(hl:k+m<=200):Fi (a*b):=g7 (iG ha hb) hl
def K5 {S:Nat}{a b:N2}(hS:0<S)(ha:Bk 95 a)(hb:Bk 95 b):Bk 190 (na S a b):=
 ⟨Nat.lt_of_le_of_lt (Nat.div_le_self _ _) (iG ha.1 hb.1),Nat.lt_of_le_of_lt (yr hS) (iG ha.2 hb.2)⟩
def K6 {S:Nat}{a b:N2}(hS:Sc S)(h0:0<b.1)(ha:Bk 95 a):Bk 190 (vU S a b):=
 ⟨Nat.lt_of_le_of_lt (Nat.div_le_self _ _) (iG ha.1 hS.lt),Nat.lt_of_le_of_lt (yr h0) (iG ha.2 hS.lt)⟩
def oy (nx:Nat->N2->N2)(t0:N2):Nat->N2
 |0=>t0
 |k+1=>nx (k+1) (oy nx t0 k)
def pU (T:Nat->N2):Nat->N2
 |0=>(0,0)
 |k+1=>Ri (pU T k) (T k)
def K7 (nx:Nat->N2->N2):Nat->Nat->N2->N2->Nat->Option N2
 |0,_,_,_,_=>none
 | f +1,n,t,a,l=>if yt t=true then
  (if 2<=n/\t.2<=2/\t.2*2<=l+2 then some (a.1+t.1,a.2+t.2+(t.2+4))else K7 nx f (n+1) (nx n t) (Ri a t) t.2)
   else none
def yu (nx:Nat->N2->N2)(t0:N2):Option N2:=K7 nx 1000 1 t0 (0,0) 0
structure AQ (T:Nat->N2)(m:Nat):Prop where
 lt:m<1000
 bd:∀k≤m,Bk 95 (T k)
 go:∀k<m,k=0\/¬((T k).2<=2/\(T k).2*2<=(T (k-1)).2+2)
 pos:0<m
 stop:(T m).2<=2/\(T m).2*2<=(T (m-1)).2+2
def vV (T:Nat->N2)(m:Nat):N2:=((pU T (m+1)).1,(pU T (m+1)).2+((T m).2+4))
def AR {nx:Nat->N2->N2}{t0 r:N2}:∀(f k l:Nat),k+f<=1000->(k=0\/l=(oy nx t0 (k-1)).2)->(∀j<k,Bk 95 (oy nx t0 j))->(∀j<k,j=0\/¬((oy nx t0 j).2<=2/\(oy nx t0 j).2*2<=(oy nx t0 (j-1)).2+2))->
 K7 nx f (k+1) (oy nx t0 k) (pU (oy nx t0) k) l=some r->∃m,AQ (oy nx t0) m/\vV (oy nx t0) m=r
 |0,_,_,_,_,_,_,h=>by simp[K7]at h
 | f + 1,k,l,hk,hl,hb,hg,h=>by
   unfold K7 at h
   by_cases h1:yt (oy nx t0 k)=true
   · rw [if_pos h1]at h
     have hb':∀j≤k,Bk 95 (oy nx t0 j):=λj E=>by
      by_cases e:j=k
      · subst e;exact fY h1
      · exact hb j U
     split at h
     · rename_i hs
       cases h
       have hl':l=(oy nx t0 (k-1)).2:=by rcases hl with e|e;omega;exact e
       exact⟨k,⟨by omega,hb',hg,by omega,hs.2.1,by rw[<-hl'];exact hs.2.2⟩,rfl⟩
     · rename_i hs
       refine AR f (k+1) _ U (Or.inr Z) (λj E=>hb' j U) (λj E=>?_) h
       by_cases e:j=k
       · subst e
         by_cases e0:j=0
         · exact Or.inl e0
         · refine Or.inr λhc=>hs ⟨by omega,hc.1,?_⟩
           rcases hl with e|e;omega;rw[e];exact hc.2
       · exact hg j U
   · rw[if_neg h1]at h;cases h
def uK {nx:Nat->N2->N2}{t0 r:N2}(h:yu nx t0=some r):∃m,AQ (oy nx t0) m/\vV (oy nx t0) m=r:=
 AR 1000 0 0 U (Or.inl Z) (λj E=>by omega) (λj E=>by omega) h
def Fv {T:Nat->N2}{m:Nat}(hT:∀k≤m,Bk 95 (T k)):∀k≤m+1,(pU T k).1<=k*10^95/\(pU T k).2<=k*10^95
 |0,_=>by simp[pU]
 | k+1,hk=>by
   obtain⟨h1,h2⟩:=Fv hT k U
   obtain⟨h3,h4⟩:=hT k U
   simp only[pU,Ri,Nat.add_mul,Nat.one_mul]
   exact⟨by omega,by omega⟩
def AQ.tot {T:Nat->N2}{m:Nat}(h:AQ T m)(hk:k<=m+1):Bk 99 (pU T k):=by
 obtain⟨_,_⟩:=Fv h.bd k hk
 have h3:k*10^95<=1000*10^95:=Nat.mul_le_mul_right _ (by have:=h.lt;omega)
 have h4:1000*10^95<10^99:=by decide
 exact⟨by omega,by omega⟩
def jZ (S:Nat):Nat->N2->Nat->Option (N2×Nat)
 |0,_,_=>none
 |f+1,x,h=>if S<x.2*2 then jZ S f (lK x 1 2) (h+1)else some (x,h)
def HW (S:Nat):Nat->N2->Option N2
 |0,a=>if yt a=true then some a else none
 |h+1,a=>if yt a=true then HW S h (na S a a)else none
def K8 (S:Nat)(x:N2)(n:Nat)(t:N2):N2:=lK (na S t x) 1 n
def yv (S:Nat)(x:N2):Option N2:=if yt x=true then(jZ S 200 x 0).bind λp=>(yu (K8 S p.1) (1*S,1*S)).bind (HW S p.2)else none
def Pd {x:N2}(h:Bk k x):Bk k (lK x 1 2):=
 ⟨Nat.lt_of_le_of_lt (by simpa[lK]using Nat.div_le_self _ _) h.1,Nat.lt_of_le_of_lt (by simpa[lK]using yr (a:=x.2) (b:=2) U) h.2⟩
def Uo {S:Nat}{x:N2}{p:N2×Nat}(hh:jZ S f x h=some p)(hl:S<x.2*2):∃g,f=g+1/\jZ S g (lK x 1 2) (h+1)=some p:=by
 cases f with
 |zero=>simp[jZ]at hh
 |succ g=>unfold jZ at hh;rw[if_pos hl]at hh;exact⟨g,rfl,hh⟩
def Up {S:Nat}{x:N2}{p:N2×Nat}(hh:jZ S f x h=some p)(hl:¬S<x.2*2):p=(x,h):=by
 cases f with
 |zero=>simp[jZ]at hh
 |succ g=>unfold jZ at hh;rw[if_neg hl]at hh;cases hh;rfl
def Zh {S:Nat}{a r:N2}(hh:HW S (h-i) a=some r)(hl:i<h):Bk 95 a/\HW S (h-(i+1)) (na S a a)=some r:=by
 obtain⟨k,hk⟩:∃k,h-i=k+1:=⟨h-i-1,by omega⟩
 rw[hk]at hh
 unfold HW at hh
 rw[show h-(i+1)=k by omega]
 split at hh
 · rename_i h1;exact⟨fY h1,hh⟩
 · cases hh
def Zi {S:Nat}{a r:N2}(hh:HW S (h-i) a=some r)(hl:¬i<h):a=r/\Bk 95 r:=by
 rw[show h-i=0 by omega]at hh
 unfold HW at hh
 split at hh
 · rename_i h1;cases hh;exact⟨rfl,fY h1⟩
 · cases hh
def Fx {S:Nat}{x r:N2}(h:yv S x=some r):Bk 95 x/\∃p s,jZ S 200 x 0=some p/\yu (K8 S p.1) (1*S,1*S)=some s/\HW S p.2 s=some r:=by
 unfold yv at h
 split at h
 · rename_i h1
   refine⟨fY h1,?_⟩
   cases hp:jZ S 200 x 0 with
   |none=>rw[hp]at h;cases h
   | some p=>
     rw[hp,Option.bind_some]at h
     cases hs:yu (K8 S p.1) (1*S,1*S)with
     |none=>rw[hs]at h;cases h
     |some s=>rw[hs,Option.bind_some]at h;exact⟨p,s,rfl,hs,h⟩
 · cases h
def Rj {S:Nat}:∀{h:Nat} {a r:N2},HW S h a=some r->Bk 95 r
 |0,a,r,h=>by unfold HW at h;split at h;rename_i h1;cases h;exact fY h1;cases h
 |k+1,a,r,h=>by unfold HW at h;split at h;exact Rj h;cases h
def Uq {S:Nat}{x r:N2}(h:yv S x=some r):Bk 95 r:=by
 obtain⟨_,p,s,_,_,h3⟩:=Fx h
 exact Rj h3
def Ur (S:Nat)(y:N2)(fr n:Nat)(u:N2):N2:=lK (na S u y) 2 (fr+2*n)
end
section
set_option maxRecDepth 100000
open Go Go.Eng Go.RowKit Tryz
attribute [local irreducible] wpListIn Code.wpIn Oper.wpIn Exit.then Exit.inBlock Exit.noGoto
set_option maxHeartbeats 40000000
section
variable {f:FuncId}{a:Array Value}
def no {X Y:Value}(h:CL f a w (aH w λv _=>v=X))(e:X=Y):CL f a w (aH w λv _=>v=Y):=e▸h
def cB {X Y:Bool}(h:CL f a w (aH w λv _=>v=.bool X))(e:X=Y):CL f a w (aH w λv _=>v=.bool Y):=e▸h
end
def Zj (h:nS (a%b)=[48]):S (nS (a/b))=S (nS (sQ a b)):=by
 have:=dT.1 h
 unfold sQ;rw[if_pos U]
def Zk (h:¬nS (a%b)=[48]):S (nS (a/b+1))=S (nS (sQ a b)):=by
 unfold sQ;rw[if_neg λe=>h (by rw[e];rfl)]
def Us (h:Fi a):Fi (a/b):=Nat.lt_of_le_of_lt (Nat.div_le_self _ _) h
def Ut (h:Fi a)(hb:0<b):Fi (sQ a b):=Nat.lt_of_le_of_lt (yr hb) h
def Xr (h:Fi a)(hb:0<b)(h0:¬nS (a%b)=[48]):Fi (a/b+1):=by
 have h1:=Ut h hb
 unfold sQ at h1
 rwa [if_neg λe=>h0 (by rw[e];rfl)]at h1
def K9 (h:Fi (a+b)):Fi a/\Fi b:=by unfold Fi at *;omega
def Uu (ha:Fi a)(hb:Fi b)(h0:0<b):dt (nS a) (nS b)=some (nS (a/b),nS (a%b)):=uJ ha.z hb.z U (Us ha).z
def Pe {l m:List UInt8}{a b:Int}(hl:l=ae a)(hm:m=ae b)(ha:Fz a)(hb:Fz b)(h:Fz (a+b))(ht:Tb w):
 CL 222 #[S l,S m] w (aH w λv w'=>v=S (ae (a+b))):=by
 subst hl hm;refine aC func222 Z (I ?_);refine cl Ip (no (Y:=.tuple #[S (ae (a+b)),.int .i64 0]) (xZ _ _ _ (ht.ext (aa0 _))) (qb2 iC (KX ha hb h))) ?_;rintro _ _ E rfl;have O:=E.2;refine I ?_;exact am (t:=4) (v:=S (ae (a+b))) Z O Z Z
def Fy {l m:List UInt8}{a b:Int}(hl:l=ae a)(hm:m=ae b)(ha:Fz a)(hb:Fz b)(h:Fz (a-b))(ht:Tb w):
 CL 227 #[S l,S m] w (aH w λv w'=>v=S (ae (a-b))):=by
 subst hl hm;refine aC func227 Z (I ?_);refine cl Ec (no (Y:=.tuple #[S (ae (a-b)),.int .i64 0]) (sF _ _ _ (ht.ext (aa0 _))) (qb2 iC (Un ha hb h))) ?_;rintro _ _ E rfl;have O:=E.2;refine I ?_;exact am (t:=4) (v:=S (ae (a-b))) Z O Z Z
def Pf {l m:List UInt8}{a b:Int}(hl:l=ae a)(hm:m=ae b)(ha:Fz a)(hb:Fz b)(h:Fz (a*b))(ht:Tb w):
 CL 219 #[S l,S m] w (aH w λv w'=>v=S (ae (a*b))):=by
 subst hl hm;refine aC func219 Z (I ?_);refine cl QH (no (Y:=.tuple #[S (ae (a*b)),.int .i64 0]) (EG _ _ _ (ht.ext (aa0 _))) (qb2 iC (KZ ha hb h))) ?_;rintro _ _ E rfl;have O:=E.2;refine I ?_;exact am (t:=4) (v:=S (ae (a*b))) Z O Z Z
def Lb {l m:List UInt8}{a b:Int}(hl:l=ae a)(hm:m=ae b)(ha:Fz a)(hb:Fz b)(hp:0<b)(ht:Tb w):
 CL 218 #[S l,S m] w (aH w λv w'=>v=S (ae (a/b))):=by
 subst hl hm;have A2:b≠0:=U;refine aC func218 Z (I ?_);refine clb zj (hc:=no (Y:=.tuple #[S (ae (a/b)),S (ae (a%b)),.int .i64 0]) (kf _ _ _ (ht.ext (aa0 _))) (qb2 vL (uJ ha hb A2 (kz ha U)))) (hk:=?_);rintro _ _ E rfl;have O:=E.2;refine I ?_;exact am (t:=4) (v:=S (ae (a/b))) Z O Z Z
def kr {l m:List UInt8}(hl:l=nS a)(hm:m=nS b)(h:Fi (a+b))(ht:Tb w):CL 222 #[S l,S m] w (aH w λv _=>v=S (nS (a+b))):=Pe hl hm (K9 h).1.z (K9 h).2.z h.z ht
def gl {l m:List UInt8}(hl:l=nS a)(hm:m=nS b)(ha:Fi a)(hb:Fi b)(h:Fi (a*b))(ht:Tb w):CL 219 #[S l,S m] w (aH w λv _=>v=S (nS (a*b))):=Pf hl hm ha.z hb.z h.z ht
def pV {l m:List UInt8}(hl:l=nS a)(hm:m=nS b)(ha:Fi a)(hb:Fi b)(hp:0<b)(ht:Tb w):CL 218 #[S l,S m] w (aH w λv _=>v=S (nS (a/b))):=Lb hl hm ha.z hb.z U ht
def yw {l m:List UInt8}(hl:l=nS a)(hm:m=nS b)(ha:Fi a)(hb:Fi b)(hp:0<b)(ht:Tb w):
 CL 220 #[S l,S m] w (aH w λv w'=>v=S (nS (sQ a b))):=by
 subst hl hm;refine aC func220 Z (I ?_);refine cl zj (no (Y:=.tuple #[S (nS (a/b)),S (nS (a%b)),.int .i64 0]) (kf _ _ _ (ht.ext (aa0 _))) (qb2 vL (Uu ha hb hp))) ?_;rintro _ _ A2 rfl;have E:=A2.2;refine I ?_;refine rU (b:=[48]) (I ?_);by_cases cm:(nS (a%b))=([48]);refine I ?_;exact am (t:=4) (v:=S (nS (a/b))) Z E (Zj cm) Z;refine I ?_;refine cl mp (kr Z K4 (Xr ha hp cm) (ht.ext E)) ?_;rintro _ _ O rfl;have E:=xt E O.2;refine I ?_;exact am (t:=4) (v:=S (nS (a/b+1))) Z E (Zk cm) Z
def uL (hn:n<1000000000)(ht:Tb w):
 CL 185 #[.int .i64 n] w (aH w λv w'=>v=S (nS n)):=by
 refine aC func185 Z (I ?_);refine clb Ik (hc:=no (Y:=S (nS n)) (xQ _ _ U U (ht.ext (aa0 _))) (qb2 S (zZ n))) (hk:=?_);rintro _ _ E rfl;have O:=E.2;refine I ?_;exact am (t:=2) (v:=S (nS n)) Z O Z Z
def pW :aN w w:=aa0 _
section
variable {f:FuncId}{a:Array Value}{m:Nat}
def Lc {o o':Option Rows}(h:CL f a w (aH w λv w'=>nj lo w' n o v))(e:o=o'):CL f a w (aH w λv w'=>nj lo w' n o' v):=e▸h
def Xs {L:Rows}(h:CL f a w (aH w λv w'=>dI lo w' v n L))(e:n=m):CL f a w (aH w λv w'=>dI lo w' v m L):=e▸h
end
def jA {L:Rows}(hM:Mt w lo A n H L)(hB:Bd n L){m:Nat}{K:Rows}(hN:Mt w lo2 B m G K)(hB2:Bd m K){P:Rows}(e:dM n L m K=some P)(ht:Tb w):
 CL 93 #[.slice A n C,.slice B m D] w (aH w λv w'=>dI w.heap.size w' v n P):=by
 refine aC func93 Z (I ?_);refine cl YI (Lc (o':=some P) (O3 (hM.ext pW) hB (hN.ext pW) hB2 (ht.ext pW)) e) ?_;rintro _ _ Ap ⟨Ar,rfl,A2,Ab,Am,rfl,Ao,Aq⟩;have O:=Ap.2;have E:=ab6 Aq;refine I ?_;refine cl Ci AO ?_;rintro _ _ Af rfl;have E:=aa7 Af.2 E;have O:=xt O Af.2;refine I ?_;exact am (t:=4) (v:=.slice A2 n Ab) Z O ⟨A2,Ab,Am,rfl,Ao,(E).mt⟩ Z
def yx {L:Rows}(hM:Mt w lo A n H L)(hB:Bd n L){P:Rows}(e:eY n L=some P)(ht:Tb w):
 CL 91 #[.slice A n C] w (aH w λv w'=>dI w.heap.size w' v n P):=by
 refine aC func91 Z (I ?_);refine cl VC (Lc (o':=some P) (Fu (hM.ext pW) hB (ht.ext pW)) e) ?_;rintro _ _ Ap ⟨Ar,rfl,A2,Ab,Am,rfl,Ao,Aq⟩;have O:=Ap.2;have E:=ab6 Aq;refine I ?_;refine cl Ci AO ?_;rintro _ _ Af rfl;have E:=aa7 Af.2 E;have O:=xt O Af.2;refine I ?_;exact am (t:=2) (v:=.slice A2 n Ab) Z O ⟨A2,Ab,Am,rfl,Ao,(E).mt⟩ Z
def Ld {L:Rows}(hM:Mt w lo A n H L)(hB:Bd n L){a:Addr}(hE:Er w a)(e:eY n L=none)(ht:Tb w):
 CL 91 #[.slice A n C] w (fo (pE a) w):=by
 refine iW func91 Z (I ?_);refine cl VC (Lc (o':=none) (Fu (hM.ext pW) hB (ht.ext pW)) e) ?_;rintro _ _ O rfl;have E:=O.2;refine I ?_;refine aa (dO (vs:=[.slice none 0 0,.int .i64 130]) Ci Z (Hh (Er.ext E hE)) (λ_ A2=>?_));have E:=xt E A2;refine I ?_;exact gD ⟨E,rfl⟩
def uN {L:Rows}(hM:Mt w lo A n H L)(hB:Bd n L)(hv:vM n L=true)(hl:(L 0).length=k)(ht:Tb w):
 CL 92 #[.slice A n C] w (aH w λv w'=>dI w.heap.size w' v k (λj=>l8 L n j)):=by
 refine aC func92 Z (I ?_);refine clb VD (hc:=Xs (m:=k) (Rh (hM.ext pW) hB (ht.ext pW)) (by rw[if_pos hv];exact hl)) (hk:=?_);rintro _ _ Af ⟨E,O,Ab,rfl,Ao,A2⟩;have Am:=Af.2;have Ap:=ab6 A2;refine I ?_;exact am (t:=2) (v:=.slice E k O) Z Am ⟨E,O,Ab,rfl,Ao,(Ap).mt⟩ Z
def pX :
 CL 95 #[.agg #[.slice A n C,.slice Y ny CY,.slice B nb CB]] w (aH w λv w'=>v=.int .i64 n):=by
 refine aC func95 Z (I ?_);refine bx (λ_ E _=>?_);have O:=E.2;refine I ?_;exact am (t:=2) (v:=.int .i64 n) Z O Z Z
def Le {L:Rows}(hM:Mt w lo A n H L)(hn:0<n):
 CL 96 #[.agg #[.slice A n C,.slice Y ny CY,.slice B nb CB]] w (aH w λv w'=>v=.int .i64 (((L 0).length:Nat):Int)):=by
 refine aC func96 Z (I ?_);refine bx (λ_ O _=>?_);have E:=O.2;have A2:=aa6 (hM.ext E) (i:=0) U;refine I ?_;refine eI A2 ?_ (i:=0);refine I ?_;exact am (t:=2) (v:=.int .i64 (((L 0).length:Nat):Int)) Z E Z Z
def lL {b:List R}(hb:Rw w lo A (ag b))(hbl:b.length*32<=140737488355328):
 CL 61 #[.slice A b.length C] w (aH w λv w'=>dI w.heap.size w' v b.length (cg b)):=by
 refine aC func61 Z (I ?_);have EW:World.ownsRow w w.heap.size 28 1 (.slice none 0 0) 0 []:=bO;have E5:Wr w w.heap.size w.heap.size 0 (λ_=>.nilIface) (cg b):=Wr.nil;have C0:=aa0 w;refine ck [(2,2),(4,4),(7,16)] (λCG e W=>∃i:Nat,∃H2:Nat->Value,∃Af:Value,(b.length-i=CG)/\(e 7=.int .i64 i)/\(e 2=Af)/\(i<=b.length)/\(∀zz,zz<i->ay Af (H2 zz))/\(w.heap.size<=W.heap.size)/\(aN w W)/\(W.ownsRow w.heap.size 28 1 Af i ((List.range i).map H2))/\(Wr W w.heap.size W.heap.size i H2 (cg b))) (b.length-0) ⟨0,(λ_=>.nilIface),.slice none 0 0,rfl,rfl,rfl,(qa7 _),(λj Ay=>by omega),(qa0 _),C0,EW,E5⟩ ?_;rintro _ _ _ ⟨i,H2,Af,rfl,GC,B1,hi_i,Az,H3,A2,O,E⟩;have Ix:=bz A2;by_cases hli:i<b.length;have D1:=aV (hb.ext A2) (k:=(i)) U;refine I ?_;refine jv D1 (I ?_);refine al aZ (λ_ Ax E6=>?_);have E1:=br O;have O:=ab Ax.2 O;have E:=aa2 Ax.2 E;have A2:=xt A2 Ax.2;refine SA E6 (λAb Ar As=>?_);have O:=av Ar E1 O;have E:=ab8 Ar U E;have A2:=bA Ar A2;have FR:=ij Ar;refine I ?_;refine aa (aY (v:=Af) B1 ?_);refine I ?_;have nm:=dG O;refine BS (λod Aw _ B2=>?_);have G0:=br O;have O:=ab Aw O;have E:=aa2 Aw E;have⟨As,A2⟩:=bw Aw As A2
 have Am:World.ownsRow od Ab.heap.size 33 2 (.slice (some ⟨Ab.heap.size,0,none⟩) 1 1) [ap b i].length (ag [ap b i]):=aP B2 Z Z;refine BS (λ_ Ap _ Cr=>?_);have O:=ab Ap O;have E:=aa2 Ap E;have As:=be Ap As;have Am:=ab Ap Am;have A2:=xt A2 Ap;refine AP O (ab0 Cr) (λAv E4 ES Aq B0=>?_);have wr:∀Ao,Ao<i->ay Av (H2 Ao):=λAo hi=>ab1 B0 (Az Ao hi) (Wr.own E Ao hi);have E:=ad4 Aq Az E;have D2:=ab1 B0 (aa4 (λg h1 h2=>by cases h1;have h3:Ab.heap.size<_:=nm _ h2;omega)) Am;have Am:=ab5 (aa4 (λg h1 h2=>by cases h1;have h3:Ab.heap.size<_:=nm _ h2;omega)) Aq Am;have A2:=bB O U U A2 Aq;have H4:=Aq.size;refine aa (aJ (v:=Av) Z ?_);refine I ?_;refine gR (I ?_);have E9:World.ownsRow E4 Ab.heap.size 33 2 (.slice (some ⟨Ab.heap.size,0,none⟩) 1 1) ((cg b) i).length (ag ((cg b) i)):=aP Am Z Z;have E0:=b9 (lo':=w.heap.size) U E9;have E7:∀zz,zz<i->ay (.slice (some ⟨Ab.heap.size,0,none⟩) 1 1) (H2 zz):=Wr.far E Am U;refine I ?_;exact bJ ⟨i+1,bD H2 i (.slice (some ⟨Ab.heap.size,0,none⟩) 1 1),Av,rfl,rfl,rfl,U,(λj Ay=>ef wr D2 j Ay),U,A2,(aP ES Z (eU H2 i (.slice (some ⟨Ab.heap.size,0,none⟩) 1 1)).symm),(by have h:=Wr.push E E0 E7;rwa [pJ]at h)⟩
 refine I ?_;refine aa (aY (v:=Af) B1 ?_);refine aa (aJ (v:=Af) Z ?_);refine I ?_;exact am (t:=2) (v:=Af) Z A2 (by have h:=pK O E;rw[show i=b.length by omega]at h;exact h.mono U) Z
end
end Go.Proofs.YtlmihmlnpjkblaaGreatDoor
namespace La
variable {k n i j s p:Nat}{f g u:Nat->Rat}
abbrev Mx:=Nat->Nat->Rat
def sm:Nat->(Nat->Rat)->Rat
 |0,_=>0
 |n+1,f=>sm n f+f n
def ao :∀{n:Nat},(∀i,i<n->f i=g i)->sm n f=sm n g
 |0,_=>rfl
 |n+1,h=>by unfold sm;rw[ao (λi hi=>h i J),h n J]
def dN:∀{n:Nat} {f:Nat->Rat},(∀i,i<n->f i=0)->sm n f=0
 |0,_,_=>rfl
 |n+1,f,h=>by unfold sm;rw[dN (λi hi=>h i J),h n J];grind
def iH (f g:Nat->Rat):∀n,sm n (λi=>f i+g i)=sm n f+sm n g
 |0=>by simp only[sm];grind
 |n+1=>by simp only[sm];rw[iH f g n];grind
def dv (c:Rat)(f:Nat->Rat):∀n,sm n (λi=>c*f i)=c*sm n f
 |0=>by simp only[sm];grind
 |n+1=>by simp only[sm];rw[dv c f n];grind
def nc (c:Rat)(f:Nat->Rat)(n:Nat):sm n (λi=>f i*c)=sm n f*c:=by
 rw[Rat.mul_comm,<-dv];exact ao λi _=>qb7 _ _
def lM (f g:Nat->Rat):∀n,sm n (λi=>f i-g i)=sm n f-sm n g
 |0=>by simp only[sm];grind
 |n+1=>by simp only[sm];rw[lM f g n];grind
def jB (f:Nat->Nat->Rat)(m:Nat):∀n,sm n (λi=>sm m (λj=>f i j))=sm m (λj=>sm n (λi=>f i j))
 |0=>by simp only[sm];exact(dN λ_ _=>rfl).symm
 |n+1=>by simp only[sm];rw[jB f m n,<-iH]
def g8 :∀{n:Nat},k<n->(∀i,i<n->i≠k->f i=0)->sm n f=f k
 | n+1,hk,h=>by
   unfold sm
   by_cases e:k=n
   · subst e;rw[dN (λi hi=>h i J J)];grind
   · rw[g8 J (λi hi hne=>h i J hne),h n J J];grind
def uO (f:Nat->Rat)(a:Nat):∀b,sm (a+b) f=sm a f+sm b (λi=>f (a+i))
 |0=>by simp only[sm];grind
 | b+1=>by
   show sm (a+b) f+f (a+b)=sm a f+(sm b (λi=>f (a+i))+f (a+b))
   rw[uO f a b];grind
def sk (k i:Nat):Nat:=if i<k then i else i+1
def yy (f:Nat->Rat)(k:Nat):∀n,k<=n->sm (n+1) f=f k+sm n (λi=>f (sk k i))
 | 0,h=>by
   have:k=0:=J
   subst this;simp only[sm];grind
 | n +1,h=>by
   rw[show sm (n+1+1) f=sm (n+1) f+f (n+1)from rfl]
   by_cases e:k=n+1
   · subst e
     rw[ao (g:=λi=>f (sk (n+1) i)) (n:=n+1) (λi hi=>by simp[sk,hi])]
     grind
   · rw[yy f k n J]
     show _=f k+(sm n (λi=>f (sk k i))+f (sk k n))
     rw[show sk k n=n+1 by unfold sk;rw[if_neg J]]
     grind
def mul (k:Nat)(A B:Mx):Mx:=λi j=>sm k (λl=>A i l*B l j)
def one:Mx:=λi j=>if i=j then 1 else 0
def tr (A:Mx):Mx:=λi j=>A j i
def jg (n m:Nat)(A B:Mx):Prop:=∀i,i<n->∀j,j<m->A i j=B i j
def mul_assoc (a b:Nat)(A B C:Mx)(i j:Nat):mul b (mul a A B) C i j=mul a A (mul b B C) i j:=by
 unfold mul
 rw[ao (g:=λl=>sm a (λk=>A i k*B k l*C l j)) (λl _=>by rw[<-nc]),jB]
 exact ao λl _=>by rw[<-dv];exact ao λk _=>by grind
def mul_one {A:Mx}(h:j<n):mul n A one i j=A i j:=by
 unfold mul one
 rw[g8 h (λl _ hl=>by rw[if_neg hl];grind)]
 simp
def one_mul {A:Mx}(h:i<n):mul n one A i j=A i j:=by
 unfold mul one
 rw[g8 h (λl _ hl=>by rw[if_neg (λe=>hl e.symm)];grind)]
 simp
def eF {A A' B B':Mx}(h:∀l,l<k->A i l=A' i l)(h':∀l,l<k->B l j=B' l j):mul k A B i j=mul k A' B' i j:=
 ao λl hl=>by rw[h l hl,h' l hl]
def yz (k:Nat)(A B:Mx)(i j:Nat):mul k A B j i=mul k (tr B) (tr A) i j:=ao λ_ _=>qb7 _ _
def ker (s:Nat):∀(r:Nat) (Y:Mx),s<r->∃v:Nat->Rat,(∃j,j<r/\v j≠0)/\∀i,i<s->sm r (λj=>Y i j*v j)=0:=by
 induction s with
 | zero=>
   intro r Y h
   exact⟨λ_=>1,⟨0,h,by simp⟩,λi hi=>absurd hi J⟩
 | succ s ih=>
   intro r Y h
   by_cases O:∀j,j<r->Y s j=0
   · obtain⟨v,hv,h2⟩:=ih r Y J
     refine⟨v,hv,λi hi=>?_⟩
     by_cases e:i=s
     · subst e;exact dN λj A2=>by rw[O j A2];grind
     · exact h2 i J
   · have O:∃j,j<r/\Y s j≠0:=by
      refine qb6 λAm=>O λj A2=>qb6 λh=>Am ⟨j,A2,h⟩
     obtain⟨E,Ap,Aq⟩:=O
     obtain⟨r,rfl⟩:∃r',r=r'+1:=⟨r-1,by omega⟩
     obtain⟨v,⟨Ao,Ar,hv⟩,h2⟩:=ih r (λi j=>Y i (sk E j)-Y i E/Y s E*Y s (sk E j)) J
     let t:=sm r (λj=>Y s (sk E j)*v j)
     let w:Nat->Rat:=λj=>if j=E then-(t/Y s E)else v (if j<E then j else j-1)
     have Af:w E= -(t/Y s E):=by simp[w]
     have Ab:∀j,w (sk E j)=v j:=by
      intro j
      show(if sk E j=E then _ else _)=_
      unfold sk
      split
      · rename_i h;simp;omega
      · rename_i h;rw[if_neg J,if_neg J];rfl
     refine⟨w,⟨sk E Ao,by unfold sk;split <;>omega,by rw[Ab];exact hv⟩,λi hi=>?_⟩
     rw[yy _ E r J,Af,ao (g:=λj=>Y i (sk E j)*v j) (λj _=>by rw[Ab])]
     by_cases e:i=s
     · subst e
       show Y i E*-(t/Y i E)+t=0
       grind
     · have h3:=h2 i J
       rw[ao (g:=λj=>Y i (sk E j)*v j-Y i E/Y s E*(Y s (sk E j)*v j)) (λj _=>by grind),lM,dv]at h3
       show Y i E*-(t/Y s E)+_=0
       have h4:sm r (λj=>Y i (sk E j)*v j)-Y i E/Y s E*t=0:=h3
       grind
def Lf {r:Nat}{X Y:Mx}(h:jg r r (mul s X Y) one):r<=s:=by
 refine Nat.le_of_not_lt λhlt=>?_
 obtain⟨v,⟨j,E,A2⟩,h2⟩:=ker s r Y hlt
 refine A2 ?_
 have:sm r (λl=>mul s X Y j l*v l)=v j:=by
  rw[g8 E (λl hl O=>by rw[h j E l hl];unfold one;rw[if_neg (λe=>O e.symm)];grind)]
  rw[h j E j E];simp[one]
 rw[<-this]
 unfold mul
 rw[ao (g:=λl=>sm s (λk=>X j k*(Y k l*v l))) (λl _=>by rw[<-nc];exact ao λk _=>by grind),jB]
 exact dN λk hk=>by rw[dv,h2 k hk];grind
structure Xt (n m r:Nat)(A C F CL FR:Mx):Prop where
 eq:jg n m A (mul r C F)
 cl:jg r r (mul n CL C) one
 fr:jg r r (mul m F FR) one
def Rk (n m r:Nat)(A:Mx):Prop:=∃C F CL FR,Xt n m r A C F CL FR
def Xt.mid {m r:Nat}{A C F CL FR X Y k3 V:Mx}(h:Xt n m r A C F CL FR)(hA:jg n m A (mul s X Y))(_:k3=mul n CL X)(_:V=mul m Y FR):jg r r (mul s k3 V) one:=by
 intro i hi j E
 subst k3 V
 have h1:mul m (mul n CL A) FR i j=mul m (mul n CL (mul r C F)) FR i j:=
  eF (λl hl=>eF (λ_ _=>rfl) (λk hk=>h.eq k hk l hl)) (λ_ _=>rfl)
 have h2:mul m (mul n CL A) FR i j=mul m (mul n CL (mul s X Y)) FR i j:=
  eF (λl hl=>eF (λ_ _=>rfl) (λk hk=>hA k hk l hl)) (λ_ _=>rfl)
 have h3:mul m (mul n CL (mul r C F)) FR i j=one i j:=by
  rw[eF (A':=mul r (mul n CL C) F) (B':=FR) (λl _=>(mul_assoc _ _ _ _ _ _ _).symm) (λ_ _=>rfl)]
  rw[eF (A':=F) (B':=FR) (λl _=>by
   rw[eF (A':=one) (B':=F) (λk hk=>h.cl i hi k hk) (λ_ _=>rfl)];exact one_mul hi) (λ_ _=>rfl)]
  exact h.fr i hi j E
 rw[<-h3,<-h1,h2]
 rw[eF (A':=mul s (mul n CL X) Y) (B':=FR) (λl _=>(mul_assoc _ _ _ _ _ _ _).symm) (λ_ _=>rfl)]
 exact(mul_assoc _ _ _ _ _ _ _).symm
def Xt.le {m r:Nat}{A C F CL FR X Y:Mx}(h:Xt n m r A C F CL FR)(hA:jg n m A (mul s X Y)):r<=s:=Lf (h.mid hA Z Z)
def Rk.uniq {m r:Nat}{A:Mx}(h:Rk n m r A)(h':Rk n m s A):r=s:=by
 obtain⟨C,F,_,_,h⟩:=h
 obtain⟨_,_,_,_,h'⟩:=h'
 exact Nat.le_antisymm (h.le h'.eq) (h'.le h.eq)
def Rk.tr {m r:Nat}{A:Mx}(h:Rk n m r A):Rk m n r (tr A):=by
 obtain⟨C,F,CL,FR,h⟩:=h
 refine⟨La.tr F,La.tr C,La.tr FR,La.tr CL,⟨λi hi j E=>?_,λi hi j E=>?_,λi hi j E=>?_⟩⟩
 · show A j i=_;rw[h.eq j E i hi,yz]
 · rw[<-yz,h.fr j E i hi];unfold one;simp only[eq_comm]
 · rw[<-yz,h.cl j E i hi];unfold one;simp only[eq_comm]
def Rk.le_n {m r:Nat}{A:Mx}(h:Rk n m r A):r<=n:=by
 obtain⟨C,F,_,_,h⟩:=h
 exact Lf h.cl
def Rk.le_m {m r:Nat}{A:Mx}(h:Rk n m r A):r<=m:=h.tr.le_n
def Rk.mul_r {m q t:Nat}{A B:Mx}(hB:Rk k m q B)(hT:Rk n m t (mul k A B)):t<=q:=by
 obtain⟨C,F,_,_,h⟩:=hB
 obtain⟨_,_,_,_,O⟩:=hT
 exact O.le (X:=mul k A C) (Y:=F) λi _ j E=>by
  rw[eF (A':=A) (B':=mul q C F) (λ_ _=>rfl) (λl hl=>h.eq l hl j E)];exact(mul_assoc _ _ _ _ _ _ _).symm
def sg (i:Nat):Rat:=if i%2=0 then 1 else -1
def sR (i:Nat):sg (i+1)= -sg i:=by
 unfold sg
 rcases Nat.mod_two_eq_zero_or_one i with h|h
 · rw[if_neg J,if_pos h]
 · rw[if_pos J,if_neg J];grind
def mn (i:Nat)(A:Mx):Mx:=λr c=>A (sk i r) (c+1)
def det:Nat->Mx->Rat
 |0,_=>1
 |n+1,A=>sm (n+1) λi=>sg i*A i 0*det n (mn i A)
def mr (k:Nat)(A:Mx):Mx:=λr c=>A (r+1) (sk k c)
def AS:Nat->Mx->Rat
 |0,_=>1
 |n+1,A=>sm (n+1) λk=>sg k*A 0 k*AS n (mr k A)
def Rl (h:i<n):sk k i<n+1:=by unfold sk;split <;>omega
def fk:∀{n:Nat} {A B:Mx},jg n n A B->det n A=det n B
 |0,_,_,_=>rfl
 | n+1,A,B,h=>ao λi hi=>by
   rw[h i hi 0 J,fk (A:=mn i A) (B:=mn i B) λr hr c hc=>h _ (Rl hr) _ J]
def Lg:∀(n:Nat) (A:Mx),det n (tr A)=AS n A
 |0,_=>rfl
 | n+1,A=>ao λi _=>by
   show sg i*A 0 i*det n (mn i (tr A))=_
   rw[show mn i (tr A)=tr (mr i A)from rfl,Lg n]
def g9 (f:Nat->Rat):∀n,sm (n+1) f=f 0+sm n (λi=>f (i+1))
 |0=>by simp only[sm];grind
 | n+1=>by
   rw[show sm (n+1+1) f=sm (n+1) f+f (n+1)from rfl,g9 f n]
   simp only[sm];grind
def Z9 (r:Nat):sk 0 r=r+1:=by simp[sk]
def Rn (i:Nat):sk (i+1) 0=0:=by simp[sk]
def Ro (i r:Nat):sk (i+1) (r+1)=sk i r+1:=by unfold sk;split <;>split <;>omega
def pY:∀(n:Nat) (A:Mx),det n A=AS n A
 |0,_=>rfl
 |1,A=>by simp[det,AS,sm]
 | n +2,A=>by
   rw[det,g9,AS,g9 (λk=>sg k*A 0 k*AS (n+1) (mr k A))]
   have h0:mn 0 A=mr 0 A:=by funext r c;simp[mn,mr,Z9]
   rw[h0,pY (n+1) (mr 0 A)]
   let D:Nat->Nat->Mx:=λi k r c=>A (sk i r+1) (sk k c+1)
   have h1:∀i,i<n+1->sg (i+1)*A (i+1) 0*det (n+1) (mn (i+1) A)=sm (n+1) λk=> -(sg i*sg k)*(A (i+1) 0*A 0 (k+1))*det n (D i k):=by
    intro i _
    rw[pY (n+1),AS,<-dv]
    refine ao λk _=>?_
    rw[show mr k (mn (i+1) A)=D i k by funext r c;simp[mr,mn,D,Ro],<-pY n,sR]
    show _*(sg k*A (sk (i+1) 0) (k+1)*_)=_
    rw[Rn];grind
   have h2:∀k,k<n+1->sg (k+1)*A 0 (k+1)*AS (n+1) (mr (k+1) A)=sm (n+1) λi=> -(sg i*sg k)*(A (i+1) 0*A 0 (k+1))*det n (D i k):=by
    intro k _
    rw[<-pY (n+1),det,<-dv]
    refine ao λi _=>?_
    rw[show mn i (mr (k+1) A)=D i k by funext r c;simp[mr,mn,D,Ro],sR]
    show _*(sg i*A (i+1) (sk (k+1) 0)*_)=_
    rw[Rn];grind
   rw[ao h1,ao h2,jB]
def kA (n:Nat)(A:Mx):det n (tr A)=det n A:=by rw[Lg,pY]
def ur (A:Mx)(k:Nat)(u:Nat->Rat):Mx:=λi j=>if i=k then u j else A i j
def oA {A:Mx}:mn k (ur A k u)=mn k A:=by
 funext r c;unfold mn ur;rw[if_neg (by unfold sk;split <;>omega)]
def pk (i k:Nat):Nat:=if k<i then k else k-1
def Lh {A:Mx}(h:i≠k):mn i (ur A k u)=ur (mn i A) (pk i k) (λj=>u (j+1)):=by
 funext r c;unfold mn ur
 have:(sk i r=k)↔(r=pk i k):=by unfold sk pk;split <;>split <;>omega
 by_cases e:sk i r=k
 · rw[if_pos e,if_pos (this.1 e)]
 · rw[if_neg e,if_neg (λh=>e (this.2 h))]
def sS:∀(n:Nat) (A:Mx) (k:Nat) (u v:Nat->Rat) (c:Rat),k<n->det n (ur A k (λj=>u j+c*v j))=det n (ur A k u)+c*det n (ur A k v)
 |0,_,_,_,_,_,h=>absurd h J
 | n +1,A,k,u,v,c,h=>by
   simp only[det]
   rw[<-dv,<-iH]
   refine ao λi hi=>?_
   by_cases e:i=k
   · subst e
     rw[oA,oA,oA]
     simp only[ur,if_true];grind
   · rw[Lh e,Lh e,Lh e,sS n _ _ (λj=>u (j+1)) (λj=>v (j+1)) c (by unfold pk;split <;>omega)]
     simp only[ur,if_neg e];grind
def sT (A:Mx)(k:Nat):ur A k (A k)=A:=by funext i j;unfold ur;split <;>simp_all
def wR {A:Mx}(u:Nat->Rat)(c:Rat)(h:k<n):det n (ur A k (λj=>c*u j))=c*det n (ur A k u):=by
 have h1:=sS n A k u u (c-1) h
 rw[show(λj=>u j+(c-1)*u j)=λj=>c*u j by funext j;grind]at h1
 rw[h1];grind
def AT {A:Mx}(h:k<n)(hz:∀j,j<n->A k j=0):det n A=0:=by
 have h1:=wR (A:=A) (A k) 0 h
 rw[sT]at h1
 rw[<-Rat.zero_mul (det n A),<-h1]
 refine fk λi _ j E=>?_
 unfold ur
 split
 · rename_i e;subst e;rw[hz j E];grind
 · rfl
def sa (k i:Nat):Nat:=if i=k then k+1 else if i=k+1 then k else i
def Rp (f:Nat->Rat)(k:Nat):∀n,k+1<n->sm n (λi=>f (sa k i))=sm n f
 |0,h=>absurd h J
 | n +1,h=>by
   by_cases e:k+1=n
   · subst e
     show sm k (λi=>f (sa k i))+f (sa k k)+f (sa k (k+1))=sm k f+f k+f (k+1)
     rw[ao (g:=f) (n:=k) (λi hi=>by unfold sa;rw[if_neg J,if_neg J])]
     rw[show sa k k=k+1 by simp[sa],show sa k (k+1)=k by simp[sa]];grind
   · show sm n (λi=>f (sa k i))+f (sa k n)=sm n f+f n
     rw[Rp f k n J,show sa k n=n by unfold sa;rw[if_neg J,if_neg J]]
def Uv {r:Nat}:sa i (sk i r)=sk (i+1) r:=by unfold sa sk;grind
def Uw {r:Nat}:sa k (sk (k+1) r)=sk k r:=by unfold sa sk;grind
def Ux {r:Nat}(e1:¬i=k)(e2:¬i=k+1):sa k (sk i r)=sk i (sa (if k<i then k else k-1) r):=by unfold sa sk;grind
def uP:∀(n:Nat) (A:Mx) (k:Nat),k+1<n->det n (λi j=>A (sa k i) j)= -det n A
 |0,_,_,h=>absurd h J
 | n + 1,A,k,h=>by
   simp only[det]
   rw[<-Rp (λi=>sg i*A i 0*det n (mn i A)) k (n+1) h,show∀x:Rat,- x=(-1)*x by intro x;grind,<-dv]
   refine ao λi hi=>?_
   by_cases e1:i=k
   · subst e1
     rw[show mn i (λi' j=>A (sa i i') j)=mn (i+1) A by
      funext r c;show A (sa i (sk i r)) (c+1)=A (sk (i+1) r) (c+1);rw[Uv]]
     rw[show sa i i=i+1 by simp[sa],sR];grind
   · by_cases e2:i=k+1
     · subst e2
       rw[show mn (k+1) (λi' j=>A (sa k i') j)=mn k A by
        funext r c;show A (sa k (sk (k+1) r)) (c+1)=A (sk k r) (c+1);rw[Uw]]
       rw[show sa k (k+1)=k by simp[sa],sR];grind
     · rw[show sa k i=i by unfold sa;rw[if_neg e1,if_neg e2]]
       rw[show mn i (λi' j=>A (sa k i') j)=λr j=>mn i A (sa (if k<i then k else k-1) r) j by
        funext r c;show A (sa k (sk i r)) (c+1)=A (sk i (sa (if k<i then k else k-1) r)) (c+1);rw[Ux e1 e2]]
       rw[uP n _ _ kd2];grind
def sx (p r i:Nat):Nat:=if i=p then r else if i=r then p else i
def Ds:∀(d n:Nat) (A:Mx) (p:Nat),p+d+1<n->det n (λi j=>A (sx p (p+d+1) i) j)= -det n A
 | 0,n,A,p,h=>by
   rw[show(λi j=>A (sx p (p+0+1) i) j)=λi j=>A (sa p i) j from rfl];exact uP n A p h
 | d +1,n,A,p,h=>by
   have h1:=uP n (λi j=>A (sx (p+1) (p+1+d+1) (sa p i)) j) p J
   have h2:=Ds d n (λi j=>A (sa p i) j) (p+1) J
   have h3:=uP n A p J
   have h4:=uP n (λi j=>A (sa p (sx (p+1) (p+1+d+1) i)) j) p J
   rw[show(λi j=>A (sx p (p+(d+1)+1) i) j)=λi j=>A (sa p (sx (p+1) (p+1+d+1) (sa p i))) j by
    funext i j;congr 1;unfold sx sa;split <;>(try split) <;>(try split) <;>(try split) <;>(try split) <;>(try split) <;>(try split) <;>omega]
   rw[h4,h2,h3];grind
def AU {A:Mx}{r:Nat}(hp:p<n)(hr:r<n)(hne:p≠r):det n (λi j=>A (sx p r i) j)= -det n A:=by
 rcases Nat.lt_or_gt_of_ne hne with h|h
 · obtain⟨d,rfl⟩:∃d,r=p+d+1:=⟨r-p-1,by omega⟩
   exact Ds d n A p hr
 · obtain⟨d,rfl⟩:∃d,p=r+d+1:=⟨p-r-1,by omega⟩
   rw[<-Ds d n A r hp]
   congr 1
   funext i j;congr 1;unfold sx;split <;>split <;>(try split) <;>omega
def AV {A:Mx}{r:Nat}(hp:p<n)(hr:r<n)(hne:p≠r)(h:∀j,j<n->A p j=A r j):det n A=0:=by
 have h1:=AU (A:=A) hp hr hne
 rw [fk (A:=λi j=>A (sx p r i) j) (B:=A) (λi _ j E=>by
  show A (sx p r i) j=A i j
  unfold sx;split
  · rename_i e;rw[e,h j E]
  · split
    · rename_i e;rw[e,h j E]
    · rfl)]at h1
 grind
def Dt {A:Mx}(c:Rat)(hi:i<n)(hk:k<n)(hne:i≠k):det n (ur A i (λj=>A i j+c*A k j))=det n A:=by
 rw[sS n A i (A i) (A k) c hi,sT,AV (A:=ur A i (A k)) hi hk hne (λj _=>by unfold ur;rw[if_pos Z,if_neg (λe=>hne e.symm)])]
 grind
def yB:∀n,det n one=1
 |0=>rfl
 | n+1=>by
   rw[det,g9,dN (n:=n) (λi _=>by unfold one;rw[if_neg J];grind)]
   rw[fk (A:=mn 0 one) (B:=one) (λi _ j _=>by unfold mn one;rw[Z9];simp),yB n]
   unfold one sg;simp;grind
end La
