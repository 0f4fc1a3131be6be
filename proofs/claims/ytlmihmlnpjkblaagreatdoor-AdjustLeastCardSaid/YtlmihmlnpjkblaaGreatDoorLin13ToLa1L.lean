/- Part of the proof of a statement about an adjustment. -/
import Derived.Test.YtlmihmlnpjkblaaGreatDoorLin6ToLin10L
set_option linter.all false
namespace Go.Proofs.YtlmihmlnpjkblaaGreatDoor
variable {cs:List Value}{lo n k off ft D C lo2 b1 b2 l0' l1' n0 n1 c0 c1 i b j a f h ny CY nb CB:Nat}{H G:Nat->Value}{A B A0 A1 Y:Option Addr}{w W:World}
section
set_option maxRecDepth 100000
open Go Go.Eng Go.RowKit Tryz
attribute [local irreducible] wpListIn Code.wpIn Oper.wpIn Exit.then Exit.inBlock Exit.noGoto
set_option maxHeartbeats 40000000
def Fa {m:Nat}{L K:Rows}{v:Value}(h:vM n L=true/\vM m K=true/\(L 0).length=m)(ho:nj lo w n (Al n (K 0).length L K) v):nj lo w n (c6 n L m K) v:=by unfold c6;rw[if_pos h];exact ho
def Dc {m:Nat}{L K:Rows}(h:¬(vM n L=true/\vM m K=true/\(L 0).length=m)):nj lo w n (c6 n L m K) (.tuple #[.slice none 0 0,.int .i64 130]):=by unfold c6;rw[if_neg h];rfl
def rk (n:Nat)(L:Rows):Option Nat:=(elim n (L 0).length (L 0).length L).map λs=>s.piv.length
def lE (n:Nat)(L:Rows):Option R:=(elim n n n L).bind (oi n)
section
variable {L:Rows}{s:El}{d:R}
def Dd (h:elim n (L 0).length (L 0).length L=some s):rk n L=some s.piv.length:=by unfold rk;rw[h];rfl
def De (h:elim n (L 0).length (L 0).length L=none):rk n L=none:=by unfold rk;rw[h];rfl
def OU (h:vM n L=true):GT (rk n L)=GT (kb n L):=by unfold kb;rw[if_pos h];rfl
def G4 (h:elim n n n L=none):lE n L=none:=by unfold lE;rw[h];rfl
def G5 (h:elim n n n L=some s)(hp:s.piv.length<n):lE n L=some z0:=by unfold lE;rw[h];show oi n s=_;unfold oi;rw[if_pos hp]
def OV (h:elim n n n L=some s)(hp:¬s.piv.length<n)(hq:il s.piv s.piv.length 0 o1=none):lE n L=none:=by unfold lE;rw[h];show oi n s=_;unfold oi;rw[if_neg hp,hq];rfl
def OW (h:elim n n n L=some s)(hp:¬s.piv.length<n)(hq:il s.piv s.piv.length 0 o1=some d)(hs:¬s.sw%2=1):lE n L=some d:=by unfold lE;rw[h];show oi n s=_;unfold oi;rw[if_neg hp,hq];simp only[Option.map_some];rw[if_neg hs]
def OX (h:elim n n n L=some s)(hp:¬s.piv.length<n)(hq:il s.piv s.piv.length 0 o1=some d)(hs:s.sw%2=1):lE n L=some (rT d):=by unfold lE;rw[h];show oi n s=_;unfold oi;rw[if_neg hp,hq];simp only[Option.map_some];rw[if_pos hs]
def Ur (h:vx n L=true):Kr (lE n L)=Kr (kO n L):=by unfold kO;rw[if_pos h];rfl
end
section
variable {P:Program}{r:Option Nat}{N:Nat}{e:Nat->Value}{ds:List Deferred}{Q:Exit->Act->World->Prop}{K:Act->World->Prop}
variable {d ty:Nat}{pos:String}{af:Array Edge}{g:Option (Nat×Bool)}{v u:Value}{x y:Operand}{t t':TypeId}
def OY {fs:Array Field}{f:Field}{D:TypeDesc}(hu:P.underlying t=some (.struct fs))(hf:fs[k]?=some f)(ho:f.offset=off)(hft:f.type=ft)(hD:P.underlying ft=some D)(hd:D.isRow=false)(hx:ev N e x=.agg cs.toArray)(hv:cs[off]?=some v)(hk:K (act N (upd e d v) ds) w):Oper.wpIn (Fw r) n P ⟨some d,.field t x k,ty,pos,af,g⟩ (act N e ds) w K Q:=by
 subst ho hft
 refine cG (v:=v) (w':=w) Z ?_ MT
 have E:(isAgg f.type).run P w=.ok false w:=by
  unfold isAgg
  rw[Sem.run_bind,run_underlying hD w]
  cases D <;>simp_all
 have hv':cs.toArray[f.offset]?=some v:=by rw[List.getElem?_toArray];exact hv
 simp[execOp,hx,Instr.field,run_underlying hu,hf,asAgg,part,E,hv]
end
set_option maxHeartbeats 2000000 in
def Fb {L:Rows}(hM:Mt w lo A n H L){m:Nat}{K:Rows}(hN:Mt w lo2 B m G K)(hb1:ap w b1 27 #[.slice A n C])(hb2:ap w b2 27 #[.slice B m D])(hv:VM n L)(hu:VM m K)(hLm:(L 0).length=m)(ht:Tb w):
 CL 72 #[pT b1,pT b2] w (it PN w (Al n (K 0).length L K) (λK' v w'=>dy w.heap.size w' v n K')):=by
 refine ia func72 Z (I ?_);rcases cm:Al n (K 0).length L K with _|cw;refine I ?_;refine aa (gU (v:=.agg #[]) lV Z Z ?_);refine I ?_;refine aa (dr (vs:=[.slice A n C,.iface 106 (.agg #[]),.slice B m D]) VV Z (ad2 cm (wO (hM.ext (aa4 _)) (hN.ext (aa4 _)) hv hu hLm (ht.ext (aa4 _)))) (λ_ Af=>?_));have O:=Af;refine I ?_;exact gg ⟨O,(by first|exact cm|rfl),rfl⟩;refine I ?_;refine aa (gU (v:=.agg #[]) lV Z Z ?_);refine I ?_;refine cl VV (ad0 cm (wO (hM.ext (aa4 _)) (hN.ext (aa4 _)) hv hu hLm (ht.ext (aa4 _)))) ?_;rintro E _ A2 Ab;have Am:=A2.2;refine aa (aK (v:=E) Z ?_);refine I ?_;exact lk (v:=E) (bY Z (aL (t:=2) GS _)) ⟨Am,cw,(by first|assumption|rfl),dy.mono U Ab⟩
def pL {L:Rows}(hM:Mt w lo A n H L)(hB:Bd n L){m:Nat}{K:Rows}(hN:Mt w lo2 B m G K)(hB2:Bd m K)(ht:Tb w):
 CL 28 #[.slice A n C,.slice B m D] w (aG w λv w'=>nj w.heap.size w' n (c6 n L m K) v):=by
 refine aC func28 Z (I ?_);refine bx (λA2 Ax O=>?_);have E:=Ax.2;refine bx (λ_ CG Ab=>?_);have⟨O,E⟩:=bn CG.2 O E;refine I ?_;rcases qa4 (vM n L)with cw|cw;have hv:=gZ cw;have FR:=hv.1;have GC:=hv.2.1;rcases qa4 (vM m K)with cv|cv;have hu:=gZ cv;refine bL 15 ?_;refine sf ?_;refine aR (V:=.bool (vM n L)) (λ_ _ Aq _=>?_) ?_;refine cl ry (val_ok (hM.ext (xt E Aq)) hB (ht.ext (xt E Aq))) ?_;rintro _ _ Ay rfl;have B2:=Ay.2;refine I ?_;exact fs ⟨B2,rfl⟩;refine sf ?_;refine aR (V:=.bool (vM m K)) (λ_ _ Av _=>?_) ?_;refine I ?_;refine cl ry (val_ok (hN.ext (xt E Av)) hB2 (ht.ext (xt E Av))) ?_;rintro _ _ ES rfl;have E5:=ES.2;refine I ?_;exact fs ⟨E5,rfl⟩;refine sf ?_;refine aA (λ_ _ Cr _=>by have E7:=ab1 (hM.ext (xt E Cr)) (i:=0) U;refine I ?_;refine gN E7 ?_ (i:=0);refine I ?_;exact aH) ?_;refine aA (λ_ _ nm _=>by have G0:=ab1 (hM.ext (xt E nm)) (i:=0) U;refine I ?_;exact aH) ?_;refine sf ?_;intro _ _ E4 _;have⟨O,Ab,E⟩:=cj E4.2 O Ab E;with_reducible refine iu Z ?_
 refine I ?_;by_cases aoo:(((L 0).length:Nat):Int)=(m:Int);refine I ?_;rcases fy:Al n (K 0).length L K with _|aq7;refine I ?_;refine aa (aD (vf:=[]) (vc:=[pT w.heap.size,pT A2.heap.size]) Z Z ?_);refine clb VT (hc:=E2 (lb:=[pT w.heap.size,pT A2.heap.size]) (n:=n) VU (λW hE=>Fb ((hM.ext E).ext hE) ((hN.ext E).ext hE) (O.ext hE) (Ab.ext hE) hv hu U (ht.ext (xt E hE)))) (hk:=?_);rintro _ _ Aw As;have E:=xt E Aw.2;rw[fy]at As;subst As;refine I ?_;exact bu (t:=4) (u:=5) (v1:=.slice none 0 0) (v2:=.int .i64 130) Z E (Fa ⟨cw,cv,by omega⟩ (by rw[fy];exact Z)) Z Z;refine I ?_;refine aa (aD (vf:=[]) (vc:=[pT w.heap.size,pT A2.heap.size]) Z Z ?_);refine clb VT (hc:=E2 (lb:=[pT w.heap.size,pT A2.heap.size]) (n:=n) VU (λW hE=>Fb ((hM.ext E).ext hE) ((hN.ext E).ext hE) (O.ext hE) (Ab.ext hE) hv hu U (ht.ext (xt E hE)))) (hk:=?_);rintro _ _ Az Ao;have E:=xt E Az.2;rw[fy]at Ao;obtain⟨Ar,rfl,EW⟩:=Ao;refine I ?_;refine aa (aK (v:=Ar) Z ?_);refine I ?_;exact bu (t:=4) (u:=5) (v1:=Ar) (v2:=.int .i64 0) Z E (Fa ⟨cw,cv,by omega⟩ (by rw[fy];exact⟨_,rfl,dy.mono U EW⟩)) Z Z
 refine I ?_;exact bu (t:=4) (u:=5) (v1:=.slice none 0 0) (v2:=.int .i64 130) Z E (Dc kb8) rfl rfl;refine bL 15 ?_;refine sf ?_;refine aR (V:=.bool (vM n L)) (λ_ _ Af _=>?_) ?_;refine cl ry (val_ok (hM.ext (xt E Af)) hB (ht.ext (xt E Af))) ?_;rintro _ _ ny rfl;have E9:=ny.2;refine I ?_;exact fs ⟨E9,rfl⟩;refine sf ?_;refine aR (V:=.bool (vM m K)) (λ_ _ Am _=>?_) ?_;refine I ?_;refine cl ry (val_ok (hN.ext (xt E Am)) hB2 (ht.ext (xt E Am))) ?_;rintro _ _ od rfl;have E6:=od.2;refine I ?_;exact fs ⟨E6,rfl⟩;refine sf ?_;intro _ _ C1 _;have E:=xt E C1.2;(with_reducible refine iu Z ?_);refine I ?_;exact bu (t:=4) (u:=5) (v1:=.slice none 0 0) (v2:=.int .i64 130) Z E (Dc kb8) rfl rfl;refine bL 15 ?_;refine sf ?_;refine aR (V:=.bool (vM n L)) (λ_ _ Ap _=>?_) ?_;refine cl ry (val_ok (hM.ext (xt E Ap)) hB (ht.ext (xt E Ap))) ?_;rintro _ _ B1 rfl;have E0:=B1.2;refine I ?_;exact fs ⟨E0,rfl⟩;refine sf ?_;intro _ _ E1 _;have E:=xt E E1.2;(with_reducible refine iu Z ?_);refine I ?_;exact bu (t:=4) (u:=5) (v1:=.slice none 0 0) (v2:=.int .i64 130) Z E (Dc kb8) Z Z
set_option maxHeartbeats 2000000 in
def KQ {L:Rows}(hM:Mt w lo A n H L)(hv:VM n L)(hb1:ap w b1 27 #[.slice A n C])(ht:Tb w):
 CL 56 #[pT b1] w (it PN w (rk n L) (λk v _=>v=.int .i64 k)):=by
 have A2:=hv.ok;have Cr:=hv.1;have E5:=hv.2.1;have E4:=hv.2.2.2.1;refine ia func56 Z (I ?_);rcases cm:elim n ((L 0).length) ((L 0).length) L with _|cf;refine bL 7 ?_;refine sf ?_;refine aA (λ_ _ _ _=>by refine aa (gU (v:=.agg #[]) lV Z Z ?_);refine I ?_;exact aH) ?_;refine sf ?_;refine aA (λ_ _ C1 _=>by have Ar:=ab1 (hM.ext C1) (i:=0) U;refine I ?_;refine gN Ar ?_ (i:=0);refine I ?_;exact aH) ?_;refine aA (λ_ _ Ax _=>by have E0:=ab1 (hM.ext Ax) (i:=0) U;refine I ?_;exact aH) ?_;refine sf ?_;intro _ _ Av _;have O:=Av.2;refine aa (dr (vs:=[.slice A n C,.iface 106 (.agg #[]),.int .i64 (((L 0).length:Nat):Int)]) Gb Z (ad2 cm (m9 (ad6 (qa7 _) (hM.ext O)) A2 U U U U (ht.ext O))) (λ_ Aq=>?_));have O:=xt O Aq;refine I ?_;exact gg ⟨O,De cm,rfl⟩;refine bL 7 ?_;refine sf ?_;refine aA (λ_ _ _ _=>by refine aa (gU (v:=.agg #[]) lV Z Z ?_);refine I ?_;exact aH) ?_;refine sf ?_;refine aA (λ_ _ B2 _=>by have Az:=ab1 (hM.ext B2) (i:=0) U;refine I ?_;refine gN Az ?_ (i:=0);refine I ?_;exact aH) ?_;refine aA (λ_ _ Ap _=>by have CG:=ab1 (hM.ext Ap) (i:=0) U;refine I ?_;exact aH) ?_
 refine sf ?_;intro _ _ Ao _;have E:=Ao.2;refine clb Gb (hc:=ad0 cm (m9 (ad6 (qa7 _) (hM.ext E)) A2 U U U U (ht.ext E))) (hk:=?_);rintro _ _ As Am;have E:=xt E As.2;obtain⟨Aw,Ay,_,Ab,Af,wr,B1,rfl,_,_,_,_⟩:=vz.get Am;have E1:=mH A2 U cm;refine aa (OY (cs:=[.slice Aw n Ay,.slice Ab cf.piv.length Af,.slice wr cf.cols.length B1,.bool (decide (cf.sw%2=1))]) (v:=.slice Ab cf.piv.length Af) VF Z Z Z tc Z Z Z ?_);refine I ?_;exact lk (v:=.int .i64 ((cf.piv.length:Nat):Int)) (bY Z (aL (t:=1) GS _)) ⟨E,_,Dd cm,rfl⟩
def KR {L:Rows}(hM:Mt w lo A n H L)(hB:Bd n L)(ht:Tb w):
 CL 23 #[.slice A n C] w (aG w λv w'=>v=GT (kb n L)):=by
 refine aC func23 Z (I ?_);refine bx (λ_ Ab O=>?_);have E:=Ab.2;refine I ?_;refine cl ry (val_ok (hM.ext E) hB (ht.ext E)) ?_;rintro _ _ A2 rfl;have⟨O,E⟩:=bn A2.2 O E;refine I ?_;rcases qa4 (vM n L)with cr|cr;have hv:=gZ cr;refine I ?_;refine aa (aD (vf:=[]) (vc:=[pT w.heap.size]) Z Z ?_);refine cl YM (OK (lb:=[pT w.heap.size]) YN (λW hE=>KQ ((hM.ext E).ext hE) hv (O.ext hE) (ht.ext (xt E hE)))) ?_;rintro _ _ Af rfl;have E:=xt E Af.2;refine I ?_;exact bu (t:=2) (u:=3) (v1:=.int .i64 (((rk n L).getD 0:Nat):Int)) (v2:=.int .i64 (Rl (rk n L).isSome)) Z E (OU cr) Z Z;refine I ?_;exact bu (t:=2) (u:=3) (v1:=.int .i64 0) (v2:=.int .i64 130) Z E (ON cr) Z Z
set_option maxHeartbeats 2000000 in
def Fc {L:Rows}(hM:Mt w lo A n H L)(hv:VM n L)(hn0:n=(L 0).length)(ht:Tb w):
 CL 176 #[.slice A n C,.iface 106 (.agg #[])] w (it PN w (lE n L) (λd v _=>v=.agg #[S d.1,S d.2])):=by
 have B2:=hv.ok;have P0:=hv.1;have S0:=hv.2.1;rw[<-hn0]at B2;have E0:=aa4 w;refine ia func176 Z (I ?_);refine al aS (λC1 Ix E=>?_);have E0:=xt E0 Ix.2;refine I ?_;rcases lr:elim n n n L with _|cx;refine I ?_;refine aa (dr (vs:=[.slice A n C,.iface 106 (.agg #[]),.int .i64 n]) Gb Z (ad2 lr (m9 (ad6 (qa7 _) (hM.ext E0)) B2 U U U U (ht.ext E0))) (λ_ Kp=>?_));have E0:=xt E0 Kp;refine I ?_;exact gg ⟨E0,(G4 lr),rfl⟩;refine I ?_;refine clb Gb (hc:=ad0 lr (m9 (ad6 (qa7 _) (hM.ext E0)) B2 U U U U (ht.ext E0))) (hk:=?_);rintro _ B1 KC L3;have⟨E,E0⟩:=bn KC.2 E E0;obtain⟨E9,G0,Ne,E4,KY,Cr,N0,rfl,_,K2,Lj,GC⟩:=vz.get L3;have Af:=ab2 K2;have Ab:=ab6 Lj;have Am:=ab6 GC;have P2:=mH B2 U lr;refine al s9 (λ_ As La=>?_);have E:=be As.2 E;have Af:=aa1 As.2 Af;have Ab:=aa5 As.2 Ab;have Am:=aa5 As.2 Am;have E0:=xt E0 As.2;refine SA La (λ_ Ap O=>?_);have E:=pb Ap E;have Af:=ac1 Ap U Af;have Ab:=ab9 Ap U Ab
 have Am:=ab9 Ap U Am;have E0:=bi Ap E0;have Rm:=iM Ap;refine I ?_;by_cases ao3:((cx.piv.length:Nat):Int)<(n:Int);refine I ?_;refine aa (Cu (t:=106) (v:=.agg #[]) (vs:=[]) BE kM lV Z Z Z (lB _) ?_);rintro _ _ wr rfl;have⟨E,O,E0⟩:=cj wr.2 E O E0;refine SA E (λ_ E6 Li=>?_);have O:=pb E6 O;have E0:=bi E6 E0;refine I ?_;refine lk (v:=.agg #[S ((z0).1),S ((z0).2)]) (bY Z ?_) ⟨E0,_,G5 lr U,rfl⟩;refine ak (t:=4) (cs:=[S ((z0).1),S ((z0).2)]) (b:=w.heap.size) (o:=0) iK Z bX ?_ ?_;exact Z;exact aa0 Li (i:=0) Z;refine I ?_;refine aa (Cu (t:=106) (v:=.agg #[]) (vs:=[]) QF EL lV Z Z Z (J3 _) ?_);rintro _ L4 Aw rfl;have E:=be Aw.2 E;have Af:=aa1 Aw.2 Af;have Ab:=aa5 Aw.2 Ab;have Am:=aa5 Aw.2 Am;have⟨O,E0⟩:=bn Aw.2 O E0;refine al aS (λ_ Aq H2=>?_);have E:=be Aq.2 E;have Af:=aa1 Aq.2 Af;have Ab:=aa5 Aq.2 Ab;have Am:=aa5 Aq.2 Am;have⟨O,E0⟩:=bn Aq.2 O E0;refine SA H2 (λFR Av Ao=>?_);have E:=pb Av E;have Af:=ac1 Av U Af;have Ab:=ab9 Av U Ab;have Am:=ab9 Av U Am;have⟨O,E0,_⟩:=kt Av O E0;refine I ?_
 refine cg [(8,8),(27,35)] (λH4 e W=>∃i:Nat,∃d:R,(cx.piv.length-i=H4)/\(e 27=.int .i64 i)/\(i<=cx.piv.length)/\(bJ d=true)/\(il cx.piv (cx.piv.length-i) i d=il cx.piv cx.piv.length 0 o1)/\(FR.heap.size<=W.heap.size)/\(aO w W)/\(ap W w.heap.size 33 #[S [],S []])/\(lS W C1.heap.size B1.heap.size E9 n Ne cx.L)/\(m6 W C1.heap.size B1.heap.size E4 (ag cx.piv))/\(m6 W C1.heap.size B1.heap.size Cr (ints cx.cols))/\(ap W B1.heap.size 103 #[.slice E9 n G0,.slice E4 cx.piv.length KY,.slice Cr cx.cols.length N0,.bool (decide (cx.sw%2=1))])/\(ap W L4.heap.size 33 #[S d.1,S d.2])) (cx.piv.length-0) ⟨0,o1,rfl,rfl,(qa7 _),Yy,rfl,(qa0 _),E0,E,Af,Ab,Am,O,Ao⟩ ?_;rintro _ _ _ ⟨i,d,rfl,Q0,hi_i,hd,hP,No,A2,E,Af,Ab,Am,O,Ao⟩;have P1:=bz A2;by_cases hl_i:i<cx.piv.length;have H3:=bD (Ab).rw (k:=(i)) U;refine I ?_;refine mu H3 (I ?_);refine al aS (λ_ Ay K3=>?_);have E:=be Ay.2 E;have Af:=aa1 Ay.2 Af;have Ab:=aa5 Ay.2 Ab;have Am:=aa5 Ay.2 Am;have⟨O,Ao,A2⟩:=cj Ay.2 O Ao A2;refine SA K3 (λ_ Ax Az=>?_);have E:=pb Ax E;have Af:=ac1 Ax U Af;have Ab:=ab9 Ax U Ab;have Am:=ab9 Ax U Am;have⟨O,Ao,A2,_⟩:=Td Ax O Ao A2;refine I ?_;rcases aoq:qr d (ar cx.piv i)with _|aoy;refine I ?_;refine aa (gK (t:=106) (v:=.agg #[]) (vs:=[.agg #[S d.1,S d.2],.agg #[S ((ar cx.piv i).1),S ((ar cx.piv i).2)]]) we ka lV Z Z Z (ad2 aoq (qL d (ar cx.piv i) _ (ht.ext A2))) (λ_ Lk=>?_));have A2:=xt A2 Lk;refine I ?_;exact gg ⟨A2,(OV lr U (C9 hl_i hP aoq)),rfl⟩;refine I ?_;refine aa (Cu (t:=106) (v:=.agg #[]) (vs:=[.agg #[S d.1,S d.2],.agg #[S ((ar cx.piv i).1),S ((ar cx.piv i).2)]]) we ka lV Z Z Z (ad0 aoq (qL d (ar cx.piv i) _ (ht.ext A2))) ?_);rintro _ _ nm rfl;have E:=be nm.2 E;have Af:=aa1 nm.2 Af;have Ab:=aa5 nm.2 Ab;have Am:=aa5 nm.2 Am;have⟨O,Ao,Az,A2⟩:=fo nm.2 O Ao Az A2;refine SA Ao (λ_ Ar ES=>?_);have E:=pb Ar E;have Af:=ac1 Ar U Af;have Ab:=ab9 Ar U Ab;have Am:=ab9 Ar U Am;have⟨O,Az,A2,_⟩:=Td Ar O Az A2;refine I ?_;refine gP ?_
 refine I ?_;exact bI ⟨i+1,aoy,rfl,rfl,U,(EF aoq),(C8 hl_i hP aoq),U,A2,E,Af,Ab,Am,O,ES⟩;have hP2:=GV hl_i hP;refine I ?_;by_cases aos:cx.sw%2=1;refine I ?_;refine bL 7 ?_;refine sf ?_;refine aR (V:=.agg #[S ((z0).1),S ((z0).2)]) (λ_ _ _ _=>?_) ?_;refine aa (Cu (t:=106) (v:=.agg #[]) (vs:=[]) BE kM lV Z Z Z (lB _) ?_);rintro _ _ ny rfl;have KM:=ny.2;refine I ?_;exact fs ⟨KM,rfl⟩;refine sf ?_;refine aA (λ_ _ _ _=>by refine aa (aD (vf:=[.iface 106 (.agg #[])]) (vc:=[]) Z Z ?_);refine I ?_;exact aH) ?_;refine aA (λ_ _ _ _=>by refine aa (qq (t:=106) (v:=.agg #[]) pw lV Z Z ?_);refine I ?_;exact aH) ?_;refine sf ?_;intro _ _ od _;have⟨E,O,Ao,A2⟩:=fo od.2 E O Ao A2;refine aa (Cu (t:=106) (v:=.agg #[]) (vs:=[.agg #[S ((z0).1),S ((z0).2)],.agg #[S d.1,S d.2]]) Ii pw lV Z Z Z (ad0 (qO hd) (CU z0 d _ (ht.ext A2))) ?_);rintro _ _ L1 rfl;have⟨E,O,Ao,A2⟩:=fo L1.2 E O Ao A2;refine SA Ao (λ_ CG E1=>?_);have⟨E,O⟩:=jU CG E O;have A2:=bi CG A2;refine I ?_;refine SA E (λ_ E7 L2=>?_);have⟨O,E1⟩:=jU E7 O E1;have A2:=bi E7 A2;refine I ?_;refine lk (v:=.agg #[S ((rT d).1),S ((rT d).2)]) (bY Z ?_) ⟨A2,_,OX lr U hP2 aos,rfl⟩
 refine ak (t:=4) (cs:=[S ((rT d).1),S ((rT d).2)]) (b:=w.heap.size) (o:=0) iK Z bX ?_ ?_;exact Z;exact aa0 L2 (i:=0) Z;refine I ?_;refine SA E (λ_ E5 EW=>?_);have⟨O,Ao⟩:=jU E5 O Ao;have A2:=bi E5 A2;refine I ?_;refine lk (v:=.agg #[S d.1,S d.2]) (bY Z ?_) ⟨A2,_,OW lr U hP2 aos,rfl⟩;refine ak (t:=4) (cs:=[S d.1,S d.2]) (b:=w.heap.size) (o:=0) iK Z bX ?_ ?_;exact Z;exact aa0 EW (i:=0) Z
set_option maxHeartbeats 2000000 in
def OZ {L:Rows}(hM:Mt w lo A n H L)(hv:VM n L)(hn0:n=(L 0).length)(hb1:ap w b1 27 #[.slice A n C])(ht:Tb w):
 CL 175 #[pT b1] w (it PN w (lE n L) (λd v _=>v=.agg #[S d.1,S d.2])):=by
 have Ap:=bt hb1;refine ia func175 Z (I ?_);refine al aS (λ_ Ab O=>?_);have hb1:=be Ab.2 hb1;have E:=Ab.2;refine I ?_;rcases cv:lE n L with _|cm;refine I ?_;refine aa (gU (v:=.agg #[]) lV Z Z ?_);refine aa (dr (vs:=[.slice A n C,.iface 106 (.agg #[])]) VK Z (ad2 cv (Fc (hM.ext E) hv hn0 (ht.ext E))) (λ_ Ao=>?_));have E:=xt E Ao;refine I ?_;exact gg ⟨E,(by first|exact cv|rfl),rfl⟩;refine I ?_;refine aa (gU (v:=.agg #[]) lV Z Z ?_);refine cl VK (ad0 cv (Fc (hM.ext E) hv hn0 (ht.ext E))) ?_;rintro _ _ Af rfl;have⟨hb1,O,E⟩:=cj Af.2 hb1 O E;refine SA O (λ_ A2 Am=>?_);have hb1:=pb A2 hb1;have E:=bi A2 E;refine I ?_;refine lk (v:=.agg #[S ((cm).1),S ((cm).2)]) (bY Z ?_) ⟨E,cm,(by first|exact cv|rfl),rfl⟩;refine ak (t:=1) (cs:=[S ((cm).1),S ((cm).2)]) (b:=w.heap.size) (o:=0) iK Z bX ?_ ?_;exact Z;exact aa0 Am (i:=0) Z
def Fe {L:Rows}(hM:Mt w lo A n H L)(hB:Bd n L)(ht:Tb w):
 CL 133 #[.slice A n C] w (aG w λv w'=>v=Kr (kO n L)):=by
 refine aC func133 Z (I ?_);refine bx (λAf Ax O=>?_);have E:=Ax.2;refine al aS (λ_ Av A2=>?_);have⟨O,E⟩:=bn Av.2 O E;refine I ?_;refine cl R8 (Kz (hM.ext E) hB (ht.ext E)) ?_;rintro _ _ As rfl;have⟨O,A2,E⟩:=cj As.2 O A2 E;refine I ?_;rcases qa4 (Ky n L)with cw|cw;have Ab:vx n L=true:=cw;have hv:=(nG Ab).1;have Ar:=(nG Ab).2;refine I ?_;refine aa (aD (vf:=[]) (vc:=[pT w.heap.size]) Z Z ?_);refine cl YO (OL (lb:=[pT w.heap.size]) YP (λW hE=>OZ ((hM.ext E).ext hE) hv Ar (O.ext hE) (ht.ext (xt E hE)))) ?_;rintro _ _ Aw rfl;have⟨O,A2,E⟩:=cj Aw.2 O A2 E;refine I ?_;refine SA A2 (λ_ Ao Aq=>?_);have O:=pb Ao O;have E:=bi Ao E;refine I ?_;refine aX (v:=.tuple #[.agg #[S (rN (lE n L)),S (rD (lE n L))],.int .i64 (Rl (lE n L).isSome)]) (cO (r1:=.cell 2 33) (r2:=.tmp 3) Z ?_ ?_) E (Ur Ab);refine ak (t:=2) (cs:=[S (rN (lE n L)),S (rD (lE n L))]) (b:=Af.heap.size) (o:=0) iK Z bX ?_ ?_;exact Z;exact aa0 Aq (i:=0) Z;exact aL (t:=3) GS _;refine I ?_;refine SA A2 (λ_ Am Ap=>?_);have O:=pb Am O
 have E:=bi Am E;refine I ?_;refine aX (v:=.tuple #[.agg #[S [],S []],.int .i64 130]) (cO (r1:=.cell 2 33) (r2:=.tmp 3) Z ?_ ?_) E (Uq kb2);refine ak (t:=2) (cs:=[S [],S []]) (b:=Af.heap.size) (o:=0) iK Z bX ?_ ?_;exact Z;exact aa0 Ap (i:=0) Z;exact aL (t:=3) GS _
def rm {α:Type}(a b:α)(i:Nat):α:=if i=0 then a else b
def Zi {l0 l1:List R}(h:W.ownsRow lo 28 1 (.slice A 2 2) 2 [.slice A0 n0 c0,.slice A1 n1 c1])(r0:Rw W l0' A0 (ag l0))(r1:Rw W l1' A1 (ag l1))(e0:l0.length=n0)(e1:l1.length=n1)(h0:n0<=c0)(h1:n1<=c1):
 Mt W 0 A 2 (rm (.slice A0 n0 c0) (.slice A1 n1 c1)) (rm l0 l1):=by
 subst e0 e1
 refine⟨(aa8 h).mono (qa7 _),λi hi=>?_,λi hi=>?_,λi hi=>?_⟩
 · unfold rm;by_cases e:i=0
   · rw[if_pos e,if_pos e];rfl
   · rw[if_neg e,if_neg e];rfl
 · unfold rm;by_cases e:i=0
   · rw[if_pos e,if_pos e];exact r0.mono (qa7 _)
   · rw[if_neg e,if_neg e];exact r1.mono (qa7 _)
 · unfold rm;by_cases e:i=0
   · rw[if_pos e,if_pos e];exact h0
   · rw[if_neg e,if_neg e];exact h1
def Zj (l0 l1:List R):kR (rm l0 l1) 2=l0++l1:=by simp[kR,rm]
def Wr.setRow {hi:Nat}{L:Rows}{r:Value}{l:List R}(h:Wr W lo hi n H L)(hr:W.ownsRow lo 33 2 r l.length (ag l))(hne:∀j,j<n->az r (H j)):Wr W lo W.heap.size n (bT H i r) (bT L i l):=by
 refine⟨λj E=>?_,λj E g e=>?_,λj k E hk O=>?_⟩
 · by_cases e:j=i
   · subst e;rw[bg,bg];exact hr
   · rw[bh _ _ e,bh _ _ e];exact h.own j E
 · by_cases e':j=i
   · subst e';rw[bg]at e;exact dI hr g e
   · rw[bh _ _ e']at e;exact dI (h.own j E) g e
 · by_cases e:j=i
   · subst e;rw[bg,bh _ _ (Ne.symm O)];exact hne k hk
   · by_cases e2:k=i
     · subst e2;rw[bg,bh _ _ e];exact aa6 (hne j E)
     · rw[bh _ _ e,bh _ _ e2];exact h.ne j k E hk O
def KS {r:Value}(h:∀j,j<n->(H j).ownBlock≠some b)(hr:W.ownsRow lo 33 2 r k cs)(hb:b<lo):∀j,j<n->(bT H i r j).ownBlock≠some b:=λj E e=>by
 by_cases e':j=i
 · subst e';rw[bg]at e;have:=aU hr b e;omega
 · rw[bh _ _ e']at e;exact h j E e
def Xs (hj:j<n):ar (uR i n) j=if i=j then o1 else z0:=by
 rw[eh (by rw[mG];exact hj)];simp[uR]
def Xt (hj:j<n):ar (zs n) j=z0:=by
 rw[eh (by rw[lD];exact hj)];simp[zs]
def Us (hi:i<n):(zs n).set i o1=uR i n:=by
 refine m5 (by rw[List.length_set,lD,mG]) λj E=>?_
 rw[List.length_set,lD]at E
 rw[sF (by rw[lD];exact hi),Xs E,Xt E]
 by_cases e:j=i
 · rw[if_pos e,if_pos e.symm]
 · rw[if_neg e,if_neg (Ne.symm e)]
def O0 (hn:n<=1000):
 CL 172 #[.slice none 0 0,.int .i64 n] w (aG w λv w'=>World.ownsRow w' w.heap.size 33 2 v 0 (ag [])):=by
 refine aC func172 Z (I ?_);refine aa (Ro (A:=none) (m:=0) (c:=0) tc Z ?_);refine I ?_;refine oE ?_;refine aa (jk (a:=(n:Int)) (b:=((0:Nat):Int)-((0:Nat):Int)) (c:=(n:Int)) Z Z JT U ?_);refine I ?_;by_cases cm:0<(n:Int);refine I ?_;refine aa (Ro (A:=none) (m:=0) (c:=0) tc Z ?_);refine aa (oL (A:=none) (m:=0) (c:=0) (j:=0) tc bX Z Z (qa7 _) ?_);refine I ?_;refine aa (OD (k:=n) Z Z Z U U (λ_ E Ab A2=>?_));have O:=Ab;refine I ?_;refine aa (oL (A:=some ⟨w.heap.size,0,none⟩) (m:=n) (c:=E) (j:=0) tc bX Z Z (qa7 _) ?_);refine I ?_;exact am (t:=4) (v:=.slice (some ⟨w.heap.size,0,none⟩) 0 E) Z O (ck U A2) Z;refine I ?_;exact am (t:=4) (v:=.slice none 0 0) Z (aa4 _) bK Z
def Ut {L:Rows}(hM:Mt w lo A n H L)(hn:n<=16)(hb:∀i,i<n->(L i).length<=16):
 CL 126 #[.slice A n C] w (aG w λv w'=>World.ownsRow w' w.heap.size 33 2 v (kR L n).length (ag (kR L n))):=by
 refine aC func126 Z (I ?_);have Ax:=aa4 w;refine cg [(3,3),(5,5),(11,22)] (λAf e W=>∃i:Nat,(n-i=Af)/\(e 11=.int .i64 i)/\(e 3=.int .i64 (((kR L i).length:Nat):Int))/\(i<=n)/\((kR L i).length<=16*i)/\(aO w W)) (n-0) ⟨0,rfl,rfl,rfl,(qa7 _),(qa7 _),Ax⟩ ?_;rintro _ _ Ay ⟨i,rfl,E0,E1,ES,E7,A2⟩;have Cr:=bz A2;by_cases hli:i<n;have Aw:=hb i hli;have Ao:(kR L (i+1)).length=(kR L i).length+(L i).length:=List.length_append;have B2:=ab1 (hM.ext A2) (i:=(i)) U;refine I ?_;refine gN B2 (I ?_);refine aa (ci (a:=(((kR L i).length:Nat):Int)) (b:=(((L i).length:Nat):Int)) (c:=(((kR L (i+1)).length:Nat):Int)) Z Z JT (by rw[show(kR L (i+1)).length=(kR L i).length+(L i).length from List.length_append];omega) ?_);refine I ?_;refine gP (I ?_);exact bI ⟨i+1,rfl,rfl,rfl,U,U,A2⟩;have Av:(kR L i).length<=1000:=J
 refine I ?_;refine cl V6 (O0 Av) ?_;rintro Am C1 As CG;have A2:=xt A2 As.2;refine aa (aK (v:=Am) Z ?_);refine I ?_;refine cg [(6,6),(8,8),(27,34)] (λAf e W=>∃j:Nat,∃E:Value,(n-j=Af)/\(e 27=.int .i64 j)/\(e 6=E)/\(j<=n)/\((kR L j).length<=16*j)/\(C1.heap.size<=W.heap.size)/\(aO w W)/\(W.ownsRow Ay.heap.size 33 2 E ((kR L j).length) (ag (kR L j)))) (n-0) ⟨0,Am,rfl,rfl,rfl,(qa7 _),(qa7 _),(qa0 _),A2,CG⟩ ?_;rintro _ _ _ ⟨j,E,rfl,EW,Aq,E4,E5,od,O,Ab⟩;have E6:=bz O;by_cases hlj:j<n;have Aw:=hb j hlj;have Ao:(kR L (j+1)).length=(kR L j).length+(L j).length:=List.length_append;have B1:=ab1 (hM.ext O) (i:=(j)) U;refine I ?_;refine gN B1 (I ?_);refine aa (aW (v:=E) Aq ?_);refine I ?_;refine aa (jz (v:=E) (k:=(kR L j).length) (m:=(L j).length) (news:=ag (L j)) tc aS Z dc Z Ab Z (Mt.row (hM.ext O) j U) (fJ _) oc RC U U (λAr _ Az Ap _=>?_));have O:=bm Ab U U O Ap;have E9:=Ap.size;refine aa (aK (v:=Ar) Z ?_);refine I ?_;refine gP (I ?_);exact bI ⟨j+1,Ar,rfl,rfl,rfl,U,U,U,O,(aM Az Ao.symm (uz _ _))⟩;refine I ?_;refine aa (aW (v:=E) Aq ?_);refine aa (aK (v:=E) Z ?_);refine I ?_
 exact am (t:=2) (v:=E) Z O (by have h:=Ab;rw[show j=n by omega]at h;exact ck U h) Z
def O1 {l0 l1:List R}(h:w.ownsRow lo 28 1 (.slice A 2 2) 2 [.slice A0 n0 c0,.slice A1 n1 c1])(r0:Rw w l0' A0 (ag l0))(r1:Rw w l1' A1 (ag l1))(e0:l0.length=n0)(e1:l1.length=n1)(h0:n0<=c0)(h1:n1<=c1)(b0:n0<=16)(b1:n1<=16):
 CL 126 #[.slice A 2 2] w (aG w λv w'=>World.ownsRow w' w.heap.size 33 2 v (l0++l1).length (ag (l0++l1))):=by
 have hM:=Zi h r0 r1 e0 e1 h0 h1
 have:=Ut (C:=2) hM dc (λi _=>by unfold rm;split <;>omega)
 rwa [Zj]at this
def KT {L:Rows}(hM:Mt w lo A n H L){m:Nat}{K:Rows}(hN:Mt w lo2 B m G K)(hn:0<n)(hn16:n<=16)(hm:n<=m)(hb:∀i,i<n->(L i).length<=16)(hc:∀i,i<n->(K i).length<=16):
 CL 68 #[.slice A n C,.slice B m D] w (aG w λv w'=>dy w.heap.size w' v n (λi=>L i++K i)):=by
 have E0:=aa4 w;refine aC func68 Z (I ?_);refine aa (md (m:=(n)) M6 jB Z Z U RC (λL1 GC _ E5=>?_));have E0:=xt E0 GC;obtain⟨cm,w6⟩:∃x,x=some (⟨w.heap.size,0,none⟩:Addr):=⟨_,rfl⟩;rw[<-w6]at E5;obtain⟨Ne,Aw,L2,L3⟩:=m8 E5 U;refine aa (aK (v:=.slice cm (n) (n)) (qb2 (λa=>Value.slice a n n) w6.symm) ?_);refine I ?_;refine cg [(6,6),(12,28)] (λIx e W=>∃i:Nat,∃H2:Nat->Value,∃K2:Rows,(n-i=Ix)/\(e 12=.int .i64 i)/\(i<=n)/\(∀x,x<i->K2 x=L x++K x)/\(∀j,j<n->(H2 j).ownBlock≠some (cV cm))/\(L1.heap.size<=W.heap.size)/\(aO w W)/\(Ho W cm n H2)/\(Wr W w.heap.size W.heap.size n H2 K2)) (n-0) ⟨0,(λ_=>.slice none 0 0),rO,rfl,rfl,(qa7 _),(λx hx=>by omega),L3,(qa0 _),E0,Ne,(Wr.top L2)⟩ ?_;rintro _ _ Af ⟨i,H2,K2,rfl,a3,W1,hK2,hnoH2,a9,E,hH2,wH2⟩;have Vm:=bz E;by_cases hli:i<n;have a5:=hb i hli;have X0:=hc i hli;refine I ?_;have Ax:=ac3 Af
 refine xI 12 (λls e W=>∃O:Nat,∃A2:Value,(aO w W)/\(Af.heap.size<=W.heap.size)/\(ls 10=true->e 25=.slice (some ⟨O,0,none⟩) 2 2)/\(ls 11=true->e 26=A2)/\(ls 10=true->Af.heap.size<=O/\O<W.heap.size)/\(Ho W cm n H2)/\(Wr W w.heap.size Af.heap.size n H2 K2)/\(ls 10=true->ls 11=false->(World.ownsRow W O 28 1 (.slice (some ⟨O,0,none⟩) 2 2) 2 [.slice (sA (H i)) ((L i).length) (sC (H i)),.slice (sA (G i)) ((K i).length) (sC (G i))]))/\(ls 11=true->(W.ownsRow Af.heap.size 33 2 A2 (((L i)++(K i)).length) (ag ((L i)++(K i)))))) ⟨0,.nilIface,(xt E Ax),(bz Ax),(ff Z),(ff Z),(ff Z),(ac0 Ax hH2),(aa2 Ax wH2),(λh _=>ff Z h),(λh=>ff Z h)⟩ ?_;refine sf ?_;refine db (λX2 Rm T2 _ H4 Wa _=>by obtain⟨_,_,E,_⟩:=H4;have EW:=ab1 (hM.ext E) (i:=(i)) U;refine I ?_;refine gN EW ?_;refine I ?_;exact aH) ?_;refine db (λS9 a0 S0 _ P0 Q0 _=>by obtain⟨_,_,E,_⟩:=P0;have ad:=ab1 (hM.ext E) (i:=(i)) U;refine I ?_;exact aH) ?_;refine sf ?_;refine db (λa2 VW W2 _ KY W3 _=>by obtain⟨_,_,E,_⟩:=KY;have KC:=ab1 (hN.ext E) (i:=(i)) U;refine I ?_;refine gN KC ?_;refine I ?_;exact aH) ?_;refine db (λT3 ac a6 _ Lk WV _=>by obtain⟨_,_,E,_⟩:=Lk;have a4:=ab1 (hN.ext E) (i:=(i)) U;refine I ?_;exact aH) ?_
 refine gw (λ_ N0 _ L4 Li La _=>?_) ?_;obtain⟨O,A2,E,E4,As,nm,Ar,Ao,Am,B2,Cr⟩:=L4;have ny:=Ao;have od:=Am;refine Q6 (λ_ B1 _ P1=>?_);have ny:=ac0 B1 ny;have od:=aa2 B1 od;have E:=xt E B1;refine I ?_;exact fs ⟨N0.heap.size,A2,E,U,(λ_=>rfl),nm,(λ_=>⟨by omega,by omega⟩),ny,od,(λ_ _=>P1),(λE9=>ff (bS Li (i:=10) (j:=11) Z La) E9)⟩;refine gw (λ_ _ _ E6 _ Kp C1=>?_) ?_;obtain⟨O,A2,E,E4,As,nm,Ar,Ao,Am,B2,Cr⟩:=E6;have ES:=As (C1 10 Z);have KM:=Ar (C1 10 Z);have Ay:=Ao;have Az:=Am;have FR:=B2 (C1 10 Z) Kp;refine clb Y0 (hc:=O1 FR (Mt.row (hM.ext E) i U) (Mt.row (hN.ext E) i U) Z Z ((hM.ext E).cap i U) ((hN.ext E).cap i U) U U) (hk:=?_) (hv:=av ES Z);rintro G0 _ Ap CG;have Ap:=Ap.2;have CG:=ck (lo':=Af.heap.size) U CG;have Ay:=ac0 Ap Ay;have Az:=aa2 Ap Az;have E:=xt E Ap;refine I ?_;exact fs ⟨O,G0,E,U,As,(λ_=>rfl),(λx=>by have:=Ar x;omega),Ay,Az,(λ_ No=>tf Z No),(λ_=>CG)⟩;refine sf ?_;rintro E7 _ _ wr ⟨O,A2,E,E4,As,nm,Ar,Ao,Am,B2,Cr⟩;have KM:=Ar (wr 10 Z);have E1:=Ao;have Aq:=Am;have Ab:=Cr (wr 11 Z);have H3:=gH E1 Aq (i:=(i)) U;refine I ?_;refine gN H3 ?_;have K3:E7 26=A2:=(nm (wr 11 Z))
 refine aa (kL (i:=(i)) E1 U lU Z K3 (bQ Ab) (λ_ Av Lj=>?_));have Aq:=Wr.putOut Av hnoH2 Aq;have Ab:=ax Av (λe=>by have:=aU Ab _ e;have:=Aw;omega) Ab;have E:=ad1 Av E (by have:=Aw;omega);have a8:=iM Av;refine I ?_;refine gP (I ?_);have P2:=ck (lo':=w.heap.size) U Ab;refine I ?_;exact bI ⟨i+1,(bT H2 i A2),bT K2 i (L i++K i),rfl,rfl,U,(λx hx=>by by_cases e:x=i;rw[e,bg];rw[bh _ _ e];exact hK2 x U),(KS hnoH2 Ab (by have:=Aw;omega)),U,E,Lj,(Wr.setRow Aq P2 (Wr.far Aq Ab U))⟩;refine I ?_;exact am (t:=4) (v:=.slice cm (n) (n)) Z E ⟨_,_,_,rfl,qa0 _,ad6 U ((Wr.mt wH2 (Ho.rw hH2 Aw.1)).congr (λj _=>hK2 j U))⟩ Z
def O2 {L:Rows}(h:vx n L=true)(h2:lR n L (L 0).length (λj=>kX L n j)):MZ n L:=λi hi k hk=>by
 obtain⟨hv,E⟩:=nG h
 have:=h2.2 i hi
 rw[this,uy L i U]
def O3 {L:Rows}(h:vx n L=true)(h2:MZ n L):lR n L (L 0).length (λj=>kX L n j):=by
 obtain⟨hv,E⟩:=nG h
 refine⟨E,λi hi=>m5 (by rw[py,(hv.ok i hi).1,<-E]) λj O=>?_⟩
 rw[(hv.ok i hi).1,<-E]at O
 show ar (L i) j=ar (kX L n i) j
 rw[uy L i O]
 rcases Nat.lt_trichotomy i j with h|h|h
 · exact(h2 j O i h).symm
 · subst h;rfl
 · exact h2 i hi j h
set_option maxRecDepth 100000 in
def Ff (hn:1<=n)(hn16:n<=16):
 CL 69 #[.iface 106 (.agg #[]),.int .i64 n] w (aG w λv w'=>dy w.heap.size w' v n (λi=>uR i n)):=by
 have E0:=aa4 w;refine aC func69 Z (I ?_);refine aa (md (m:=(n)) M6 jB Z Z U RC (λES nm _ Ax=>?_));have E0:=xt E0 nm;obtain⟨cr,nq⟩:∃x,x=some (⟨w.heap.size,0,none⟩:Addr):=⟨_,rfl⟩;rw[<-nq]at Ax;obtain⟨wr,Ao,CG,E5⟩:=m8 Ax U;refine aa (aK (v:=.slice cr (n) (n)) (qb2 (λa=>Value.slice a n n) nq.symm) ?_);refine I ?_;refine cg [(6,6),(11,30)] (λE7 e W=>∃i:Nat,∃H2:Nat->Value,∃K2:Rows,(n-i=E7)/\(e 11=.int .i64 i)/\(i<=n)/\(∀x,x<i->K2 x=uR x n)/\(∀j,j<n->(H2 j).ownBlock≠some (cV cr))/\(ES.heap.size<=W.heap.size)/\(aO w W)/\(Ho W cr n H2)/\(Wr W w.heap.size W.heap.size n H2 K2)) (n-0) ⟨0,(λ_=>.slice none 0 0),rO,rfl,rfl,(qa7 _),(λx hx=>by omega),E5,(qa0 _),E0,wr,(Wr.top CG)⟩ ?_;rintro _ _ _ ⟨i,H2,K2,rfl,KC,Ix,hK2,hnoH2,FR,E,hH2,wH2⟩;have G0:=bz E;by_cases hli:i<n;refine I ?_;refine aa (Cu (t:=106) (v:=.agg #[]) (vs:=[]) BE kM lV Z Z Z (lB _) ?_);rintro _ _ Ar rfl;have hH2:=ac0 Ar.2 hH2;have wH2:=aa2 Ar.2 wH2;have E:=xt E Ar.2;refine BS (λB2 Ap _ EW=>?_);have hH2:=ac0 Ap hH2;have wH2:=aa2 Ap wH2;have E:=xt E Ap;refine I ?_;refine clb YX (hc:=Uo (n:=(n)) (show Rw _ _ _ (ag [z0])from aa8 EW) U U) (hk:=?_);rintro C1 _ Af Ab
 have Af:=Af.2;have Ab:=aM (ck (lo':=B2.heap.size) U Ab) (lD n).symm Z;have hH2:=ac0 Af hH2;have wH2:=aa2 Af wH2;have E:=xt E Af;have E1:=gH hH2 wH2 (i:=(i)) U;refine I ?_;refine gN E1 ?_;refine aa (kL (i:=(i)) hH2 U lU Z Z (bQ Ab) (λ_ Am O=>?_));have wH2:=Wr.putOut Am hnoH2 wH2;have Ab:=ax Am (λe=>by have:=aU Ab _ e;have:=Ao;omega) Ab;have E:=ad1 Am E kb9;have H4:=iM Am;refine I ?_;have E4:=ck (lo':=w.heap.size) U Ab;have A2:=Wr.setRow (i:=i) wH2 E4 (Wr.far wH2 Ab U);have Av:=KS (i:=i) hnoH2 Ab kb9;have K3:(bT K2 i (zs n) i).length=n:=by rw[bg,lD]
 refine I ?_;refine bL 7 ?_;refine sf ?_;refine aA (λ_ _ od _=>by have O:=ac0 od O;have A2:=aa2 od A2;have Cr:=gH O A2 (i:=(i)) U;refine I ?_;refine gN Cr ?_;refine I ?_;exact aH) ?_;refine aA (λ_ _ Aw _=>by have O:=ac0 Aw O;have A2:=aa2 Aw A2;have GC:=gH O A2 (i:=(i)) U;refine I ?_;exact aH) ?_;refine sf ?_;refine aR (V:=.agg #[S ((o1).1),S ((o1).2)]) (λ_ _ _ _=>?_) ?_;refine aa (Cu (t:=106) (v:=.agg #[]) (vs:=[]) QF EL lV Z Z Z (J3 _) ?_);rintro _ _ Az rfl;have Ay:=Az.2;refine I ?_;exact fs ⟨Ay,rfl⟩;refine sf ?_;intro _ _ As _;have O:=ac0 As.2 O;have A2:=aa2 As.2 A2;have E:=xt E As.2;have E9:=Wr.elem A2 (i:=(i)) (k:=(i)) U U;refine I ?_;refine mu E9 ?_;refine aa (uw (q:=o1) (i:=(i)) (k:=(i)) A2 U U bX Z Z (λ_ Aq _ _ B1 E6=>?_));have O:=Ho.put Aq (λe=>Av i U (by rw[B1,e])) O;have E:=bi Aq E;have H3:=iM Aq;refine I ?_;refine gP (I ?_);exact bI ⟨i+1,(bT H2 i C1),(bT (bT K2 i (zs n)) i (((bT K2 i (zs n)) i).set i o1)),rfl,rfl,U,(λx hx=>by by_cases e:x=i;rw[e,bg,bg];exact Us hli;rw[bh _ _ e,bh _ _ e];exact hK2 x U),Av,U,E,O,(Wr.top E6)⟩;refine I ?_
 exact am (t:=4) (v:=.slice cr (n) (n)) Z E ⟨_,_,_,rfl,qa0 _,ad6 U ((Wr.mt wH2 (Ho.rw hH2 Ao.1)).congr (λj _=>hK2 j U))⟩ Z
set_option maxHeartbeats 2000000 in
set_option maxRecDepth 100000 in
def Fg {L:Rows}(hM:Mt w lo A n H L)(hv:VM n L)(hb1:ap w b1 27 #[.slice A n C])(hb2:ap w b2 3 #[.int .i64 n])(hn0:n=(L 0).length)(ht:Tb w):
 CL 67 #[pT b1,pT b2] w (it PN w (elim n (n+n) n (jP n L)) (λs v w'=>Yz w.heap.size n w' s v)):=by
 have N0:=bt hb1;have Li:=bt hb2;have Aq:=hv.ok;have Lj:=hv.1;have Ne:=hv.2.1;refine ia func67 Z (I ?_);refine al s9 (λA2 ny O=>?_);have⟨hb1,hb2⟩:=dZ ny.2 hb1 hb2;have E:=ny.2;refine I ?_;rcases cx:elim n (n+n) n (jP n L)with _|cr;refine bL 9 ?_;refine sf ?_;refine aA (λ_ _ _ _=>by refine aa (gU (v:=.agg #[]) lV Z Z ?_);refine I ?_;exact aH) ?_;refine sf ?_;refine bR (λv w=>dy A2.heap.size w v n (λi=>uR i n)) (hs:=λ_ _ _ k h=>dy.ext k h) (λ_ _ K3 _=>?_) ?_;refine clb VS (hc:=Ff U U) (hk:=?_);rintro _ _ C1 E0;have Az:=C1.2;refine I ?_;exact fs ⟨Az,(dy.mono (by have:=bz K3;omega) E0)⟩;refine bR (λv w=>dy A2.heap.size w v n (jP n L)) (hs:=λ_ _ _ k h=>dy.ext k h) (λ_ _ Av L3=>?_) ?_;obtain⟨_,_,_,E9,_,KM⟩:=(L3 4 7 Z Z);refine clb VR (hc:=KT (hM.ext (xt E Av)) KM U U (qa0 _) (λi hi=>by have:=(Aq i hi).1;omega) (λi hi=>by rw[mG];omega)) (hk:=?_) (hv:=av Z (av E9 Z));rintro _ _ L2 CG;have KY:=L2.2;refine I ?_;exact fs ⟨KY,(dy.mono (by have:=bz Av;omega) CG)⟩;refine sf ?_;refine aA (λ_ _ _ _=>by refine aa (gU (v:=.agg #[]) lV Z Z ?_);refine I ?_;exact aH) ?_
 refine sf ?_;intro _ _ FR EW;have E:=xt E FR.2;obtain⟨L4,Kp,_,KC,_,ES⟩:=(EW 5 8 Z Z);have G0:=ab2 ES;refine aa (dr (vs:=[.slice L4 n Kp,.iface 106 (.agg #[]),.int .i64 n]) Gb (av KC (av Z (av Z Z))) (ad2 cx (m9 (ad6 (qa7 _) (G0).mt) (show qt n (n+n) (jP n L)by have h:=m7 hv;rwa [<-hn0]at h) U U U U (ht.ext E))) (λ_ E4=>?_));have E:=xt E E4;refine I ?_;exact gg ⟨E,(by first|exact cx|rfl),rfl⟩;refine bL 9 ?_;refine sf ?_;refine aA (λ_ _ _ _=>by refine aa (gU (v:=.agg #[]) lV Z Z ?_);refine I ?_;exact aH) ?_;refine sf ?_;refine bR (λv w=>dy A2.heap.size w v n (λi=>uR i n)) (hs:=λ_ _ _ k h=>dy.ext k h) (λ_ _ nm _=>?_) ?_;refine clb VS (hc:=Ff U U) (hk:=?_);rintro _ _ H4 GC;have H3:=H4.2;refine I ?_;exact fs ⟨H3,(dy.mono (by have:=bz nm;omega) GC)⟩;refine bR (λv w=>dy A2.heap.size w v n (jP n L)) (hs:=λ_ _ _ k h=>dy.ext k h) (λ_ _ Ax H2=>?_) ?_;obtain⟨_,_,_,B1,_,La⟩:=(H2 4 7 Z Z);refine clb VR (hc:=KT (hM.ext (xt E Ax)) La U U (qa0 _) (λi hi=>by have:=(Aq i hi).1;omega) (λi hi=>by rw[mG];omega)) (hk:=?_) (hv:=av Z (av B1 Z));rintro _ _ Ay E5;have B2:=Ay.2;refine I ?_
 exact fs ⟨B2,(dy.mono (by have:=bz Ax;omega) E5)⟩;refine sf ?_;refine aA (λ_ _ _ _=>by refine aa (gU (v:=.agg #[]) lV Z Z ?_);refine I ?_;exact aH) ?_;refine sf ?_;intro _ _ Cr E1;have⟨hb1,hb2,O,E⟩:=fo Cr.2 hb1 hb2 O E;obtain⟨_,_,_,K2,_,Ix⟩:=(E1 5 8 Z Z);have E6:=ab2 Ix;refine clb Gb (hc:=ad0 cx (m9 (ad6 (qa7 _) (E6).mt) (show qt n (n+n) (jP n L)by have h:=m7 hv;rwa [<-hn0]at h) U U U U (ht.ext E))) (hk:=?_) (hv:=av K2 (av Z (av Z Z)));rintro _ _ E7 Ab;have⟨hb1,hb2,O,E⟩:=fo E7.2 hb1 hb2 O E;obtain⟨Ar,As,_,Aw,Ao,Ap,Am,rfl,_,_,_,_⟩:=vz.get Ab;have Lk:=mH (show qt n (n+n) (jP n L)by have h:=m7 hv;rwa [<-hn0]at h) U cx;refine SA O (λ_ Af L1=>?_);have⟨hb1,hb2⟩:=jU Af hb1 hb2;have Ab:=vz.put Af U Ab;have E:=bi Af E;refine I ?_;refine lk (v:=.agg #[.slice Ar n As,.slice Aw cr.piv.length Ao,.slice Ap cr.cols.length Am,.bool (decide (cr.sw%2=1))]) (bY Z ?_) ⟨E,cr,(by first|exact cx|rfl),vz.mono U Ab⟩;refine ak (t:=2) (cs:=[.slice Ar n As,.slice Aw cr.piv.length Ao,.slice Ap cr.cols.length Am,.bool (decide (cr.sw%2=1))]) (b:=w.heap.size) (o:=0) VF Z Ga ?_ ?_;exact Z;exact aa0 L1 (i:=0) Z
def bA (b:List R):Rows:=λi=>[ar b i]
def O4 (s:El)(n:Nat):Rows:=λi=>(s.L i).drop n
def sJ {L:Rows}(hM:Mt w lo A n H L)(hB:Bd n L)(ht:Tb w):
 CL 27 #[.slice A n C] w (aG w λv w'=>nj w.heap.size w' n (ep n L) v):=by
 refine aC func27 Z (I ?_);refine bx (λ_ L3 E=>?_);have O:=L3.2;refine I ?_;refine cl R8 (Kz (hM.ext O) hB (ht.ext O)) ?_;rintro _ B2 a0 rfl;have⟨E,O⟩:=bn a0.2 E O;refine I ?_;rcases qa4 (Ky n L)with wr|wr;have Cr:vx n L=true:=wr;have hv:=(nG Cr).1;have E4:=(nG Cr).2;have a5:=hv.1;have ad:=hv.2.1;have Wa:=hv.ok;rw[<-E4]at Wa;refine I ?_;refine al k7 (λ_ P1 P0=>?_);have⟨E,O⟩:=bn P1.2 E O;refine SO P0 (λE5 Q0 A2=>?_);have⟨E,O,_⟩:=kt Q0 E O;refine I ?_;rcases oq:elim n (n+n) n (jP n L)with _|cm;refine I ?_;refine aa (aD (vf:=[]) (vc:=[pT w.heap.size,pT B2.heap.size]) Z Z ?_);refine cl VP (E3 (lb:=[pT w.heap.size,pT B2.heap.size]) (n:=n) VQ (λW hE=>Fg ((hM.ext O).ext hE) hv (E.ext hE) (A2.ext hE) E4 (ht.ext (xt O hE)))) ?_;rintro _ _ W3 H4;have⟨E,A2,O⟩:=cj W3.2 E A2 O;rw[oq]at H4;subst H4;refine I ?_;refine al s9 (λ_ Rm X2=>?_);have⟨E,A2,O⟩:=cj Rm.2 E A2 O;refine SA X2 (λ_ E6 _=>?_);have E:=pb E6 E
 have A2:=pb E6 A2;have O:=bi E6 O;refine I ?_;exact bu (t:=2) (u:=3) (v1:=.slice none 0 0) (v2:=.int .i64 130) Z O (GZ Cr oq) Z Z;refine I ?_;refine aa (aD (vf:=[]) (vc:=[pT w.heap.size,pT B2.heap.size]) Z Z ?_);refine cl VP (E3 (lb:=[pT w.heap.size,pT B2.heap.size]) (n:=n) VQ (λW hE=>Fg ((hM.ext O).ext hE) hv (E.ext hE) (A2.ext hE) E4 (ht.ext (xt O hE)))) ?_;rintro _ E0 S0 Ix;have⟨E,A2,O⟩:=cj S0.2 E A2 O;rw[oq]at Ix;obtain⟨_,rfl,Kp⟩:=Ix;obtain⟨KC,a2,B1,ny,L1,EW,X0,rfl,_,Lk,VW,a3⟩:=vz.get Kp;have Ab:=ab2 Lk;have Am:=ab6 VW;have Af:=ab6 a3;have T2:=mH (show qt n (n+n) (jP n L)by have h:=m7 hv;rwa [<-E4]at h) U oq;have Ne:=T2.1;refine I ?_;refine al s9 (λ_ C1 N0=>?_);have⟨E,A2⟩:=dZ C1.2 E A2;have Ab:=aa1 C1.2 Ab;have Am:=aa5 C1.2 Am;have Af:=aa5 C1.2 Af;have O:=xt O C1.2;refine SA N0 (λAw od As=>?_);have⟨E,A2⟩:=jU od E A2;have Ab:=ac1 od U Ab;have Am:=ab9 od U Am;have Af:=ab9 od U Af;have O:=bi od O;have a4:=iM od;refine I ?_;by_cases aos:((cm.piv.length:Nat):Int)<(n:Int);refine I ?_;exact bu (t:=2) (u:=3) (v1:=.slice none 0 0) (v2:=.int .i64 130) Z O (KN Cr oq U) Z Z;refine I ?_;have WV:World.ownsRow Aw Aw.heap.size 28 1 (.slice none 0 0) 0 []:=bK
 have L4:Wr Aw Aw.heap.size Aw.heap.size 0 (λ_=>.nilIface) (O4 cm n):=Wr.nil;refine cg [(7,7),(9,9),(32,43)] (λLj e W=>∃i:Nat,∃H2:Nat->Value,∃Ao:Value,(n-i=Lj)/\(e 32=.int .i64 i)/\(e 7=Ao)/\(i<=n)/\(∀zz,zz<i->az Ao (H2 zz))/\(Aw.heap.size<=W.heap.size)/\((Ao).ownBlock≠some w.heap.size)/\((Ao).ownBlock≠some B2.heap.size)/\((Ao).ownBlock≠some E0.heap.size)/\(aO w W)/\(ap W w.heap.size 27 #[.slice A n C])/\(ap W B2.heap.size 3 #[.int .i64 n])/\(lS W E5.heap.size E0.heap.size KC n B1 cm.L)/\(m6 W E5.heap.size E0.heap.size ny (ag cm.piv))/\(m6 W E5.heap.size E0.heap.size EW (ints cm.cols))/\(ap W E0.heap.size 103 #[.slice KC n a2,.slice ny cm.piv.length L1,.slice EW cm.cols.length X0,.bool (decide (cm.sw%2=1))])/\(W.ownsRow Aw.heap.size 28 1 Ao i ((List.range i).map H2))/\(Wr W Aw.heap.size W.heap.size i H2 (O4 cm n))) (n-0) ⟨0,(λ_=>.nilIface),.slice none 0 0,rfl,rfl,rfl,(qa7 _),(λj FR=>by omega),(qa0 _),(λe=>by cases e),(λe=>by cases e),(λe=>by cases e),O,E,A2,Ab,Am,Af,As,WV,L4⟩ ?_;rintro _ _ GC ⟨i,H2,Ao,rfl,a8,H3,hi_i,K2,a6,K3,ES,E9,Ay,E,A2,Ab,Am,Af,As,Aq,Av⟩;by_cases hli:i<n;have a9:=(Ne i hli).1;have Li:=ab1 (Ab).mt (i:=(i)) U;refine I ?_;refine gN Li (I ?_);refine aa (aW (v:=Ao) H3 ?_);refine I ?_
 refine aa (yg (A:=sA (B1 i)) (m:=(cm.L i).length) (c:=sC (B1 i)) (i:=(n)) tc bX Z Z U ((Ab).mt.cap i U) ?_);refine clb R9 (hc:=uF (Rw.fromR (Mt.row (Ab).mt i U) ((Ab).mt.cap i U) U) (by rw[List.length_drop];omega)) (hk:=?_) (hv:=av (qb2 (λk=>Value.slice (ux 2 (sA (B1 i)) (sC (B1 i)) n) k (sC (B1 i)-n)) (List.length_drop (i:=(n)) (l:=(cm.L i))).symm) Z);rintro Az _ Ar Ap;have Ar:=Ar.2;have Ap:=ck (lo':=GC.heap.size) U Ap;have G0:az Az (Ao):=λg h1 h2=>by have h3:=aU Ap _ h1;have h4:=(dI Aq) _ h2;omega
 have⟨E,A2⟩:=dZ Ar E A2;have Ab:=aa1 Ar Ab;have Am:=aa5 Ar Am;have Af:=aa5 Ar Af;have As:=be Ar As;have Aq:=ab Ar Aq;have Av:=aa2 Ar Av;have Ay:=xt Ay Ar;refine aa (cH (vs:=[(0,Az)]) (cells:=#[Az]) R7 jB Z dc dc (jO _ (bQ Ap)) Z dc (λ_ Ax _ Vm=>?_));have⟨E,A2⟩:=dZ Ax E A2;have Ab:=aa1 Ax Ab;have Am:=aa5 Ax Am;have Af:=aa5 Ax Af;have As:=be Ax As;have Aq:=ab Ax Aq;have Av:=aa2 Ax Av;have Ap:=ab Ax Ap;have Ay:=xt Ay Ax;refine AP Aq (aa8 Vm) (λE7 W1 La nm E1=>?_) (h1:=Ty (bQ Ap));have L2:=aQ E1 K3 (bt E);have No:=aQ E1 ES (bt A2);have KM:=aQ E1 E9 (bt As);have P2:∀CG,CG<i->az E7 (H2 CG):=λCG hi=>aa9 E1 (K2 CG hi) (Wr.own Av CG hi);have E:=aa3 nm (λe=>K3 e.symm) E;have A2:=aa3 nm (λe=>ES e.symm) A2;have Ab:=lS.gr nm (λg e=>by have:=aU Aq _ e;omega) Ab;have Am:=m6.gr nm (λg e=>by have:=aU Aq _ e;omega) Am;have Af:=m6.gr nm (λg e=>by have:=aU Aq _ e;omega) Af;have As:=aa3 nm (λe=>E9 e.symm) As;have Av:=ac8 nm K2 Av;have T3:=aa9 E1 (aa6 G0) Ap
 have Ap:=ab3 (aa6 G0) nm Ap;have Ay:=bm Aq U U Ay nm;have ac:=nm.size;refine aa (aK (v:=E7) Z ?_);refine I ?_;refine gP (I ?_);have KY:World.ownsRow W1 GC.heap.size 33 2 Az ((O4 cm n) i).length (ag ((O4 cm n) i)):=aM Ap Z Z;have S9:=ck (lo':=Aw.heap.size) U KY;have W2:∀zz,zz<i->az Az (H2 zz):=Wr.far Av Ap U;refine I ?_;exact bI ⟨i+1,bT H2 i Az,E7,rfl,rfl,rfl,U,(λj FR=>dW P2 T3 j FR),U,L2,No,KM,Ay,E,A2,Ab,Am,Af,As,(aM La Z (eL H2 i Az).symm),(by have h:=Wr.push Av S9 W2;rwa [pF]at h)⟩;refine I ?_;refine aa (aW (v:=Ao) H3 ?_);refine aa (aK (v:=Ao) Z ?_);refine I ?_;exact bu (t:=2) (u:=3) (v1:=Ao) (v2:=.int .i64 0) Z Ay (OP Cr oq U (by have h:=pH Aq Av;rw[show i=n by omega]at h;exact h.mono U)) Z Z;refine I ?_;exact bu (t:=2) (u:=3) (v1:=.slice none 0 0) (v2:=.int .i64 130) Z O (OO kb2) Z Z
def O5 {L:Rows}(hM:Mt w lo A n H L)(hB:Bd n L)(hC:n<=C)(ht:Tb w):
 CL 78 #[.slice A n C] w (aG w λv w'=>v=GU (pJ n L)):=by
 refine aC func78 Z (I ?_);refine cl R8 (Kz (hM.ext (aa4 _)) hB (ht.ext (aa4 _))) ?_;rintro _ B1 KY rfl;have A2:=KY.2;refine I ?_;rcases qa4 (Ky n L)with fx|fx;have Af:vx n L=true:=fx;have hv:=(nG Af).1;have L3:=(nG Af).2;have Li:=hv.1;have T3:=hv.2.1;have Aw:=hv.ok;rw[<-L3]at Aw;refine I ?_;refine cl M8 (E8 (hM.ext A2) hB (ht.ext A2)) ?_;rintro _ Ay Kp Cr;have A2:=xt A2 Kp.2;rw[if_pos (show vM n L=true from decide_eq_true hv)]at Cr;obtain⟨EW,_,E7,rfl,_,H2⟩:=Cr;have O:=ab2 H2;refine cl YR (Ul (hM.ext A2) (O).mt hB) ?_;rintro _ FR E0 rfl;have O:=aa1 E0.2 O;have A2:=xt A2 E0.2;refine I ?_;by_cases fy:lR n L ((L 0).length) (λj=>kX L n j);refine I ?_;have Aq:MZ n L:=O2 Af fy;refine cg [(2,5),(7,9),(20,53)] (λAr e W=>∃k:Nat,(n-k=Ar)/\(e 20=.int .i64 k)/\(k<=n)/\(nl L (n-k) k=nl L n 0)/\(FR.heap.size<=W.heap.size)/\(aO w W)/\(lS W B1.heap.size Ay.heap.size EW ((L 0).length) E7 (λj=>kX L n j))) (n-0) ⟨0,rfl,rfl,(qa7 _),rfl,(qa0 _),A2,O⟩ ?_;rintro _ _ Ao ⟨k,rfl,P1,T2,hP,P2,ny,O⟩;have Q0:=bz ny;by_cases hlk:k<n;refine I ?_;refine aa (ci (a:=(k:Int)) (b:=1) (c:=((k+1:Nat):Int)) Z Z JT U ?_);refine aa (oL (A:=A) (m:=n) (c:=C) (j:=k+1) R7 lU Z Z U ?_)
 refine I ?_;have K3:World.ownsRow Ao Ao.heap.size 28 1 (.slice none 0 0) 0 []:=bK;refine cg [(5,5),(7,7),(28,39)] (λAr e W=>∃i:Nat,∃Ab:Value,(k+1-i=Ar)/\(e 28=.int .i64 i)/\(e 5=Ab)/\(i<=k+1)/\(Ao.heap.size<=W.heap.size)/\(aO w W)/\(lS W B1.heap.size Ay.heap.size EW ((L 0).length) E7 (λj=>kX L n j))/\(W.ownsRow Ao.heap.size 28 1 Ab i ((List.range i).map (Gt H (k+1))))) (k+1-0) ⟨0,.slice none 0 0,rfl,rfl,rfl,(qa7 _),(qa0 _),ny,O,K3⟩ ?_;rintro _ _ E4 ⟨i,Ab,rfl,S0,od,Lk,Ne,E,O,Am⟩;have La:=bz E;by_cases hli:i<k+1;have No:=(Aw i U).1;have H4:=ab1 (hM.ext E) (i:=(i)) U;refine I ?_;refine gN H4 (I ?_);refine aa (aW (v:=Ab) od ?_);refine I ?_;refine aa (ci (a:=(k:Int)) (b:=1) (c:=((k+1:Nat):Int)) Z Z JT U ?_);refine aa (oL (A:=sA (H i)) (m:=(L i).length) (c:=sC (H i)) (j:=(k+1)) tc bX Z Z (by have:=(hM.ext E).cap i U;omega) ?_);refine BS (λ_ As _ H3=>?_);have O:=aa1 As O;have Am:=ab As Am;have E:=xt E As;refine AP Am (aa8 H3) (λC1 _ KC Av _=>?_);have O:=lS.gr Av (λg e=>by have:=aU Am _ e;omega) O;have E:=bm Am U U E Av;have Rm:=Av.size;refine aa (aK (v:=C1) Z ?_);refine I ?_;refine gP (I ?_)
 exact bI ⟨i+1,C1,rfl,rfl,rfl,U,U,E,O,(aM KC Z (GO (Gt H (k+1)) i))⟩;have ES:i=k+1:=J
 have Ax:lS E4 0 E4.heap.size (sA Ab) (k+1) (Gt H (k+1)) (λi=>(L i).take (k+1)):=ab2 (Mt.takes (ad6 (qa7 _) (hM.ext E)) U (λi hi=>by have:=(Aw i hi).1;omega) (by have h:=gi Am;rwa [ES]at h) (qa7 _));have CG:Ab=.slice (sA Ab) (k+1) (sC Ab):=by rw[<-ES];exact dj Am
 refine I ?_;rcases cy:kO (k+1) (λi=>(L i).take (k+1))with _|cv;have Lj:=od.trans CG;refine I ?_;refine clb VJ (hc:=Fe (Ax).mt (Bd.takes hB U) (ht.ext E)) (hk:=?_);rintro _ _ GC E6;have E:=xt E GC.2;rw[cy]at E6;subst E6;refine I ?_;refine al aS (λ_ Ix L2=>?_);have E:=xt E Ix.2;refine SA L2 (λ_ L4 _=>?_);have E:=bi L4 E;refine I ?_;exact bu (t:=2) (u:=3) (v1:=.bool false) (v2:=.int .i64 130) Z E (G3 Af Aq (G2 hlk hP cy)) Z Z;have S9:=od.trans CG;refine I ?_;refine clb VJ (hc:=Fe (Ax).mt (Bd.takes hB U) (ht.ext E)) (hk:=?_);rintro _ _ Az E5;have O:=aa1 Az.2 O;have E:=xt E Az.2;rw[cy]at E5;subst E5;have L1:=OQ cy;have N0:Rl (some cv).isSome=0:=rfl;refine I ?_;refine al aS (λ_ E9 G0=>?_);have O:=aa1 E9.2 O;have E:=xt E E9.2;refine SA G0 (λ_ Ap _=>?_);have O:=ac1 Ap U O;have E:=bi Ap E;have P0:=iM Ap;refine I ?_;refine bL 3 ?_;refine sf ?_;refine aR (V:=.agg #[S ((z0).1),S ((z0).2)]) (λ_ _ _ _=>?_) ?_;refine cl BE (lB _) ?_;rintro _ _ nm rfl;have K2:=nm.2;refine I ?_;exact fs ⟨K2,rfl⟩;refine sf ?_;intro _ _ B2 _;have O:=aa1 B2.2 O;have E:=xt E B2.2;refine cl nL (Od _ _ _ (ht.ext E) L1) ?_
 rintro _ _ E1 rfl;have O:=aa1 E1.2 O;have E:=xt E E1.2;refine I ?_;by_cases ns:(qF (ah (cv).1))<=0;refine I ?_;exact bu (t:=2) (u:=3) (v1:=.bool false) (v2:=.int .i64 0) Z E (wP Af Aq (OR hlk hP cy ns)) Z Z;refine I ?_;refine gP (I ?_);exact bI ⟨k+1,rfl,rfl,U,(G1 hlk hP cy ns),U,E,O⟩;have KM:=KP hlk hP;refine I ?_;exact bu (t:=2) (u:=3) (v1:=.bool true) (v2:=.int .i64 0) Z ny (wP Af Aq KM) Z Z;refine I ?_;exact bu (t:=2) (u:=3) (v1:=.bool false) (v2:=.int .i64 0) Z A2 (OT Af (λh=>fy (O3 Af h))) Z Z;refine I ?_;exact bu (t:=2) (u:=3) (v1:=.bool false) (v2:=.int .i64 130) Z A2 (OS kb2) Z Z
def dh :
 CL 40 #[.bool true] w (aG w λv w'=>v=.tuple #[]):=by
 refine aC func40 Z (I ?_);exact HZ (nh Z) (aa4 _) Z
def uG {a:Addr}(hE:Er w a):
 CL 40 #[.bool false] w (fe (pE a) w):=by
 refine ia func40 Z (I ?_);refine aa (bB (v:=eV a) (b:=0) (o:=0) YH Z Z (ab4 (Er.ext (aa4 _) hE) Z) ?_);refine aa (D9 (ty':=316) (u:=.pointer (some a)) Z ?_);exact gg ⟨(aa4 _),rfl⟩
def AE :
 CL 146 #[.slice A n C,.int .i64 0] w (aG w λv w'=>v=.slice A n C):=by
 refine aC func146 Z (I ?_);refine cl fE dh ?_;rintro _ _ O rfl;have E:=O.2;refine I ?_;exact am (t:=4) (v:=.slice A n C) Z E Z Z
def G6 {a:Addr}(hE:Er w a):
 CL 146 #[.slice none 0 0,.int .i64 130] w (fe (pE a) w):=by
 refine ia func146 Z (I ?_);refine aa (dr (vs:=[.bool false]) fE Z (uG (Er.ext (aa4 _) hE)) (λ_ O=>?_));have E:=O;refine I ?_;exact gg ⟨E,rfl⟩
def kS {l m:List UInt8}:
 CL 99 #[.agg #[S l,S m],.int .i64 0] w (aG w λv w'=>v=.agg #[S l,S m]):=by
 refine aC func99 Z (I ?_);refine bx (λAm Aq O=>?_);have E:=Aq.2;refine al aS (λ_ Ap A2=>?_);have⟨O,E⟩:=bn Ap.2 O E;refine I ?_;refine cl fE dh ?_;rintro _ _ Af rfl;have⟨O,A2,E⟩:=cj Af.2 O A2 E;refine I ?_;refine SA A2 (λ_ Ab Ao=>?_);have O:=pb Ab O;have E:=bi Ab E;refine I ?_;refine aX (v:=.agg #[S l,S m]) (bY  rfl ?_) E Z;refine ak (t:=4) (cs:=[S l,S m]) (b:=Am.heap.size) (o:=0) iK Z bX ?_ ?_;exact Z;exact aa0 Ao (i:=0) Z
def KU {k l m n:List UInt8}:
 CL 104 #[.agg #[S k,S l,S m,S n],.int .i64 0] w (aG w λv w'=>v=.agg #[S k,S l,S m,S n]):=by
 refine aC func104 Z (I ?_);refine bx (λAm Aq O=>?_);have E:=Aq.2;refine al dQ (λ_ Ap A2=>?_);have⟨O,E⟩:=bn Ap.2 O E;refine I ?_;refine cl fE dh ?_;rintro _ _ Af rfl;have⟨O,A2,E⟩:=cj Af.2 O A2 E;refine I ?_;refine aa (aP (cs:=[S k,S l,S m,S n]) (b:=w.heap.size) (o:=0) fA Z dY Z (aa0 O (i:=0) Z) ?_);refine SA A2 (λ_ Ab Ao=>?_);have O:=pb Ab O;have E:=bi Ab E;refine I ?_;refine aX (v:=.agg #[S k,S l,S m,S n]) (bY  rfl ?_) E Z;refine ak (t:=4) (cs:=[S k,S l,S m,S n]) (b:=Am.heap.size) (o:=0) fA Z dY ?_ ?_;exact Z;exact aa0 Ao (i:=0) Z
end
section
open Go Go.Eng Go.RowKit Tryz
def nS (n:Nat):List UInt8:=ae (n:Int)
def Fi (n:Nat):Prop:=n<10^200
def Fz (z:Int):Prop:=z.natAbs<10^200
def Fz.fits {z:Int}(h:Fz z):fits z=true:=qa1 h
def Fi.z (h:Fi n):Fz (n:Int):=by simpa[Fz,Fi]using h
def Fz.int {z:Int}(h:Fz z):isInt (ae z)=true:=bf h.fits
def KV {a b:Int}(ha:Fz a)(hb:Fz b)(h:Fz (a+b)):xN (ae a) (ae b)=some (ae (a+b)):=by
 rw[xR ka2,aI,aI];unfold ba;rw[if_pos h.fits]
def Uu {a b:Int}(ha:Fz a)(hb:Fz b)(h:Fz (a-b)):aT (ae a) (ae b)=some (ae (a-b)):=by
 rw[pc ka2,aI,aI];unfold ba;rw[if_pos h.fits]
def KW {a b:Int}(ha:Fz a)(hb:Fz b)(h:Fz (a*b)):ay (ae a) (ae b)=some (ae (a*b)):=by
 rw[gy ka2,aI,aI];unfold ba;rw[if_pos h.fits]
def uH {a b:Int}(ha:Fz a)(hb:Fz b)(h0:b≠0)(h:Fz (a/b)):dk (ae a) (ae b)=some (ae (a/b),ae (a%b)):=by
 rw[lw ka2 (by rw[gE,gD];omega),aI,aI];unfold ba;rw[if_pos h.fits];rfl
def KX {a b:Int}(ha:Fz a)(hb:Fz b):dH (ae a) (ae b)=aN a b:=by
 unfold dH;rw[if_pos ka2,aI,aI]
def Xu:([48]:List UInt8)=nS 0:=by decide +kernel
def KZ:([49]:List UInt8)=nS 1:=by decide +kernel
def wQ:([50]:List UInt8)=nS 2:=by decide +kernel
def Zk:([52]:List UInt8)=nS 4:=by decide +kernel
def dJ {z:Int}:(ae z=[48])↔z=0:=⟨λh=>mQ (h.trans Xu),λh=>by subst h;exact Xu.symm⟩
def kq {a b:Int}(h:Fz a)(hb:0<b):Fz (a/b):=by
 unfold Fz at *
 refine Nat.lt_of_le_of_lt ?_ h
 obtain⟨k,rfl⟩:∃k:Nat,b=k:=⟨b.toNat,by omega⟩
 rcases Int.eq_nat_or_neg a with⟨n,rfl|rfl⟩
 · have:((n:Int)/(k:Int))=((n/k:Nat):Int):=rfl
   rw[this,Int.natAbs_natCast,Int.natAbs_natCast];exact Nat.div_le_self _ _
 · have h1:-(n:Int)<=-(n:Int)/(k:Int):=by
    rw[Int.le_ediv_iff_mul_le hb]
    have:(n:Int)<=(n:Int)*(k:Int):=by have:=Int.mul_le_mul_of_nonneg_left (show(1:Int)<=k by omega) (show(0:Int)<=n by omega);simpa using this
    rw[Int.neg_mul];omega
   have h2:-(n:Int)/(k:Int)<=0:=by
    refine Int.ediv_le_of_le_mul hb ?_
    simp
   omega
abbrev N2:=Nat×Nat
def sK (a b:Nat):Nat:=if a%b=0 then a/b else a/b+1
def p7 (S n d:Nat):N2:=(n*S/d,sK (n*S) d)
def na (S:Nat)(a b:N2):N2:=(a.1*b.1/S,sK (a.2*b.2) S)
def vL (S:Nat)(a b:N2):N2:=(a.1*S/b.2,sK (a.2*S) b.1)
def lF (a:N2)(n d:Nat):N2:=(a.1*n/d,sK (a.2*n) d)
def Rq (a b:N2):N2:=(a.1+b.1,a.2+b.2)
def Bv (a b:N2):Int×Int:=((a.1:Int)-b.2,(a.2:Int)-b.1)
def yn (hb:0<b):sK a b<=a:=by
 unfold sK
 split
 · exact Nat.div_le_self _ _
 · rename_i h
   have h1:=Nat.div_add_mod a b
   have h2:a/b<=b*(a/b):=Nat.le_mul_of_pos_left _ hb
   omega
def Bk (k:Nat)(p:N2):Prop:=p.1<10^k/\p.2<10^k
def yo (p:N2):Bool:=decide (p.1<10^95)&&decide (p.2<10^95)
def fL {p:N2}(h:yo p=true):Bk 95 p:=by simpa[yo,Bk]using h
structure Sc (S:Nat):Prop where
 pos:0<S
 lt:S<10^95
def iE {m:Nat}(ha:a<10^k)(hb:b<10^m):a*b<10^(k+m):=by
 rw[Nat.pow_add];exact Nat.mul_lt_mul'' ha hb
def jb {m:Nat}(h:a<10^k)(hl:k<=m):a<10^m:=qb1 h (Nat.pow_le_pow_right U hl)
def Bk.mono {m:Nat}{p:N2}(h:Bk k p)(hl:k<=m):Bk m p:=⟨jb h.1 hl,jb h.2 hl⟩
def Bk.fi {p:N2}(h:Bk k p)(hl:k<=200):Fi p.1/\Fi p.2:=⟨jb h.1 hl,jb h.2 hl⟩
def g5 (h:a<10^k)(hl:k<=200):Fi a:=jb h hl
def fM {m:Nat}(ha:a<10^k)(hb:b<10^m)(hl:k+m<=200):Fi (a*b):=g5 (iE ha hb) hl
def K0 {S:Nat}{a b:N2}(hS:0<S)(ha:Bk 95 a)(hb:Bk 95 b):Bk 190 (na S a b):=
 ⟨Nat.lt_of_le_of_lt (Nat.div_le_self _ _) (iE ha.1 hb.1),Nat.lt_of_le_of_lt (yn hS) (iE ha.2 hb.2)⟩
def K4 {S:Nat}{a b:N2}(hS:Sc S)(h0:0<b.1)(ha:Bk 95 a):Bk 190 (vL S a b):=
 ⟨Nat.lt_of_le_of_lt (Nat.div_le_self _ _) (iE ha.1 hS.lt),Nat.lt_of_le_of_lt (yn h0) (iE ha.2 hS.lt)⟩
def ol (nx:Nat->N2->N2)(t0:N2):Nat->N2
 |0=>t0
 |k+1=>nx (k+1) (ol nx t0 k)
def pM (T:Nat->N2):Nat->N2
 |0=>(0,0)
 |k+1=>Rq (pM T k) (T k)
def K5 (nx:Nat->N2->N2):Nat->Nat->N2->N2->Nat->Option N2
 |0,_,_,_,_=>none
 | f +1,n,t,a,l=>if yo t=true then
  (if 2<=n/\t.2<=2/\t.2*2<=l+2 then some (a.1+t.1,a.2+t.2+(t.2+4))else K5 nx f (n+1) (nx n t) (Rq a t) t.2)
   else none
def yp (nx:Nat->N2->N2)(t0:N2):Option N2:=K5 nx 1000 1 t0 (0,0) 0
structure AF (T:Nat->N2)(m:Nat):Prop where
 lt:m<1000
 bd:∀k≤m,Bk 95 (T k)
 go:∀k<m,k=0\/¬((T k).2<=2/\(T k).2*2<=(T (k-1)).2+2)
 pos:0<m
 stop:(T m).2<=2/\(T m).2*2<=(T (m-1)).2+2
def vO (T:Nat->N2)(m:Nat):N2:=((pM T (m+1)).1,(pM T (m+1)).2+((T m).2+4))
def AG {nx:Nat->N2->N2}{t0 r:N2}:∀(f k l:Nat),k+f<=1000->(k=0\/l=(ol nx t0 (k-1)).2)->(∀j<k,Bk 95 (ol nx t0 j))->(∀j<k,j=0\/¬((ol nx t0 j).2<=2/\(ol nx t0 j).2*2<=(ol nx t0 (j-1)).2+2))->
 K5 nx f (k+1) (ol nx t0 k) (pM (ol nx t0) k) l=some r->∃m,AF (ol nx t0) m/\vO (ol nx t0) m=r
 |0,_,_,_,_,_,_,h=>by simp[K5]at h
 | f + 1,k,l,hk,hl,hb,hg,h=>by
   unfold K5 at h
   by_cases h1:yo (ol nx t0 k)=true
   · rw [if_pos h1]at h
     have hb':∀j≤k,Bk 95 (ol nx t0 j):=λj E=>by
      by_cases e:j=k
      · subst e;exact fL h1
      · exact hb j U
     split at h
     · rename_i hs
       cases h
       have hl':l=(ol nx t0 (k-1)).2:=by rcases hl with e|e;omega;exact e
       exact⟨k,⟨by omega,hb',hg,by omega,hs.2.1,by rw[<-hl'];exact hs.2.2⟩,rfl⟩
     · rename_i hs
       refine AG f (k+1) _ U (Or.inr Z) (λj E=>hb' j U) (λj E=>?_) h
       by_cases e:j=k
       · subst e
         by_cases e0:j=0
         · exact Or.inl e0
         · refine Or.inr λhc=>hs ⟨by omega,hc.1,?_⟩
           rcases hl with e|e;omega;rw[e];exact hc.2
       · exact hg j U
   · rw[if_neg h1]at h;cases h
def uI {nx:Nat->N2->N2}{t0 r:N2}(h:yp nx t0=some r):∃m,AF (ol nx t0) m/\vO (ol nx t0) m=r:=
 AG 1000 0 0 U (Or.inl Z) (λj E=>by omega) (λj E=>by omega) h
def Fh {T:Nat->N2}{m:Nat}(hT:∀k≤m,Bk 95 (T k)):∀k≤m+1,(pM T k).1<=k*10^95/\(pM T k).2<=k*10^95
 |0,_=>by simp[pM]
 | k+1,hk=>by
   obtain⟨h1,h2⟩:=Fh hT k U
   obtain⟨h3,h4⟩:=hT k U
   simp only[pM,Rq,Nat.add_mul,Nat.one_mul]
   exact⟨by omega,by omega⟩
def AF.tot {T:Nat->N2}{m:Nat}(h:AF T m)(hk:k<=m+1):Bk 99 (pM T k):=by
 obtain⟨_,_⟩:=Fh h.bd k hk
 have h3:k*10^95<=1000*10^95:=Nat.mul_le_mul_right _ (by have:=h.lt;omega)
 have h4:1000*10^95<10^99:=by decide
 exact⟨by omega,by omega⟩
def jR (S:Nat):Nat->N2->Nat->Option (N2×Nat)
 |0,_,_=>none
 |f+1,x,h=>if S<x.2*2 then jR S f (lF x 1 2) (h+1)else some (x,h)
def HO (S:Nat):Nat->N2->Option N2
 |0,a=>if yo a=true then some a else none
 |h+1,a=>if yo a=true then HO S h (na S a a)else none
def K6 (S:Nat)(x:N2)(n:Nat)(t:N2):N2:=lF (na S t x) 1 n
def yq (S:Nat)(x:N2):Option N2:=if yo x=true then(jR S 200 x 0).bind λp=>(yp (K6 S p.1) (1*S,1*S)).bind (HO S p.2)else none
def O6 {x:N2}(h:Bk k x):Bk k (lF x 1 2):=
 ⟨Nat.lt_of_le_of_lt (by simpa[lF]using Nat.div_le_self _ _) h.1,Nat.lt_of_le_of_lt (by simpa[lF]using yn (a:=x.2) (b:=2) U) h.2⟩
def Uv {S:Nat}{x:N2}{p:N2×Nat}(hh:jR S f x h=some p)(hl:S<x.2*2):∃g,f=g+1/\jR S g (lF x 1 2) (h+1)=some p:=by
 cases f with
 |zero=>simp[jR]at hh
 |succ g=>unfold jR at hh;rw[if_pos hl]at hh;exact⟨g,rfl,hh⟩
def Uw {S:Nat}{x:N2}{p:N2×Nat}(hh:jR S f x h=some p)(hl:¬S<x.2*2):p=(x,h):=by
 cases f with
 |zero=>simp[jR]at hh
 |succ g=>unfold jR at hh;rw[if_neg hl]at hh;cases hh;rfl
def Zl {S:Nat}{a r:N2}(hh:HO S (h-i) a=some r)(hl:i<h):Bk 95 a/\HO S (h-(i+1)) (na S a a)=some r:=by
 obtain⟨k,hk⟩:∃k,h-i=k+1:=⟨h-i-1,by omega⟩
 rw[hk]at hh
 unfold HO at hh
 rw[show h-(i+1)=k by omega]
 split at hh
 · rename_i h1;exact⟨fL h1,hh⟩
 · cases hh
def Zm {S:Nat}{a r:N2}(hh:HO S (h-i) a=some r)(hl:¬i<h):a=r/\Bk 95 r:=by
 rw[show h-i=0 by omega]at hh
 unfold HO at hh
 split at hh
 · rename_i h1;cases hh;exact⟨rfl,fL h1⟩
 · cases hh
def Fj {S:Nat}{x r:N2}(h:yq S x=some r):Bk 95 x/\∃p s,jR S 200 x 0=some p/\yp (K6 S p.1) (1*S,1*S)=some s/\HO S p.2 s=some r:=by
 unfold yq at h
 split at h
 · rename_i h1
   refine⟨fL h1,?_⟩
   cases hp:jR S 200 x 0 with
   |none=>rw[hp]at h;cases h
   | some p=>
     rw[hp,Option.bind_some]at h
     cases hs:yp (K6 S p.1) (1*S,1*S)with
     |none=>rw[hs]at h;cases h
     |some s=>rw[hs,Option.bind_some]at h;exact⟨p,s,rfl,hs,h⟩
 · cases h
def Rr {S:Nat}:∀{h:Nat} {a r:N2},HO S h a=some r->Bk 95 r
 |0,a,r,h=>by unfold HO at h;split at h;rename_i h1;cases h;exact fL h1;cases h
 |k+1,a,r,h=>by unfold HO at h;split at h;exact Rr h;cases h
def Ux {S:Nat}{x r:N2}(h:yq S x=some r):Bk 95 r:=by
 obtain⟨_,p,s,_,_,h3⟩:=Fj h
 exact Rr h3
def Uy (S:Nat)(y:N2)(fr n:Nat)(u:N2):N2:=lF (na S u y) 2 (fr+2*n)
end
section
set_option maxRecDepth 100000
open Go Go.Eng Go.RowKit Tryz
attribute [local irreducible] wpListIn Code.wpIn Oper.wpIn Exit.then Exit.inBlock Exit.noGoto
set_option maxHeartbeats 40000000
section
variable {f:FuncId}{a:Array Value}
def nc {X Y:Value}(h:CL f a w (aG w λv _=>v=X))(e:X=Y):CL f a w (aG w λv _=>v=Y):=e▸h
def cB {X Y:Bool}(h:CL f a w (aG w λv _=>v=.bool X))(e:X=Y):CL f a w (aG w λv _=>v=.bool Y):=e▸h
end
def Zn (h:nS (a%b)=[48]):S (nS (a/b))=S (nS (sK a b)):=by
 have:=dJ.1 h
 unfold sK;rw[if_pos U]
def Zo (h:¬nS (a%b)=[48]):S (nS (a/b+1))=S (nS (sK a b)):=by
 unfold sK;rw[if_neg λe=>h (by rw[e];rfl)]
def Uz (h:Fi a):Fi (a/b):=Nat.lt_of_le_of_lt (Nat.div_le_self _ _) h
def UA (h:Fi a)(hb:0<b):Fi (sK a b):=Nat.lt_of_le_of_lt (yn hb) h
def Xv (h:Fi a)(hb:0<b)(h0:¬nS (a%b)=[48]):Fi (a/b+1):=by
 have h1:=UA h hb
 unfold sK at h1
 rwa [if_neg λe=>h0 (by rw[e];rfl)]at h1
def K7 (h:Fi (a+b)):Fi a/\Fi b:=by unfold Fi at *;omega
def UB (ha:Fi a)(hb:Fi b)(h0:0<b):dk (nS a) (nS b)=some (nS (a/b),nS (a%b)):=uH ha.z hb.z U (Uz ha).z
def O7 {l m:List UInt8}{a b:Int}(hl:l=ae a)(hm:m=ae b)(ha:Fz a)(hb:Fz b)(h:Fz (a+b))(ht:Tb w):
 CL 222 #[S l,S m] w (aG w λv w'=>v=S (ae (a+b))):=by
 subst hl hm;refine aC func222 Z (I ?_);refine cl Ij (nc (Y:=.tuple #[S (ae (a+b)),.int .i64 0]) (xX _ _ _ (ht.ext (aa4 _))) (qb2 iA (KV ha hb h))) ?_;rintro _ _ O rfl;have E:=O.2;refine I ?_;exact am (t:=4) (v:=S (ae (a+b))) Z E Z Z
def Fl {l m:List UInt8}{a b:Int}(hl:l=ae a)(hm:m=ae b)(ha:Fz a)(hb:Fz b)(h:Fz (a-b))(ht:Tb w):
 CL 227 #[S l,S m] w (aG w λv w'=>v=S (ae (a-b))):=by
 subst hl hm;refine aC func227 Z (I ?_);refine cl DX (nc (Y:=.tuple #[S (ae (a-b)),.int .i64 0]) (su _ _ _ (ht.ext (aa4 _))) (qb2 iA (Uu ha hb h))) ?_;rintro _ _ O rfl;have E:=O.2;refine I ?_;exact am (t:=4) (v:=S (ae (a-b))) Z E Z Z
def O8 {l m:List UInt8}{a b:Int}(hl:l=ae a)(hm:m=ae b)(ha:Fz a)(hb:Fz b)(h:Fz (a*b))(ht:Tb w):
 CL 219 #[S l,S m] w (aG w λv w'=>v=S (ae (a*b))):=by
 subst hl hm;refine aC func219 Z (I ?_);refine cl QM (nc (Y:=.tuple #[S (ae (a*b)),.int .i64 0]) (Ev _ _ _ (ht.ext (aa4 _))) (qb2 iA (KW ha hb h))) ?_;rintro _ _ O rfl;have E:=O.2;refine I ?_;exact am (t:=4) (v:=S (ae (a*b))) Z E Z Z
def K8 {l m:List UInt8}{a b:Int}(hl:l=ae a)(hm:m=ae b)(ha:Fz a)(hb:Fz b)(hp:0<b)(ht:Tb w):
 CL 218 #[S l,S m] w (aG w λv w'=>v=S (ae (a/b))):=by
 subst hl hm;have O:b≠0:=U;refine aC func218 Z (I ?_);refine clb y6 (hc:=nc (Y:=.tuple #[S (ae (a/b)),S (ae (a%b)),.int .i64 0]) (j5 _ _ _ (ht.ext (aa4 _))) (qb2 vI (uH ha hb O (kq ha U)))) (hk:=?_);rintro _ _ A2 rfl;have E:=A2.2;refine I ?_;exact am (t:=4) (v:=S (ae (a/b))) Z E Z Z
def ke {l m:List UInt8}(hl:l=nS a)(hm:m=nS b)(h:Fi (a+b))(ht:Tb w):CL 222 #[S l,S m] w (aG w λv _=>v=S (nS (a+b))):=O7 hl hm (K7 h).1.z (K7 h).2.z h.z ht
def gd {l m:List UInt8}(hl:l=nS a)(hm:m=nS b)(ha:Fi a)(hb:Fi b)(h:Fi (a*b))(ht:Tb w):CL 219 #[S l,S m] w (aG w λv _=>v=S (nS (a*b))):=O8 hl hm ha.z hb.z h.z ht
def pO {l m:List UInt8}(hl:l=nS a)(hm:m=nS b)(ha:Fi a)(hb:Fi b)(hp:0<b)(ht:Tb w):CL 218 #[S l,S m] w (aG w λv _=>v=S (nS (a/b))):=K8 hl hm ha.z hb.z U ht
def yr {l m:List UInt8}(hl:l=nS a)(hm:m=nS b)(ha:Fi a)(hb:Fi b)(hp:0<b)(ht:Tb w):
 CL 220 #[S l,S m] w (aG w λv w'=>v=S (nS (sK a b))):=by
 subst hl hm;refine aC func220 Z (I ?_);refine cl y6 (nc (Y:=.tuple #[S (nS (a/b)),S (nS (a%b)),.int .i64 0]) (j5 _ _ _ (ht.ext (aa4 _))) (qb2 vI (UB ha hb hp))) ?_;rintro _ _ A2 rfl;have E:=A2.2;refine I ?_;refine rH (b:=[48]) (I ?_);by_cases cm:(nS (a%b))=([48]);refine I ?_;exact am (t:=4) (v:=S (nS (a/b))) Z E (Zn cm) Z;refine I ?_;refine cl mj (ke Z KZ (Xv ha hp cm) (ht.ext E)) ?_;rintro _ _ O rfl;have E:=xt E O.2;refine I ?_;exact am (t:=4) (v:=S (nS (a/b+1))) Z E (Zo cm) Z
def uJ (hn:n<1000000000)(ht:Tb w):
 CL 185 #[.int .i64 n] w (aG w λv w'=>v=S (nS n)):=by
 refine aC func185 Z (I ?_);refine clb If (hc:=nc (Y:=S (nS n)) (xO _ _ U U (ht.ext (aa4 _))) (qb2 S (zO n))) (hk:=?_);rintro _ _ O rfl;have E:=O.2;refine I ?_;exact am (t:=2) (v:=S (nS n)) Z E Z Z
def pP :aO w w:=aa4 _
section
variable {f:FuncId}{a:Array Value}{m:Nat}
def pQ {o o':Option Rows}(h:CL f a w (aG w λv w'=>nj lo w' n o v))(e:o=o'):CL f a w (aG w λv w'=>nj lo w' n o' v):=e▸h
def O9 {L:Rows}(h:CL f a w (aG w λv w'=>dy lo w' v n L))(e:n=m):CL f a w (aG w λv w'=>dy lo w' v m L):=e▸h
end
def jr {L:Rows}(hM:Mt w lo A n H L)(hB:Bd n L){m:Nat}{K:Rows}(hN:Mt w lo2 B m G K)(hB2:Bd m K){P:Rows}(e:c6 n L m K=some P)(ht:Tb w):
 CL 93 #[.slice A n C,.slice B m D] w (aG w λv w'=>dy w.heap.size w' v n P):=by
 refine aC func93 Z (I ?_);refine cl H8 (pQ (o':=some P) (pL (hM.ext pP) hB (hN.ext pP) hB2 (ht.ext pP)) e) ?_;rintro _ _ Am ⟨Ar,rfl,Ab,A2,Ap,rfl,Aq,Ao⟩;have O:=Am.2;have E:=ab2 Ao;refine I ?_;refine cl BZ AE ?_;rintro _ _ Af rfl;have E:=aa1 Af.2 E;have O:=xt O Af.2;refine I ?_;exact am (t:=4) (v:=.slice Ab n A2) Z O ⟨Ab,A2,Ap,rfl,Aq,(E).mt⟩ Z
def yt {L:Rows}(hM:Mt w lo A n H L)(hB:Bd n L){P:Rows}(e:ep n L=some P)(ht:Tb w):
 CL 91 #[.slice A n C] w (aG w λv w'=>dy w.heap.size w' v n P):=by
 refine aC func91 Z (I ?_);refine cl M7 (pQ (o':=some P) (sJ (hM.ext pP) hB (ht.ext pP)) e) ?_;rintro _ _ Am ⟨Ar,rfl,Ab,A2,Ap,rfl,Aq,Ao⟩;have O:=Am.2;have E:=ab2 Ao;refine I ?_;refine cl BZ AE ?_;rintro _ _ Af rfl;have E:=aa1 Af.2 E;have O:=xt O Af.2;refine I ?_;exact am (t:=2) (v:=.slice Ab n A2) Z O ⟨Ab,A2,Ap,rfl,Aq,(E).mt⟩ Z
def K9 {L:Rows}(hM:Mt w lo A n H L)(hB:Bd n L){a:Addr}(hE:Er w a)(e:ep n L=none)(ht:Tb w):
 CL 91 #[.slice A n C] w (fe (pE a) w):=by
 refine ia func91 Z (I ?_);refine cl M7 (pQ (o':=none) (sJ (hM.ext pP) hB (ht.ext pP)) e) ?_;rintro _ _ A2 rfl;have E:=A2.2;refine I ?_;refine aa (dr (vs:=[.slice none 0 0,.int .i64 130]) BZ Z (G6 (Er.ext E hE)) (λ_ O=>?_));have E:=xt E O;refine I ?_;exact gg ⟨E,rfl⟩
def uK {L:Rows}(hM:Mt w lo A n H L)(hB:Bd n L)(hv:vM n L=true)(hl:(L 0).length=k)(ht:Tb w):
 CL 92 #[.slice A n C] w (aG w λv w'=>dy w.heap.size w' v k (λj=>kX L n j)):=by
 refine aC func92 Z (I ?_);refine clb M8 (hc:=O9 (m:=k) (E8 (hM.ext pP) hB (ht.ext pP)) (by rw[if_pos hv];exact hl)) (hk:=?_);rintro _ _ Am ⟨O,E,A2,rfl,Ao,Ab⟩;have Af:=Am.2;have Ap:=ab2 Ab;refine I ?_;exact am (t:=2) (v:=.slice O k E) Z Af ⟨O,E,A2,rfl,Ao,(Ap).mt⟩ Z
def pR :
 CL 95 #[.agg #[.slice A n C,.slice Y ny CY,.slice B nb CB]] w (aG w λv w'=>v=.int .i64 n):=by
 refine aC func95 Z (I ?_);refine bx (λ_ E _=>?_);have O:=E.2;refine I ?_;exact am (t:=2) (v:=.int .i64 n) Z O Z Z
def Lb {L:Rows}(hM:Mt w lo A n H L)(hn:0<n):
 CL 96 #[.agg #[.slice A n C,.slice Y ny CY,.slice B nb CB]] w (aG w λv w'=>v=.int .i64 (((L 0).length:Nat):Int)):=by
 refine aC func96 Z (I ?_);refine bx (λ_ O _=>?_);have E:=O.2;have A2:=ab1 (hM.ext E) (i:=0) U;refine I ?_;refine gN A2 ?_ (i:=0);refine I ?_;exact am (t:=2) (v:=.int .i64 (((L 0).length:Nat):Int)) Z E Z Z
def lG {b:List R}(hb:Rw w lo A (ag b))(hbl:b.length*32<=140737488355328):
 CL 61 #[.slice A b.length C] w (aG w λv w'=>dy w.heap.size w' v b.length (bA b)):=by
 refine aC func61 Z (I ?_);have E7:World.ownsRow w w.heap.size 28 1 (.slice none 0 0) 0 []:=bK;have C1:Wr w w.heap.size w.heap.size 0 (λ_=>.nilIface) (bA b):=Wr.nil;have CG:=aa4 w;refine cg [(2,2),(4,4),(7,16)] (λEW e W=>∃i:Nat,∃H2:Nat->Value,∃Af:Value,(b.length-i=EW)/\(e 7=.int .i64 i)/\(e 2=Af)/\(i<=b.length)/\(∀zz,zz<i->az Af (H2 zz))/\(w.heap.size<=W.heap.size)/\(aO w W)/\(W.ownsRow w.heap.size 28 1 Af i ((List.range i).map H2))/\(Wr W w.heap.size W.heap.size i H2 (bA b))) (b.length-0) ⟨0,(λ_=>.nilIface),.slice none 0 0,rfl,rfl,rfl,(qa7 _),(λj B2=>by omega),(qa0 _),CG,E7,C1⟩ ?_;rintro _ _ _ ⟨i,H2,Af,rfl,KC,Az,hi_i,B1,H3,E,A2,O⟩;have K2:=bz E;by_cases hli:i<b.length;have E5:=bD (hb.ext E) (k:=(i)) U;refine I ?_;refine mu E5 (I ?_);refine al aS (λ_ Ax G0=>?_);have E9:=bc A2;have A2:=ab Ax.2 A2;have O:=aa2 Ax.2 O;have E:=xt E Ax.2;refine SA G0 (λAb Ar Aq=>?_);have A2:=ax Ar E9 A2;have O:=ab8 Ar U O;have E:=bi Ar E;have K3:=iM Ar;refine I ?_;refine aa (aW (v:=Af) Az ?_);refine I ?_;have nm:=dI A2;refine BS (λod Aw _ E0=>?_);have H4:=bc A2;have A2:=ab Aw A2;have O:=aa2 Aw O;have⟨Aq,E⟩:=bn Aw Aq E
 have Am:World.ownsRow od Ab.heap.size 33 2 (.slice (some ⟨Ab.heap.size,0,none⟩) 1 1) [ar b i].length (ag [ar b i]):=aM E0 Z Z;refine BS (λ_ Ao _ E6=>?_);have A2:=ab Ao A2;have O:=aa2 Ao O;have Aq:=be Ao Aq;have Am:=ab Ao Am;have E:=xt E Ao;refine AP A2 (aa8 E6) (λAv E1 FR As Ay=>?_);have wr:∀Ap,Ap<i->az Av (H2 Ap):=λAp hi=>aa9 Ay (B1 Ap hi) (Wr.own O Ap hi);have O:=ac8 As B1 O;have E4:=aa9 Ay (aa6 (λg h1 h2=>by cases h1;have h3:Ab.heap.size<_:=nm _ h2;omega)) Am;have Am:=ab3 (aa6 (λg h1 h2=>by cases h1;have h3:Ab.heap.size<_:=nm _ h2;omega)) As Am;have E:=bm A2 U U E As;have Ix:=As.size;refine aa (aK (v:=Av) Z ?_);refine I ?_;refine gP (I ?_);have ES:World.ownsRow E1 Ab.heap.size 33 2 (.slice (some ⟨Ab.heap.size,0,none⟩) 1 1) ((bA b) i).length (ag ((bA b) i)):=aM Am Z Z;have Cr:=ck (lo':=w.heap.size) U ES;have GC:∀zz,zz<i->az (.slice (some ⟨Ab.heap.size,0,none⟩) 1 1) (H2 zz):=Wr.far O Am U;refine I ?_;exact bI ⟨i+1,bT H2 i (.slice (some ⟨Ab.heap.size,0,none⟩) 1 1),Av,rfl,rfl,rfl,U,(λj B2=>dW wr E4 j B2),U,E,(aM FR Z (eL H2 i (.slice (some ⟨Ab.heap.size,0,none⟩) 1 1)).symm),(by have h:=Wr.push O Cr GC;rwa [pF]at h)⟩
 refine I ?_;refine aa (aW (v:=Af) Az ?_);refine aa (aK (v:=Af) Z ?_);refine I ?_;exact am (t:=2) (v:=Af) Z E (by have h:=pH A2 O;rw[show i=b.length by omega]at h;exact h.mono U) Z
end
end Go.Proofs.YtlmihmlnpjkblaaGreatDoor
namespace La
variable {k n i j s:Nat}
abbrev Mx:=Nat->Nat->Rat
def sm:Nat->(Nat->Rat)->Rat
 |0,_=>0
 |n+1,f=>sm n f+f n
def au {f g:Nat->Rat}:∀{n:Nat},(∀i,i<n->f i=g i)->sm n f=sm n g
 |0,_=>rfl
 |n+1,h=>by unfold sm;rw[au (λi hi=>h i J),h n J]
def dO:∀{n:Nat} {f:Nat->Rat},(∀i,i<n->f i=0)->sm n f=0
 |0,_,_=>rfl
 |n+1,f,h=>by unfold sm;rw[dO (λi hi=>h i J),h n J];grind
def lH (f g:Nat->Rat):∀n,sm n (λi=>f i+g i)=sm n f+sm n g
 |0=>by simp only[sm];grind
 |n+1=>by simp only[sm];rw[lH f g n];grind
def dm (c:Rat)(f:Nat->Rat):∀n,sm n (λi=>c*f i)=c*sm n f
 |0=>by simp only[sm];grind
 |n+1=>by simp only[sm];rw[dm c f n];grind
def nd (c:Rat)(f:Nat->Rat)(n:Nat):sm n (λi=>f i*c)=sm n f*c:=by
 rw[Rat.mul_comm,<-dm];exact au λi _=>qb7 _ _
def ot (f g:Nat->Rat):∀n,sm n (λi=>f i-g i)=sm n f-sm n g
 |0=>by simp only[sm];grind
 |n+1=>by simp only[sm];rw[ot f g n];grind
def iO (f:Nat->Nat->Rat)(m:Nat):∀n,sm n (λi=>sm m (λj=>f i j))=sm m (λj=>sm n (λi=>f i j))
 |0=>by simp only[sm];exact(dO λ_ _=>rfl).symm
 |n+1=>by simp only[sm];rw[iO f m n,<-lH]
def iF {f:Nat->Rat}:∀{n:Nat},k<n->(∀i,i<n->i≠k->f i=0)->sm n f=f k
 | n+1,hk,h=>by
   unfold sm
   by_cases e:k=n
   · subst e;rw[dO (λi hi=>h i J J)];grind
   · rw[iF J (λi hi hne=>h i J hne),h n J J];grind
def uL (f:Nat->Rat)(a:Nat):∀b,sm (a+b) f=sm a f+sm b (λi=>f (a+i))
 |0=>by simp only[sm];grind
 | b+1=>by
   show sm (a+b) f+f (a+b)=sm a f+(sm b (λi=>f (a+i))+f (a+b))
   rw[uL f a b];grind
def sk (k i:Nat):Nat:=if i<k then i else i+1
def yu (f:Nat->Rat)(k:Nat):∀n,k<=n->sm (n+1) f=f k+sm n (λi=>f (sk k i))
 | 0,h=>by
   have:k=0:=J
   subst this;simp only[sm];grind
 | n +1,h=>by
   rw[show sm (n+1+1) f=sm (n+1) f+f (n+1)from rfl]
   by_cases e:k=n+1
   · subst e
     rw[au (g:=λi=>f (sk (n+1) i)) (n:=n+1) (λi hi=>by simp[sk,hi])]
     grind
   · rw[yu f k n J]
     show _=f k+(sm n (λi=>f (sk k i))+f (sk k n))
     rw[show sk k n=n+1 by unfold sk;rw[if_neg J]]
     grind
def mul (k:Nat)(A B:Mx):Mx:=λi j=>sm k (λl=>A i l*B l j)
def one:Mx:=λi j=>if i=j then 1 else 0
def tr (A:Mx):Mx:=λi j=>A j i
def jV (n m:Nat)(A B:Mx):Prop:=∀i,i<n->∀j,j<m->A i j=B i j
def mul_assoc (a b:Nat)(A B C:Mx)(i j:Nat):mul b (mul a A B) C i j=mul a A (mul b B C) i j:=by
 unfold mul
 rw[au (g:=λl=>sm a (λk=>A i k*B k l*C l j)) (λl _=>by rw[<-nd]),iO]
 exact au λl _=>by rw[<-dm];exact au λk _=>by grind
def mul_one {A:Mx}(h:j<n):mul n A one i j=A i j:=by
 unfold mul one
 rw[iF h (λl _ hl=>by rw[if_neg hl];grind)]
 simp
def one_mul {A:Mx}(h:i<n):mul n one A i j=A i j:=by
 unfold mul one
 rw[iF h (λl _ hl=>by rw[if_neg (λe=>hl e.symm)];grind)]
 simp
def eu {A A' B B':Mx}(h:∀l,l<k->A i l=A' i l)(h':∀l,l<k->B l j=B' l j):mul k A B i j=mul k A' B' i j:=
 au λl hl=>by rw[h l hl,h' l hl]
def uN (k:Nat)(A B:Mx)(i j:Nat):mul k A B j i=mul k (tr B) (tr A) i j:=au λ_ _=>qb7 _ _
def ker (s:Nat):∀(r:Nat) (Y:Mx),s<r->∃v:Nat->Rat,(∃j,j<r/\v j≠0)/\∀i,i<s->sm r (λj=>Y i j*v j)=0:=by
 induction s with
 | zero=>
   intro r Y h
   exact⟨λ_=>1,⟨0,h,by simp⟩,λi hi=>absurd hi J⟩
 | succ s ih=>
   intro r Y h
   by_cases O:∀j,j<r->Y s j=0
   · obtain⟨v,hv,h2⟩:=ih r Y J
     refine⟨v,hv,λi hi=>?_⟩
     by_cases e:i=s
     · subst e;exact dO λj A2=>by rw[O j A2];grind
     · exact h2 i J
   · have O:∃j,j<r/\Y s j≠0:=by
      refine qb6 λAf=>O λj A2=>qb6 λh=>Af ⟨j,A2,h⟩
     obtain⟨E,Ap,Ar⟩:=O
     obtain⟨r,rfl⟩:∃r',r=r'+1:=⟨r-1,by omega⟩
     obtain⟨v,⟨Ao,Aq,hv⟩,h2⟩:=ih r (λi j=>Y i (sk E j)-Y i E/Y s E*Y s (sk E j)) J
     let t:=sm r (λj=>Y s (sk E j)*v j)
     let w:Nat->Rat:=λj=>if j=E then-(t/Y s E)else v (if j<E then j else j-1)
     have Am:w E= -(t/Y s E):=by simp[w]
     have Ab:∀j,w (sk E j)=v j:=by
      intro j
      show(if sk E j=E then _ else _)=_
      unfold sk
      split
      · rename_i h;simp;omega
      · rename_i h;rw[if_neg J,if_neg J];rfl
     refine⟨w,⟨sk E Ao,by unfold sk;split <;>omega,by rw[Ab];exact hv⟩,λi hi=>?_⟩
     rw[yu _ E r J,Am,au (g:=λj=>Y i (sk E j)*v j) (λj _=>by rw[Ab])]
     by_cases e:i=s
     · subst e
       show Y i E*-(t/Y i E)+t=0
       grind
     · have h3:=h2 i J
       rw[au (g:=λj=>Y i (sk E j)*v j-Y i E/Y s E*(Y s (sk E j)*v j)) (λj _=>by grind),ot,dm]at h3
       show Y i E*-(t/Y s E)+_=0
       have h4:sm r (λj=>Y i (sk E j)*v j)-Y i E/Y s E*t=0:=h3
       grind
def Lc {r:Nat}{X Y:Mx}(h:jV r r (mul s X Y) one):r<=s:=by
 refine Nat.le_of_not_lt λhlt=>?_
 obtain⟨v,⟨j,E,A2⟩,h2⟩:=ker s r Y hlt
 refine A2 ?_
 have:sm r (λl=>mul s X Y j l*v l)=v j:=by
  rw[iF E (λl hl O=>by rw[h j E l hl];unfold one;rw[if_neg (λe=>O e.symm)];grind)]
  rw[h j E j E];simp[one]
 rw[<-this]
 unfold mul
 rw[au (g:=λl=>sm s (λk=>X j k*(Y k l*v l))) (λl _=>by rw[<-nd];exact au λk _=>by grind),iO]
 exact dO λk hk=>by rw[dm,h2 k hk];grind
structure Xw (n m r:Nat)(A C F CL FR:Mx):Prop where
 eq:jV n m A (mul r C F)
 cl:jV r r (mul n CL C) one
 fr:jV r r (mul m F FR) one
def Rk (n m r:Nat)(A:Mx):Prop:=∃C F CL FR,Xw n m r A C F CL FR
def Xw.mid {m r:Nat}{A C F CL FR X Y k3 V:Mx}(h:Xw n m r A C F CL FR)(hA:jV n m A (mul s X Y))(_:k3=mul n CL X)(_:V=mul m Y FR):jV r r (mul s k3 V) one:=by
 intro i hi j E
 subst k3 V
 have h1:mul m (mul n CL A) FR i j=mul m (mul n CL (mul r C F)) FR i j:=
  eu (λl hl=>eu (λ_ _=>rfl) (λk hk=>h.eq k hk l hl)) (λ_ _=>rfl)
 have h2:mul m (mul n CL A) FR i j=mul m (mul n CL (mul s X Y)) FR i j:=
  eu (λl hl=>eu (λ_ _=>rfl) (λk hk=>hA k hk l hl)) (λ_ _=>rfl)
 have h3:mul m (mul n CL (mul r C F)) FR i j=one i j:=by
  rw[eu (A':=mul r (mul n CL C) F) (B':=FR) (λl _=>(mul_assoc _ _ _ _ _ _ _).symm) (λ_ _=>rfl)]
  rw[eu (A':=F) (B':=FR) (λl _=>by
   rw[eu (A':=one) (B':=F) (λk hk=>h.cl i hi k hk) (λ_ _=>rfl)];exact one_mul hi) (λ_ _=>rfl)]
  exact h.fr i hi j E
 rw[<-h3,<-h1,h2]
 rw[eu (A':=mul s (mul n CL X) Y) (B':=FR) (λl _=>(mul_assoc _ _ _ _ _ _ _).symm) (λ_ _=>rfl)]
 exact(mul_assoc _ _ _ _ _ _ _).symm
def Xw.le {m r:Nat}{A C F CL FR X Y:Mx}(h:Xw n m r A C F CL FR)(hA:jV n m A (mul s X Y)):r<=s:=Lc (h.mid hA Z Z)
def Rk.tr {m r:Nat}{A:Mx}(h:Rk n m r A):Rk m n r (tr A):=by
 obtain⟨C,F,CL,FR,h⟩:=h
 refine⟨La.tr F,La.tr C,La.tr FR,La.tr CL,⟨λi hi j E=>?_,λi hi j E=>?_,λi hi j E=>?_⟩⟩
 · show A j i=_;rw[h.eq j E i hi,uN]
 · rw[<-uN,h.fr j E i hi];unfold one;simp only[eq_comm]
 · rw[<-uN,h.cl j E i hi];unfold one;simp only[eq_comm]
def Rk.le_n {m r:Nat}{A:Mx}(h:Rk n m r A):r<=n:=by
 obtain⟨C,F,_,_,h⟩:=h
 exact Lc h.cl
def Rk.le_m {m r:Nat}{A:Mx}(h:Rk n m r A):r<=m:=h.tr.le_n
def Rk.mul_r {m q t:Nat}{A B:Mx}(hB:Rk k m q B)(hT:Rk n m t (mul k A B)):t<=q:=by
 obtain⟨C,F,_,_,h⟩:=hB
 obtain⟨_,_,_,_,O⟩:=hT
 exact O.le (X:=mul k A C) (Y:=F) λi _ j E=>by
  rw[eu (A':=A) (B':=mul q C F) (λ_ _=>rfl) (λl hl=>h.eq l hl j E)];exact(mul_assoc _ _ _ _ _ _ _).symm
end La
