/- Part of the proof of a statement about an adjustment. -/
import Derived.Test.YtlmihmlnpjkblaaGreatDoorLin6ToLin10X
set_option linter.all false
namespace Go.Proofs.YtlmihmlnpjkblaaGreatDoor
variable {cs:List Value}{lo n k off ft D C lo2 b1 b2 l0' l1' n0 n1 c0 c1 i b j a f h ny CY nb CB:Nat}{H G:Nat->Value}{A B A0 A1 Y:Option Addr}{w W:World}
section
set_option maxRecDepth 100000
open Go Go.Eng Go.RowKit Tryz
attribute [local irreducible] wpListIn Code.wpIn Oper.wpIn Exit.then Exit.inBlock Exit.noGoto
set_option maxHeartbeats 40000000
def Fl {m:Nat}{L K:Rows}{v:Value}(h:vM n L=true/\vM m K=true/\(L 0).length=m)(ho:nh lo w n (AC n (K 0).length L K) v):nh lo w n (dp n L m K) v:=by unfold dp;rw[if_pos h];exact ho
def Dl {m:Nat}{L K:Rows}(h:¬(vM n L=true/\vM m K=true/\(L 0).length=m)):nh lo w n (dp n L m K) (.tuple #[.slice none 0 0,.int .i64 130]):=by unfold dp;rw[if_neg h];rfl
def rK (n:Nat)(L:Rows):Option Nat:=(elim n (L 0).length (L 0).length L).map λs=>s.piv.length
def lG (n:Nat)(L:Rows):Option R:=(elim n n n L).bind (ox n)
section
variable {L:Rows}{s:El}{d:R}
def Dm (h:elim n (L 0).length (L 0).length L=some s):rK n L=some s.piv.length:=by unfold rK;rw[h];rfl
def Dn (h:elim n (L 0).length (L 0).length L=none):rK n L=none:=by unfold rK;rw[h];rfl
def O5 (h:vM n L=true):GY (rK n L)=GY (ke n L):=by unfold ke;rw[if_pos h];rfl
def G9 (h:elim n n n L=none):lG n L=none:=by unfold lG;rw[h];rfl
def Ha (h:elim n n n L=some s)(hp:s.piv.length<n):lG n L=some z0:=by unfold lG;rw[h];show ox n s=_;unfold ox;rw[if_pos hp]
def O6 (h:elim n n n L=some s)(hp:¬s.piv.length<n)(hq:im s.piv s.piv.length 0 o1=none):lG n L=none:=by unfold lG;rw[h];show ox n s=_;unfold ox;rw[if_neg hp,hq];rfl
def O7 (h:elim n n n L=some s)(hp:¬s.piv.length<n)(hq:im s.piv s.piv.length 0 o1=some d)(hs:¬s.sw%2=1):lG n L=some d:=by unfold lG;rw[h];show ox n s=_;unfold ox;rw[if_neg hp,hq];simp only[Option.map_some];rw[if_neg hs]
def O8 (h:elim n n n L=some s)(hp:¬s.piv.length<n)(hq:im s.piv s.piv.length 0 o1=some d)(hs:s.sw%2=1):lG n L=some (so d):=by unfold lG;rw[h];show ox n s=_;unfold ox;rw[if_neg hp,hq];simp only[Option.map_some];rw[if_pos hs]
def Uq (h:vH n L=true):Kw (lG n L)=Kw (kT n L):=by unfold kT;rw[if_pos h];rfl
end
section
variable {P:Program}{r:Option Nat}{N:Nat}{e:Nat->Value}{ds:List Deferred}{Q:Exit->Act->World->Prop}{K:Act->World->Prop}
variable {d ty:Nat}{pos:String}{af:Array Edge}{g:Option (Nat×Bool)}{v u:Value}{x y:Operand}{t t':TypeId}
def O9 {fs:Array Field}{f:Field}{D:TypeDesc}(hu:P.underlying t=some (.struct fs))(hf:fs[k]?=some f)(ho:f.offset=off)(hft:f.type=ft)(hD:P.underlying ft=some D)(hd:D.isRow=false)(hx:ev N e x=.agg cs.toArray)(hv:cs[off]?=some v)(hk:K (act N (upd e d v) ds) w):Oper.wpIn (Fw r) n P ⟨some d,.field t x k,ty,pos,af,g⟩ (act N e ds) w K Q:=by
 subst ho hft
 refine cJ (v:=v) (w':=w) Z ?_ KK
 have E:(isAgg f.type).run P w=.ok false w:=by
  unfold isAgg
  rw[Sem.run_bind,run_underlying hD w]
  cases D <;>simp_all
 have hv':cs.toArray[f.offset]?=some v:=by rw[List.getElem?_toArray];exact hv
 simp[execOp,hx,Instr.field,run_underlying hu,hf,asAgg,part,E,hv]
end
set_option maxHeartbeats 2000000 in
def Fo {L:Rows}(hM:Mt w lo A n H L){m:Nat}{K:Rows}(hN:Mt w lo2 B m G K)(hb1:ao w b1 27 #[.slice A n C])(hb2:ao w b2 27 #[.slice B m D])(hv:VM n L)(hu:VM m K)(hLm:(L 0).length=m)(ht:Tb w):
 CL 72 #[pT b1,pT b2] w (iv PN w (AC n (K 0).length L K) (λK' v w'=>dy w.heap.size w' v n K')):=by
 refine gN func72 Z (I ?_);rcases cm:AC n (K 0).length L K with _|cw;refine I ?_;refine aa (gZ (v:=.agg #[]) lT Z Z ?_);refine I ?_;refine aa (c7 (vs:=[.slice A n C,.iface 106 (.agg #[]),.slice B m D]) VX Z (ad5 cm (wQ (hM.ext (aa1 _)) (hN.ext (aa1 _)) hv hu hLm (ht.ext (aa1 _)))) (λ_ O=>?_));have Af:=O;refine I ?_;exact fj ⟨Af,(by first|exact cm|rfl),rfl⟩;refine I ?_;refine aa (gZ (v:=.agg #[]) lT Z Z ?_);refine I ?_;refine cl VX (ad2 cm (wQ (hM.ext (aa1 _)) (hN.ext (aa1 _)) hv hu hLm (ht.ext (aa1 _)))) ?_;rintro E _ Am Ab;have A2:=Am.2;refine aa (aL (v:=E) Z ?_);refine I ?_;exact ll (v:=E) (bY Z (aM (t:=2) WD _)) ⟨A2,cw,(by first|assumption|rfl),dy.mono U Ab⟩
def yr {L:Rows}(hM:Mt w lo A n H L)(hB:Bd n L){m:Nat}{K:Rows}(hN:Mt w lo2 B m G K)(hB2:Bd m K)(ht:Tb w):
 CL 28 #[.slice A n C,.slice B m D] w (aI w λv w'=>nh w.heap.size w' n (dp n L m K) v):=by
 refine aE func28 Z (I ?_);refine bx (λAb B0 O=>?_);have E:=B0.2;refine bx (λ_ E1 A2=>?_);have⟨O,E⟩:=bn E1.2 O E;refine I ?_;rcases qa4 (vM n L)with cw|cw;have hv:=iG cw;have ES:=hv.1;have EW:=hv.2.1;rcases qa4 (vM m K)with cv|cv;have hu:=iG cv;refine bH 15 ?_;refine sf ?_;refine aR (V:=.bool (vM n L)) (λ_ _ As _=>?_) ?_;refine cl r7 (val_ok (hM.ext (xt E As)) hB (ht.ext (xt E As))) ?_;rintro _ _ CG rfl;have E0:=CG.2;refine I ?_;exact fs ⟨E0,rfl⟩;refine sf ?_;refine aR (V:=.bool (vM m K)) (λ_ _ Am _=>?_) ?_;refine I ?_;refine cl r7 (val_ok (hN.ext (xt E Am)) hB2 (ht.ext (xt E Am))) ?_;rintro _ _ Aw rfl;have D2:=Aw.2;refine I ?_;exact fs ⟨D2,rfl⟩;refine sf ?_;refine aB (λ_ _ Cr _=>by have B1:=ab2 (hM.ext (xt E Cr)) (i:=0) U;refine I ?_;refine gR B1 ?_ (i:=0);refine I ?_;exact aG) ?_;refine aB (λ_ _ nm _=>by have E9:=ab2 (hM.ext (xt E nm)) (i:=0) U;refine I ?_;exact aG) ?_;refine sf ?_;intro _ _ C1 _;have⟨O,A2,E⟩:=cj C1.2 O A2 E;with_reducible refine ix Z ?_
 refine I ?_;by_cases aoo:(((L 0).length:Nat):Int)=(m:Int);refine I ?_;rcases fy:AC n (K 0).length L K with _|aq7;refine I ?_;refine aa (aF (vf:=[]) (vc:=[pT w.heap.size,pT Ab.heap.size]) Z Z ?_);refine clb VU (hc:=Fh (lb:=[pT w.heap.size,pT Ab.heap.size]) (n:=n) VV (λW hE=>Fo ((hM.ext E).ext hE) ((hN.ext E).ext hE) (O.ext hE) (A2.ext hE) hv hu U (ht.ext (xt E hE)))) (hk:=?_);rintro _ _ Az Ap;have E:=xt E Az.2;rw[fy]at Ap;subst Ap;refine I ?_;exact bw (t:=4) (u:=5) (v1:=.slice none 0 0) (v2:=.int .i64 130) Z E (Fl ⟨cw,cv,by omega⟩ (by rw[fy];exact Z)) Z Z;refine I ?_;refine aa (aF (vf:=[]) (vc:=[pT w.heap.size,pT Ab.heap.size]) Z Z ?_);refine clb VU (hc:=Fh (lb:=[pT w.heap.size,pT Ab.heap.size]) (n:=n) VV (λW hE=>Fo ((hM.ext E).ext hE) ((hN.ext E).ext hE) (O.ext hE) (A2.ext hE) hv hu U (ht.ext (xt E hE)))) (hk:=?_);rintro _ _ E4 Ar;have E:=xt E E4.2;rw[fy]at Ar;obtain⟨Ao,rfl,Ax⟩:=Ar;refine I ?_;refine aa (aL (v:=Ao) Z ?_);refine I ?_;exact bw (t:=4) (u:=5) (v1:=Ao) (v2:=.int .i64 0) Z E (Fl ⟨cw,cv,by omega⟩ (by rw[fy];exact⟨_,rfl,dy.mono U Ax⟩)) Z Z
 refine I ?_;exact bw (t:=4) (u:=5) (v1:=.slice none 0 0) (v2:=.int .i64 130) Z E (Dl kb7) rfl rfl;refine bH 15 ?_;refine sf ?_;refine aR (V:=.bool (vM n L)) (λ_ _ Af _=>?_) ?_;refine cl r7 (val_ok (hM.ext (xt E Af)) hB (ht.ext (xt E Af))) ?_;rintro _ _ ny rfl;have Ay:=ny.2;refine I ?_;exact fs ⟨Ay,rfl⟩;refine sf ?_;refine aR (V:=.bool (vM m K)) (λ_ _ Aq _=>?_) ?_;refine I ?_;refine cl r7 (val_ok (hN.ext (xt E Aq)) hB2 (ht.ext (xt E Aq))) ?_;rintro _ _ od rfl;have E6:=od.2;refine I ?_;exact fs ⟨E6,rfl⟩;refine sf ?_;intro _ _ D1 _;have E:=xt E D1.2;(with_reducible refine ix Z ?_);refine I ?_;exact bw (t:=4) (u:=5) (v1:=.slice none 0 0) (v2:=.int .i64 130) Z E (Dl kb7) rfl rfl;refine bH 15 ?_;refine sf ?_;refine aR (V:=.bool (vM n L)) (λ_ _ Av _=>?_) ?_;refine cl r7 (val_ok (hM.ext (xt E Av)) hB (ht.ext (xt E Av))) ?_;rintro _ _ B2 rfl;have E7:=B2.2;refine I ?_;exact fs ⟨E7,rfl⟩;refine sf ?_;intro _ _ E5 _;have E:=xt E E5.2;(with_reducible refine ix Z ?_);refine I ?_;exact bw (t:=4) (u:=5) (v1:=.slice none 0 0) (v2:=.int .i64 130) Z E (Dl kb7) Z Z
set_option maxHeartbeats 2000000 in
def KW {L:Rows}(hM:Mt w lo A n H L)(hv:VM n L)(hb1:ao w b1 27 #[.slice A n C])(ht:Tb w):
 CL 56 #[pT b1] w (iv PN w (rK n L) (λk v _=>v=.int .i64 k)):=by
 have A2:=hv.ok;have D2:=hv.1;have E0:=hv.2.1;have D1:=hv.2.2.2.1;refine gN func56 Z (I ?_);rcases cm:elim n ((L 0).length) ((L 0).length) L with _|cf;refine bH 7 ?_;refine sf ?_;refine aB (λ_ _ _ _=>by refine aa (gZ (v:=.agg #[]) lT Z Z ?_);refine I ?_;exact aG) ?_;refine sf ?_;refine aB (λ_ _ Ao _=>by have Av:=ab2 (hM.ext Ao) (i:=0) U;refine I ?_;refine gR Av ?_ (i:=0);refine I ?_;exact aG) ?_;refine aB (λ_ _ Ax _=>by have Cr:=ab2 (hM.ext Ax) (i:=0) U;refine I ?_;exact aG) ?_;refine sf ?_;intro _ _ Am _;have O:=Am.2;refine aa (c7 (vs:=[.slice A n C,.iface 106 (.agg #[]),.int .i64 (((L 0).length:Nat):Int)]) Gg Z (ad5 cm (m8 (ad8 (qa7 _) (hM.ext O)) A2 U U U U (ht.ext O))) (λ_ Aq=>?_));have O:=xt O Aq;refine I ?_;exact fj ⟨O,Dn cm,rfl⟩;refine bH 7 ?_;refine sf ?_;refine aB (λ_ _ _ _=>by refine aa (gZ (v:=.agg #[]) lT Z Z ?_);refine I ?_;exact aG) ?_;refine sf ?_;refine aB (λ_ _ B1 _=>by have Ay:=ab2 (hM.ext B1) (i:=0) U;refine I ?_;refine gR Ay ?_ (i:=0);refine I ?_;exact aG) ?_;refine aB (λ_ _ Az _=>by have C1:=ab2 (hM.ext Az) (i:=0) U;refine I ?_;exact aG) ?_
 refine sf ?_;intro _ _ Ap _;have E:=Ap.2;refine clb Gg (hc:=ad2 cm (m8 (ad8 (qa7 _) (hM.ext E)) A2 U U U U (ht.ext E))) (hk:=?_);rintro _ _ Ar B2;have E:=xt E Ar.2;obtain⟨B0,As,_,Af,Ab,wr,Aw,rfl,_,_,_,_⟩:=vI.get B2;have CG:=mG A2 U cm;refine aa (O9 (cs:=[.slice B0 n As,.slice Af cf.piv.length Ab,.slice wr cf.cols.length Aw,.bool (decide (cf.sw%2=1))]) (v:=.slice Af cf.piv.length Ab) VC Z Z Z sE Z Z Z ?_);refine I ?_;exact ll (v:=.int .i64 ((cf.piv.length:Nat):Int)) (bY Z (aM (t:=1) WD _)) ⟨E,_,Dm cm,rfl⟩
def KX {L:Rows}(hM:Mt w lo A n H L)(hB:Bd n L)(ht:Tb w):
 CL 23 #[.slice A n C] w (aI w λv w'=>v=GY (ke n L)):=by
 refine aE func23 Z (I ?_);refine bx (λ_ A2 O=>?_);have E:=A2.2;refine I ?_;refine cl r7 (val_ok (hM.ext E) hB (ht.ext E)) ?_;rintro _ _ Ab rfl;have⟨O,E⟩:=bn Ab.2 O E;refine I ?_;rcases qa4 (vM n L)with cr|cr;have hv:=iG cr;refine I ?_;refine aa (aF (vf:=[]) (vc:=[pT w.heap.size]) Z Z ?_);refine cl YN (OV (lb:=[pT w.heap.size]) YO (λW hE=>KW ((hM.ext E).ext hE) hv (O.ext hE) (ht.ext (xt E hE)))) ?_;rintro _ _ Af rfl;have E:=xt E Af.2;refine I ?_;exact bw (t:=2) (u:=3) (v1:=.int .i64 (((rK n L).getD 0:Nat):Int)) (v2:=.int .i64 (Ro (rK n L).isSome)) Z E (O5 cr) Z Z;refine I ?_;exact bw (t:=2) (u:=3) (v1:=.int .i64 0) (v2:=.int .i64 130) Z E (OY cr) Z Z
set_option maxHeartbeats 2000000 in
def Fp {L:Rows}(hM:Mt w lo A n H L)(hv:VM n L)(hn0:n=(L 0).length)(ht:Tb w):
 CL 176 #[.slice A n C,.iface 106 (.agg #[])] w (iv PN w (lG n L) (λd v _=>v=.agg #[S d.1,S d.2])):=by
 have B0:=hv.ok;have No:=hv.1;have Ne:=hv.2.1;rw[<-hn0]at B0;have E0:=aa1 w;refine gN func176 Z (I ?_);refine al aY (λB2 KC E=>?_);have E0:=xt E0 KC.2;refine I ?_;rcases lr:elim n n n L with _|cx;refine I ?_;refine aa (c7 (vs:=[.slice A n C,.iface 106 (.agg #[]),.int .i64 n]) Gg Z (ad5 lr (m8 (ad8 (qa7 _) (hM.ext E0)) B0 U U U U (ht.ext E0))) (λ_ K2=>?_));have E0:=xt E0 K2;refine I ?_;exact fj ⟨E0,(G9 lr),rfl⟩;refine I ?_;refine clb Gg (hc:=ad2 lr (m8 (ad8 (qa7 _) (hM.ext E0)) B0 U U U U (ht.ext E0))) (hk:=?_);rintro _ Az KY FR;have⟨E,E0⟩:=bn KY.2 E E0;obtain⟨E1,E7,L1,D1,K3,E5,KM,rfl,_,L3,H3,Ix⟩:=vI.get FR;have Am:=ab1 L3;have Ab:=ab5 H3;have Af:=ab5 Ix;have P2:=mG B0 U lr;refine al tq (λ_ Aq H2=>?_);have E:=be Aq.2 E;have Am:=aa5 Aq.2 Am;have Ab:=aa9 Aq.2 Ab;have Af:=aa9 Aq.2 Af;have E0:=xt E0 Aq.2;refine SA H2 (λ_ Ap O=>?_);have E:=pb Ap E;have Am:=ac5 Ap U Am;have Ab:=ab9 Ap U Ab
 have Af:=ab9 Ap U Af;have E0:=bh Ap E0;have P0:=iQ Ap;refine I ?_;by_cases ao3:((cx.piv.length:Nat):Int)<(n:Int);refine I ?_;refine aa (CH (t:=106) (v:=.agg #[]) (vs:=[]) BL kQ lT Z Z Z (lD _) ?_);rintro _ _ wr rfl;have⟨E,O,E0⟩:=cj wr.2 E O E0;refine SA E (λ_ C1 La=>?_);have O:=pb C1 O;have E0:=bh C1 E0;refine I ?_;refine ll (v:=.agg #[S ((z0).1),S ((z0).2)]) (bY Z ?_) ⟨E0,_,Ha lr U,rfl⟩;refine ai (t:=4) (cs:=[S ((z0).1),S ((z0).2)]) (b:=w.heap.size) (o:=0) iO Z bV ?_ ?_;exact Z;exact aa0 La (i:=0) Z;refine I ?_;refine aa (CH (t:=106) (v:=.agg #[]) (vs:=[]) QI EV lT Z Z Z (J6 _) ?_);rintro _ EW Ar rfl;have E:=be Ar.2 E;have Am:=aa5 Ar.2 Am;have Ab:=aa9 Ar.2 Ab;have Af:=aa9 Ar.2 Af;have⟨O,E0⟩:=bn Ar.2 O E0;refine al aY (λ_ As Lj=>?_);have E:=be As.2 E;have Am:=aa5 As.2 Am;have Ab:=aa9 As.2 Ab;have Af:=aa9 As.2 Af;have⟨O,E0⟩:=bn As.2 O E0;refine SA Lj (λKp Ay Ao=>?_);have E:=pb Ay E;have Am:=ac5 Ay U Am;have Ab:=ab9 Ay U Ab;have Af:=ab9 Ay U Af;have⟨O,E0,_⟩:=ku Ay O E0;refine I ?_
 refine cg [(8,8),(27,35)] (λGC e W=>∃i:Nat,∃d:R,(cx.piv.length-i=GC)/\(e 27=.int .i64 i)/\(i<=cx.piv.length)/\(bL d=true)/\(im cx.piv (cx.piv.length-i) i d=im cx.piv cx.piv.length 0 o1)/\(Kp.heap.size<=W.heap.size)/\(aP w W)/\(ao W w.heap.size 33 #[S [],S []])/\(nH W B2.heap.size Az.heap.size E1 n L1 cx.L)/\(ni W B2.heap.size Az.heap.size D1 (ag cx.piv))/\(ni W B2.heap.size Az.heap.size E5 (ints cx.cols))/\(ao W Az.heap.size 103 #[.slice E1 n E7,.slice D1 cx.piv.length K3,.slice E5 cx.cols.length KM,.bool (decide (cx.sw%2=1))])/\(ao W EW.heap.size 33 #[S d.1,S d.2])) (cx.piv.length-0) ⟨0,o1,rfl,rfl,(qa7 _),YC,rfl,(qa0 _),E0,E,Am,Ab,Af,O,Ao⟩ ?_;rintro _ _ _ ⟨i,d,rfl,Lk,hi_i,hd,hP,P1,A2,E,Am,Ab,Af,O,Ao⟩;have N0:=bz A2;by_cases hl_i:i<cx.piv.length;have ES:=bA (Ab).rw (k:=(i)) U;refine I ?_;refine lU ES (I ?_);refine al aY (λ_ Aw H4=>?_);have E:=be Aw.2 E;have Am:=aa5 Aw.2 Am;have Ab:=aa9 Aw.2 Ab;have Af:=aa9 Aw.2 Af;have⟨O,Ao,A2⟩:=cj Aw.2 O Ao A2;refine SA H4 (λ_ Av B1=>?_);have E:=pb Av E;have Am:=ac5 Av U Am;have Ab:=ab9 Av U Ab;have Af:=ab9 Av U Af;have⟨O,Ao,A2,_⟩:=Tc Av O Ao A2;refine I ?_;rcases aoq:qr d (ar cx.piv i)with _|aoy;refine I ?_;refine aa (gM (t:=106) (v:=.agg #[]) (vs:=[.agg #[S d.1,S d.2],.agg #[S ((ar cx.piv i).1),S ((ar cx.piv i).2)]]) wj kb lT Z Z Z (ad5 aoq (qY d (ar cx.piv i) _ (ht.ext A2))) (λ_ Li=>?_));have A2:=xt A2 Li;refine I ?_;exact fj ⟨A2,(O6 lr U (Di hl_i hP aoq)),rfl⟩;refine I ?_;refine aa (CH (t:=106) (v:=.agg #[]) (vs:=[.agg #[S d.1,S d.2],.agg #[S ((ar cx.piv i).1),S ((ar cx.piv i).2)]]) wj kb lT Z Z Z (ad2 aoq (qY d (ar cx.piv i) _ (ht.ext A2))) ?_);rintro _ _ nm rfl;have E:=be nm.2 E;have Am:=aa5 nm.2 Am;have Ab:=aa9 nm.2 Ab;have Af:=aa9 nm.2 Af;have⟨O,Ao,B1,A2⟩:=eY nm.2 O Ao B1 A2;refine SA Ao (λ_ Ax E6=>?_);have E:=pb Ax E;have Am:=ac5 Ax U Am;have Ab:=ab9 Ax U Ab;have Af:=ab9 Ax U Af;have⟨O,B1,A2,_⟩:=Tc Ax O B1 A2;refine I ?_;refine gO ?_
 refine I ?_;exact bJ ⟨i+1,aoy,rfl,rfl,U,(EO aoq),(Dh hl_i hP aoq),U,A2,E,Am,Ab,Af,O,E6⟩;have hP2:=G1 hl_i hP;refine I ?_;by_cases aos:cx.sw%2=1;refine I ?_;refine bH 7 ?_;refine sf ?_;refine aR (V:=.agg #[S ((z0).1),S ((z0).2)]) (λ_ _ _ _=>?_) ?_;refine aa (CH (t:=106) (v:=.agg #[]) (vs:=[]) BL kQ lT Z Z Z (lD _) ?_);rintro _ _ ny rfl;have G0:=ny.2;refine I ?_;exact fs ⟨G0,rfl⟩;refine sf ?_;refine aB (λ_ _ _ _=>by refine aa (aF (vf:=[.iface 106 (.agg #[])]) (vc:=[]) Z Z ?_);refine I ?_;exact aG) ?_;refine aB (λ_ _ _ _=>by refine aa (qG (t:=106) (v:=.agg #[]) pH lT Z Z ?_);refine I ?_;exact aG) ?_;refine sf ?_;intro _ _ od _;have⟨E,O,Ao,A2⟩:=eY od.2 E O Ao A2;refine aa (CH (t:=106) (v:=.agg #[]) (vs:=[.agg #[S ((z0).1),S ((z0).2)],.agg #[S d.1,S d.2]]) Il pH lT Z Z Z (ad2 (q6 hd) (C6 z0 d _ (ht.ext A2))) ?_);rintro _ _ L4 rfl;have⟨E,O,Ao,A2⟩:=eY L4.2 E O Ao A2;refine SA Ao (λ_ D2 Cr=>?_);have⟨E,O⟩:=kI D2 E O;have A2:=bh D2 A2;refine I ?_;refine SA E (λ_ CG L2=>?_);have⟨O,Cr⟩:=kI CG O Cr;have A2:=bh CG A2;refine I ?_;refine ll (v:=.agg #[S ((so d).1),S ((so d).2)]) (bY Z ?_) ⟨A2,_,O8 lr U hP2 aos,rfl⟩
 refine ai (t:=4) (cs:=[S ((so d).1),S ((so d).2)]) (b:=w.heap.size) (o:=0) iO Z bV ?_ ?_;exact Z;exact aa0 L2 (i:=0) Z;refine I ?_;refine SA E (λ_ E4 E9=>?_);have⟨O,Ao⟩:=kI E4 O Ao;have A2:=bh E4 A2;refine I ?_;refine ll (v:=.agg #[S d.1,S d.2]) (bY Z ?_) ⟨A2,_,O7 lr U hP2 aos,rfl⟩;refine ai (t:=4) (cs:=[S d.1,S d.2]) (b:=w.heap.size) (o:=0) iO Z bV ?_ ?_;exact Z;exact aa0 E9 (i:=0) Z
set_option maxHeartbeats 2000000 in
def Pb {L:Rows}(hM:Mt w lo A n H L)(hv:VM n L)(hn0:n=(L 0).length)(hb1:ao w b1 27 #[.slice A n C])(ht:Tb w):
 CL 175 #[pT b1] w (iv PN w (lG n L) (λd v _=>v=.agg #[S d.1,S d.2])):=by
 have Ap:=bt hb1;refine gN func175 Z (I ?_);refine al aY (λ_ A2 O=>?_);have hb1:=be A2.2 hb1;have E:=A2.2;refine I ?_;rcases cv:lG n L with _|cm;refine I ?_;refine aa (gZ (v:=.agg #[]) lT Z Z ?_);refine aa (c7 (vs:=[.slice A n C,.iface 106 (.agg #[])]) VN Z (ad5 cv (Fp (hM.ext E) hv hn0 (ht.ext E))) (λ_ Ao=>?_));have E:=xt E Ao;refine I ?_;exact fj ⟨E,(by first|exact cv|rfl),rfl⟩;refine I ?_;refine aa (gZ (v:=.agg #[]) lT Z Z ?_);refine cl VN (ad2 cv (Fp (hM.ext E) hv hn0 (ht.ext E))) ?_;rintro _ _ Af rfl;have⟨hb1,O,E⟩:=cj Af.2 hb1 O E;refine SA O (λ_ Ab Am=>?_);have hb1:=pb Ab hb1;have E:=bh Ab E;refine I ?_;refine ll (v:=.agg #[S ((cm).1),S ((cm).2)]) (bY Z ?_) ⟨E,cm,(by first|exact cv|rfl),rfl⟩;refine ai (t:=1) (cs:=[S ((cm).1),S ((cm).2)]) (b:=w.heap.size) (o:=0) iO Z bV ?_ ?_;exact Z;exact aa0 Am (i:=0) Z
def Fq {L:Rows}(hM:Mt w lo A n H L)(hB:Bd n L)(ht:Tb w):
 CL 133 #[.slice A n C] w (aI w λv w'=>v=Kw (kT n L)):=by
 refine aE func133 Z (I ?_);refine bx (λAo Ax O=>?_);have E:=Ax.2;refine al aY (λ_ Aq A2=>?_);have⟨O,E⟩:=bn Aq.2 O E;refine I ?_;refine cl Sa (KG (hM.ext E) hB (ht.ext E)) ?_;rintro _ _ Av rfl;have⟨O,A2,E⟩:=cj Av.2 O A2 E;refine I ?_;rcases qa4 (KF n L)with cw|cw;have Ab:vH n L=true:=cw;have hv:=(nG Ab).1;have As:=(nG Ab).2;refine I ?_;refine aa (aF (vf:=[]) (vc:=[pT w.heap.size]) Z Z ?_);refine cl YP (OW (lb:=[pT w.heap.size]) YQ (λW hE=>Pb ((hM.ext E).ext hE) hv As (O.ext hE) (ht.ext (xt E hE)))) ?_;rintro _ _ Ap rfl;have⟨O,A2,E⟩:=cj Ap.2 O A2 E;refine I ?_;refine SA A2 (λ_ Af Aw=>?_);have O:=pb Af O;have E:=bh Af E;refine I ?_;refine aX (v:=.tuple #[.agg #[S (rN (lG n L)),S (rD (lG n L))],.int .i64 (Ro (lG n L).isSome)]) (cQ (r1:=.cell 2 33) (r2:=.tmp 3) Z ?_ ?_) E (Uq Ab);refine ai (t:=2) (cs:=[S (rN (lG n L)),S (rD (lG n L))]) (b:=Ao.heap.size) (o:=0) iO Z bV ?_ ?_;exact Z;exact aa0 Aw (i:=0) Z;exact aM (t:=3) WD _;refine I ?_;refine SA A2 (λ_ Am Ar=>?_);have O:=pb Am O
 have E:=bh Am E;refine I ?_;refine aX (v:=.tuple #[.agg #[S [],S []],.int .i64 130]) (cQ (r1:=.cell 2 33) (r2:=.tmp 3) Z ?_ ?_) E (Up kb1);refine ai (t:=2) (cs:=[S [],S []]) (b:=Ao.heap.size) (o:=0) iO Z bV ?_ ?_;exact Z;exact aa0 Ar (i:=0) Z;exact aM (t:=3) WD _
def rM {α:Type}(a b:α)(i:Nat):α:=if i=0 then a else b
def Zj {l0 l1:List R}(h:W.ownsRow lo 28 1 (.slice A 2 2) 2 [.slice A0 n0 c0,.slice A1 n1 c1])(r0:Rw W l0' A0 (ag l0))(r1:Rw W l1' A1 (ag l1))(e0:l0.length=n0)(e1:l1.length=n1)(h0:n0<=c0)(h1:n1<=c1):
 Mt W 0 A 2 (rM (.slice A0 n0 c0) (.slice A1 n1 c1)) (rM l0 l1):=by
 subst e0 e1
 refine⟨(aa7 h).mono (qa7 _),λi hi=>?_,λi hi=>?_,λi hi=>?_⟩
 · unfold rM;by_cases e:i=0
   · rw[if_pos e,if_pos e];rfl
   · rw[if_neg e,if_neg e];rfl
 · unfold rM;by_cases e:i=0
   · rw[if_pos e,if_pos e];exact r0.mono (qa7 _)
   · rw[if_neg e,if_neg e];exact r1.mono (qa7 _)
 · unfold rM;by_cases e:i=0
   · rw[if_pos e,if_pos e];exact h0
   · rw[if_neg e,if_neg e];exact h1
def Zk (l0 l1:List R):kW (rM l0 l1) 2=l0++l1:=by simp[kW,rM]
def Wr.setRow {hi:Nat}{L:Rows}{r:Value}{l:List R}(h:Wr W lo hi n H L)(hr:W.ownsRow lo 33 2 r l.length (ag l))(hne:∀j,j<n->aA r (H j)):Wr W lo W.heap.size n (bX H i r) (bX L i l):=by
 refine⟨λj E=>?_,λj E g e=>?_,λj k E hk O=>?_⟩
 · by_cases e:j=i
   · subst e;rw[bj,bj];exact hr
   · rw[bm _ _ e,bm _ _ e];exact h.own j E
 · by_cases e':j=i
   · subst e';rw[bj]at e;exact dN hr g e
   · rw[bm _ _ e']at e;exact dN (h.own j E) g e
 · by_cases e:j=i
   · subst e;rw[bj,bm _ _ (Ne.symm O)];exact hne k hk
   · by_cases e2:k=i
     · subst e2;rw[bj,bm _ _ e];exact aa4 (hne j E)
     · rw[bm _ _ e,bm _ _ e2];exact h.ne j k E hk O
def KZ {r:Value}(h:∀j,j<n->(H j).ownBlock≠some b)(hr:W.ownsRow lo 33 2 r k cs)(hb:b<lo):∀j,j<n->(bX H i r j).ownBlock≠some b:=λj E e=>by
 by_cases e':j=i
 · subst e';rw[bj]at e;have:=aV hr b e;omega
 · rw[bm _ _ e']at e;exact h j E e
def Xs (hj:j<n):ar (uR i n) j=if i=j then o1 else z0:=by
 rw[ek (by rw[mF];exact hj)];simp[uR]
def Xt (hj:j<n):ar (zs n) j=z0:=by
 rw[ek (by rw[lF];exact hj)];simp[zs]
def Ur (hi:i<n):(zs n).set i o1=uR i n:=by
 refine m5 (by rw[List.length_set,lF,mF]) λj E=>?_
 rw[List.length_set,lF]at E
 rw[pC (by rw[lF];exact hi),Xs E,Xt E]
 by_cases e:j=i
 · rw[if_pos e,if_pos e.symm]
 · rw[if_neg e,if_neg (Ne.symm e)]
def Pd (hn:n<=1000):
 CL 172 #[.slice none 0 0,.int .i64 n] w (aI w λv w'=>World.ownsRow w' w.heap.size 33 2 v 0 (ag [])):=by
 refine aE func172 Z (I ?_);refine aa (Rq (A:=none) (m:=0) (c:=0) sE Z ?_);refine I ?_;refine nY ?_;refine aa (jl (a:=(n:Int)) (b:=((0:Nat):Int)-((0:Nat):Int)) (c:=(n:Int)) Z Z zd U ?_);refine I ?_;by_cases cm:0<(n:Int);refine I ?_;refine aa (Rq (A:=none) (m:=0) (c:=0) sE Z ?_);refine aa (no (A:=none) (m:=0) (c:=0) (j:=0) sE bV Z Z (qa7 _) ?_);refine I ?_;refine aa (OO (k:=n) Z Z Z U U (λ_ E Ab O=>?_));have A2:=Ab;refine I ?_;refine aa (no (A:=some ⟨w.heap.size,0,none⟩) (m:=n) (c:=E) (j:=0) sE bV Z Z (qa7 _) ?_);refine I ?_;exact am (t:=4) (v:=.slice (some ⟨w.heap.size,0,none⟩) 0 E) Z A2 (cD U O) Z;refine I ?_;exact am (t:=4) (v:=.slice none 0 0) Z (aa1 _) bM Z
def Us {L:Rows}(hM:Mt w lo A n H L)(hn:n<=16)(hb:∀i,i<n->(L i).length<=16):
 CL 126 #[.slice A n C] w (aI w λv w'=>World.ownsRow w' w.heap.size 33 2 v (kW L n).length (ag (kW L n))):=by
 refine aE func126 Z (I ?_);have As:=aa1 w;refine cg [(3,3),(5,5),(11,22)] (λAf e W=>∃i:Nat,(n-i=Af)/\(e 11=.int .i64 i)/\(e 3=.int .i64 (((kW L i).length:Nat):Int))/\(i<=n)/\((kW L i).length<=16*i)/\(aP w W)) (n-0) ⟨0,rfl,rfl,rfl,(qa7 _),(qa7 _),As⟩ ?_;rintro _ _ Aw ⟨i,rfl,E7,D2,E1,Cr,A2⟩;have CG:=bz A2;by_cases hli:i<n;have B0:=hb i hli;have Ao:(kW L (i+1)).length=(kW L i).length+(L i).length:=List.length_append;have Ax:=ab2 (hM.ext A2) (i:=(i)) U;refine I ?_;refine gR Ax (I ?_);refine aa (cC (a:=(((kW L i).length:Nat):Int)) (b:=(((L i).length:Nat):Int)) (c:=(((kW L (i+1)).length:Nat):Int)) Z Z zd (by rw[show(kW L (i+1)).length=(kW L i).length+(L i).length from List.length_append];omega) ?_);refine I ?_;refine gO (I ?_);exact bJ ⟨i+1,rfl,rfl,rfl,U,U,A2⟩;have C1:(kW L i).length<=1000:=J
 refine I ?_;refine cl V7 (Pd C1) ?_;rintro Ar B2 Ay Av;have A2:=xt A2 Ay.2;refine aa (aL (v:=Ar) Z ?_);refine I ?_;refine cg [(6,6),(8,8),(27,34)] (λAf e W=>∃j:Nat,∃E:Value,(n-j=Af)/\(e 27=.int .i64 j)/\(e 6=E)/\(j<=n)/\((kW L j).length<=16*j)/\(B2.heap.size<=W.heap.size)/\(aP w W)/\(W.ownsRow Aw.heap.size 33 2 E ((kW L j).length) (ag (kW L j)))) (n-0) ⟨0,Ar,rfl,rfl,rfl,(qa7 _),(qa7 _),(qa0 _),A2,Av⟩ ?_;rintro _ _ _ ⟨j,E,rfl,E5,Aq,D1,E6,od,O,Ab⟩;have E0:=bz O;by_cases hlj:j<n;have B0:=hb j hlj;have Ao:(kW L (j+1)).length=(kW L j).length+(L j).length:=List.length_append;have B1:=ab2 (hM.ext O) (i:=(j)) U;refine I ?_;refine gR B1 (I ?_);refine aa (aT (v:=E) Aq ?_);refine I ?_;refine aa (jB (v:=E) (k:=(kW L j).length) (m:=(L j).length) (news:=ag (L j)) sE aY Z dc Z Ab Z (Mt.row (hM.ext O) j U) (fI _) ol Rg U U (λAm _ Az Ap _=>?_));have O:=bo Ab U U O Ap;have E4:=Ap.size;refine aa (aL (v:=Am) Z ?_);refine I ?_;refine gO (I ?_);exact bJ ⟨j+1,Am,rfl,rfl,rfl,U,U,U,O,(aQ Az Ao.symm (uI _ _))⟩;refine I ?_;refine aa (aT (v:=E) Aq ?_);refine aa (aL (v:=E) Z ?_);refine I ?_
 exact am (t:=2) (v:=E) Z O (by have h:=Ab;rw[show j=n by omega]at h;exact cD U h) Z
def Pe {l0 l1:List R}(h:w.ownsRow lo 28 1 (.slice A 2 2) 2 [.slice A0 n0 c0,.slice A1 n1 c1])(r0:Rw w l0' A0 (ag l0))(r1:Rw w l1' A1 (ag l1))(e0:l0.length=n0)(e1:l1.length=n1)(h0:n0<=c0)(h1:n1<=c1)(b0:n0<=16)(b1:n1<=16):
 CL 126 #[.slice A 2 2] w (aI w λv w'=>World.ownsRow w' w.heap.size 33 2 v (l0++l1).length (ag (l0++l1))):=by
 have hM:=Zj h r0 r1 e0 e1 h0 h1
 have:=Us (C:=2) hM dc (λi _=>by unfold rM;split <;>omega)
 rwa [Zk]at this
def K0 {L:Rows}(hM:Mt w lo A n H L){m:Nat}{K:Rows}(hN:Mt w lo2 B m G K)(hn:0<n)(hn16:n<=16)(hm:n<=m)(hb:∀i,i<n->(L i).length<=16)(hc:∀i,i<n->(K i).length<=16):
 CL 68 #[.slice A n C,.slice B m D] w (aI w λv w'=>dy w.heap.size w' v n (λi=>L i++K i)):=by
 have E0:=aa1 w;refine aE func68 Z (I ?_);refine aa (mf (m:=(n)) Nk jE Z Z U Rg (λLk GC _ D1=>?_));have E0:=xt E0 GC;obtain⟨cm,w6⟩:∃x,x=some (⟨w.heap.size,0,none⟩:Addr):=⟨_,rfl⟩;rw[<-w6]at D1;obtain⟨KM,Ax,L3,E9⟩:=m7 D1 U;refine aa (aL (v:=.slice cm (n) (n)) (qb2 (λa=>Value.slice a n n) w6.symm) ?_);refine I ?_;refine cg [(6,6),(12,28)] (λFR e W=>∃i:Nat,∃H2:Nat->Value,∃K2:Rows,(n-i=FR)/\(e 12=.int .i64 i)/\(i<=n)/\(∀x,x<i->K2 x=L x++K x)/\(∀j,j<n->(H2 j).ownBlock≠some (ci cm))/\(Lk.heap.size<=W.heap.size)/\(aP w W)/\(Ho W cm n H2)/\(Wr W w.heap.size W.heap.size n H2 K2)) (n-0) ⟨0,(λ_=>.slice none 0 0),pL,rfl,rfl,(qa7 _),(λx hx=>by omega),E9,(qa0 _),E0,KM,(Wr.top L3)⟩ ?_;rintro _ _ Af ⟨i,H2,K2,rfl,a2,W0,hK2,hnoH2,a4,E,hH2,wH2⟩;have a6:=bz E;by_cases hli:i<n;have T2:=hb i hli;have P0:=hc i hli;refine I ?_;have As:=ac1 Af
 refine xL 12 (λls e W=>∃O:Nat,∃A2:Value,(aP w W)/\(Af.heap.size<=W.heap.size)/\(ls 10=true->e 25=.slice (some ⟨O,0,none⟩) 2 2)/\(ls 11=true->e 26=A2)/\(ls 10=true->Af.heap.size<=O/\O<W.heap.size)/\(Ho W cm n H2)/\(Wr W w.heap.size Af.heap.size n H2 K2)/\(ls 10=true->ls 11=false->(World.ownsRow W O 28 1 (.slice (some ⟨O,0,none⟩) 2 2) 2 [.slice (sA (H i)) ((L i).length) (sC (H i)),.slice (sA (G i)) ((K i).length) (sC (G i))]))/\(ls 11=true->(W.ownsRow Af.heap.size 33 2 A2 (((L i)++(K i)).length) (ag ((L i)++(K i)))))) ⟨0,.nilIface,(xt E As),(bz As),(ff Z),(ff Z),(ff Z),(ab8 As hH2),(aa2 As wH2),(λh _=>ff Z h),(λh=>ff Z h)⟩ ?_;refine sf ?_;refine de (λa3 Wa W2 _ H4 VW _=>by obtain⟨_,_,E,_⟩:=H4;have N0:=ab2 (hM.ext E) (i:=(i)) U;refine I ?_;refine gR N0 ?_;refine I ?_;exact aG) ?_;refine de (λRm S9 X2 _ E4 a5 _=>by obtain⟨_,_,E,_⟩:=E4;have W1:=ab2 (hM.ext E) (i:=(i)) U;refine I ?_;exact aG) ?_;refine sf ?_;refine de (λP2 WV a0 _ E5 P1 _=>by obtain⟨_,_,E,_⟩:=E5;have KC:=ab2 (hN.ext E) (i:=(i)) U;refine I ?_;refine gR KC ?_;refine I ?_;exact aG) ?_;refine de (λVm S0 Q0 _ Kp W3 _=>by obtain⟨_,_,E,_⟩:=Kp;have X0:=ab2 (hN.ext E) (i:=(i)) U;refine I ?_;exact aG) ?_
 refine gt (λ_ G0 _ ES E6 Ix _=>?_) ?_;obtain⟨O,A2,E,D2,Aw,nm,Ap,Aq,Ar,CG,B0⟩:=ES;have ny:=Aq;have od:=Ar;refine NW (λ_ B2 _ La=>?_);have ny:=ab8 B2 ny;have od:=aa2 B2 od;have E:=xt E B2;refine I ?_;exact fs ⟨G0.heap.size,A2,E,U,(λ_=>rfl),nm,(λ_=>⟨by omega,by omega⟩),ny,od,(λ_ _=>La),(λNo=>ff (bU E6 (i:=10) (j:=11) Z Ix) No)⟩;refine gt (λ_ _ _ L1 _ Lj C1=>?_) ?_;obtain⟨O,A2,E,D2,Aw,nm,Ap,Aq,Ar,CG,B0⟩:=L1;have K3:=Aw (C1 10 Z);have L4:=Ap (C1 10 Z);have B1:=Aq;have Ay:=Ar;have Ne:=CG (C1 10 Z) Lj;refine clb Y1 (hc:=Pe Ne (Mt.row (hM.ext E) i U) (Mt.row (hN.ext E) i U) Z Z ((hM.ext E).cap i U) ((hN.ext E).cap i U) U U) (hk:=?_) (hv:=au K3 Z);rintro E1 _ Am Az;have Am:=Am.2;have Az:=cD (lo':=Af.heap.size) U Az;have B1:=ab8 Am B1;have Ay:=aa2 Am Ay;have E:=xt E Am;refine I ?_;exact fs ⟨O,E1,E,U,Aw,(λ_=>rfl),(λx=>by have:=Ap x;omega),B1,Ay,(λ_ L2=>tf Z L2),(λ_=>Az)⟩;refine sf ?_;rintro H3 _ _ wr ⟨O,A2,E,D2,Aw,nm,Ap,Aq,Ar,CG,B0⟩;have L4:=Ap (wr 10 Z);have Cr:=Aq;have Ao:=Ar;have Ab:=B0 (wr 11 Z);have E7:=gI Cr Ao (i:=(i)) U;refine I ?_;refine gR E7 ?_;have KY:H3 26=A2:=(nm (wr 11 Z))
 refine aa (kP (i:=(i)) Cr U lS Z KY (bS Ab) (λ_ Av EW=>?_));have Ao:=Wr.putOut Av hnoH2 Ao;have Ab:=aw Av (λe=>by have:=aV Ab _ e;have:=Ax;omega) Ab;have E:=ad4 Av E (by have:=Ax;omega);have T3:=iQ Av;refine I ?_;refine gO (I ?_);have Li:=cD (lo':=w.heap.size) U Ab;refine I ?_;exact bJ ⟨i+1,(bX H2 i A2),bX K2 i (L i++K i),rfl,rfl,U,(λx hx=>by by_cases e:x=i;rw[e,bj];rw[bm _ _ e];exact hK2 x U),(KZ hnoH2 Ab (by have:=Ax;omega)),U,E,EW,(Wr.setRow Ao Li (Wr.far Ao Ab U))⟩;refine I ?_;exact am (t:=4) (v:=.slice cm (n) (n)) Z E ⟨_,_,_,rfl,qa0 _,ad8 U ((Wr.mt wH2 (Ho.rw hH2 Ax.1)).congr (λj _=>hK2 j U))⟩ Z
def Pf {L:Rows}(h:vH n L=true)(h2:lP n L (L 0).length (λj=>l5 L n j)):Na n L:=λi hi k hk=>by
 obtain⟨hv,E⟩:=nG h
 have:=h2.2 i hi
 rw[this,uH L i U]
def Pg {L:Rows}(h:vH n L=true)(h2:Na n L):lP n L (L 0).length (λj=>l5 L n j):=by
 obtain⟨hv,O⟩:=nG h
 refine⟨O,λi hi=>m5 (by rw[pJ,(hv.ok i hi).1,<-O]) λj E=>?_⟩
 rw[(hv.ok i hi).1,<-O]at E
 show ar (L i) j=ar (l5 L n i) j
 rw[uH L i E]
 rcases Nat.lt_trichotomy i j with h|h|h
 · exact(h2 j E i h).symm
 · subst h;rfl
 · exact h2 i hi j h
set_option maxRecDepth 100000 in
def Fs (hn:1<=n)(hn16:n<=16):
 CL 69 #[.iface 106 (.agg #[]),.int .i64 n] w (aI w λv w'=>dy w.heap.size w' v n (λi=>uR i n)):=by
 have E0:=aa1 w;refine aE func69 Z (I ?_);refine aa (mf (m:=(n)) Nk jE Z Z U Rg (λAz nm _ Av=>?_));have E0:=xt E0 nm;obtain⟨cr,nq⟩:∃x,x=some (⟨w.heap.size,0,none⟩:Addr):=⟨_,rfl⟩;rw[<-nq]at Av;obtain⟨wr,Ao,E6,Cr⟩:=m7 Av U;refine aa (aL (v:=.slice cr (n) (n)) (qb2 (λa=>Value.slice a n n) nq.symm) ?_);refine I ?_;refine cg [(6,6),(11,30)] (λD2 e W=>∃i:Nat,∃H2:Nat->Value,∃K2:Rows,(n-i=D2)/\(e 11=.int .i64 i)/\(i<=n)/\(∀x,x<i->K2 x=uR x n)/\(∀j,j<n->(H2 j).ownBlock≠some (ci cr))/\(Az.heap.size<=W.heap.size)/\(aP w W)/\(Ho W cr n H2)/\(Wr W w.heap.size W.heap.size n H2 K2)) (n-0) ⟨0,(λ_=>.slice none 0 0),pL,rfl,rfl,(qa7 _),(λx hx=>by omega),Cr,(qa0 _),E0,wr,(Wr.top E6)⟩ ?_;rintro _ _ _ ⟨i,H2,K2,rfl,E9,H4,hK2,hnoH2,GC,E,hH2,wH2⟩;have ES:=bz E;by_cases hli:i<n;refine I ?_;refine aa (CH (t:=106) (v:=.agg #[]) (vs:=[]) BL kQ lT Z Z Z (lD _) ?_);rintro _ _ As rfl;have hH2:=ab8 As.2 hH2;have wH2:=aa2 As.2 wH2;have E:=xt E As.2;refine BS (λB1 Aq _ E1=>?_);have hH2:=ab8 Aq hH2;have wH2:=aa2 Aq wH2;have E:=xt E Aq;refine I ?_;refine clb YY (hc:=Un (n:=(n)) (show Rw _ _ _ (ag [z0])from aa7 E1) U U) (hk:=?_);rintro E7 _ Af Ab
 have Af:=Af.2;have Ab:=aQ (cD (lo':=B1.heap.size) U Ab) (lF n).symm Z;have hH2:=ab8 Af hH2;have wH2:=aa2 Af wH2;have E:=xt E Af;have B2:=gI hH2 wH2 (i:=(i)) U;refine I ?_;refine gR B2 ?_;refine aa (kP (i:=(i)) hH2 U lS Z Z (bS Ab) (λ_ Am O=>?_));have wH2:=Wr.putOut Am hnoH2 wH2;have Ab:=aw Am (λe=>by have:=aV Ab _ e;have:=Ao;omega) Ab;have E:=ad4 Am E kb8;have FR:=iQ Am;refine I ?_;have B0:=cD (lo':=w.heap.size) U Ab;have A2:=Wr.setRow (i:=i) wH2 B0 (Wr.far wH2 Ab U);have Ax:=KZ (i:=i) hnoH2 Ab kb8;have EW:(bX K2 i (zs n) i).length=n:=by rw[bj,lF]
 refine I ?_;refine bH 7 ?_;refine sf ?_;refine aB (λ_ _ od _=>by have O:=ab8 od O;have A2:=aa2 od A2;have E4:=gI O A2 (i:=(i)) U;refine I ?_;refine gR E4 ?_;refine I ?_;exact aG) ?_;refine aB (λ_ _ Aw _=>by have O:=ab8 Aw O;have A2:=aa2 Aw A2;have H3:=gI O A2 (i:=(i)) U;refine I ?_;exact aG) ?_;refine sf ?_;refine aR (V:=.agg #[S ((o1).1),S ((o1).2)]) (λ_ _ _ _=>?_) ?_;refine aa (CH (t:=106) (v:=.agg #[]) (vs:=[]) QI EV lT Z Z Z (J6 _) ?_);rintro _ _ D1 rfl;have CG:=D1.2;refine I ?_;exact fs ⟨CG,rfl⟩;refine sf ?_;intro _ _ Ap _;have O:=ab8 Ap.2 O;have A2:=aa2 Ap.2 A2;have E:=xt E Ap.2;have E5:=Wr.elem A2 (i:=(i)) (k:=(i)) U U;refine I ?_;refine lU E5 ?_;refine aa (uF (q:=o1) (i:=(i)) (k:=(i)) A2 U U bV Z Z (λ_ Ar _ _ C1 Ay=>?_));have O:=Ho.put Ar (λe=>Ax i U (by rw[C1,e])) O;have E:=bh Ar E;have G0:=iQ Ar;refine I ?_;refine gO (I ?_);exact bJ ⟨i+1,(bX H2 i E7),(bX (bX K2 i (zs n)) i (((bX K2 i (zs n)) i).set i o1)),rfl,rfl,U,(λx hx=>by by_cases e:x=i;rw[e,bj,bj];exact Ur hli;rw[bm _ _ e,bm _ _ e];exact hK2 x U),Ax,U,E,O,(Wr.top Ay)⟩;refine I ?_
 exact am (t:=4) (v:=.slice cr (n) (n)) Z E ⟨_,_,_,rfl,qa0 _,ad8 U ((Wr.mt wH2 (Ho.rw hH2 Ao.1)).congr (λj _=>hK2 j U))⟩ Z
set_option maxHeartbeats 2000000 in
set_option maxRecDepth 100000 in
def Ft {L:Rows}(hM:Mt w lo A n H L)(hv:VM n L)(hb1:ao w b1 27 #[.slice A n C])(hb2:ao w b2 3 #[.int .i64 n])(hn0:n=(L 0).length)(ht:Tb w):
 CL 67 #[pT b1,pT b2] w (iv PN w (elim n (n+n) n (jR n L)) (λs v w'=>YD w.heap.size n w' s v)):=by
 have La:=bt hb1;have L3:=bt hb2;have Ax:=hv.ok;have Li:=hv.1;have Lj:=hv.2.1;refine gN func67 Z (I ?_);refine al tq (λAb ny O=>?_);have⟨hb1,hb2⟩:=gg ny.2 hb1 hb2;have E:=ny.2;refine I ?_;rcases cx:elim n (n+n) n (jR n L)with _|cr;refine bH 9 ?_;refine sf ?_;refine aB (λ_ _ _ _=>by refine aa (gZ (v:=.agg #[]) lT Z Z ?_);refine I ?_;exact aG) ?_;refine sf ?_;refine bC (λv w=>dy Ab.heap.size w v n (λi=>uR i n)) (hs:=λ_ _ _ k h=>dy.ext k h) (λ_ _ K2 _=>?_) ?_;refine clb VT (hc:=Fs U U) (hk:=?_);rintro _ _ E7 KY;have E1:=E7.2;refine I ?_;exact fs ⟨E1,(dy.mono (by have:=bz K2;omega) KY)⟩;refine bC (λv w=>dy Ab.heap.size w v n (jR n L)) (hs:=λ_ _ _ k h=>dy.ext k h) (λ_ _ Av FR=>?_) ?_;obtain⟨_,_,_,B1,_,E0⟩:=(FR 4 7 Z Z);refine clb VS (hc:=K0 (hM.ext (xt E Av)) E0 U U (qa0 _) (λi hi=>by have:=(Ax i hi).1;omega) (λi hi=>by rw[mF];omega)) (hk:=?_) (hv:=au Z (au B1 Z));rintro _ _ B0 L2;have D2:=B0.2;refine I ?_;exact fs ⟨D2,(dy.mono (by have:=bz Av;omega) L2)⟩;refine sf ?_;refine aB (λ_ _ _ _=>by refine aa (gZ (v:=.agg #[]) lT Z Z ?_);refine I ?_;exact aG) ?_
 refine sf ?_;intro _ _ ES E5;have E:=xt E ES.2;obtain⟨EW,GC,_,K3,_,L1⟩:=(E5 5 8 Z Z);have H4:=ab1 L1;refine aa (c7 (vs:=[.slice EW n GC,.iface 106 (.agg #[]),.int .i64 n]) Gg (au K3 (au Z (au Z Z))) (ad5 cx (m8 (ad8 (qa7 _) (H4).mt) (show qt n (n+n) (jR n L)by have h:=m6 hv;rwa [<-hn0]at h) U U U U (ht.ext E))) (λ_ E9=>?_));have E:=xt E E9;refine I ?_;exact fj ⟨E,(by first|exact cx|rfl),rfl⟩;refine bH 9 ?_;refine sf ?_;refine aB (λ_ _ _ _=>by refine aa (gZ (v:=.agg #[]) lT Z Z ?_);refine I ?_;exact aG) ?_;refine sf ?_;refine bC (λv w=>dy Ab.heap.size w v n (λi=>uR i n)) (hs:=λ_ _ _ k h=>dy.ext k h) (λ_ _ nm _=>?_) ?_;refine clb VT (hc:=Fs U U) (hk:=?_);rintro _ _ E4 H2;have H3:=E4.2;refine I ?_;exact fs ⟨H3,(dy.mono (by have:=bz nm;omega) H2)⟩;refine bC (λv w=>dy Ab.heap.size w v n (jR n L)) (hs:=λ_ _ _ k h=>dy.ext k h) (λ_ _ Am KM=>?_) ?_;obtain⟨_,_,_,Az,_,E6⟩:=(KM 4 7 Z Z);refine clb VS (hc:=K0 (hM.ext (xt E Am)) E6 U U (qa0 _) (λi hi=>by have:=(Ax i hi).1;omega) (λi hi=>by rw[mF];omega)) (hk:=?_) (hv:=au Z (au Az Z));rintro _ _ CG G0;have D1:=CG.2;refine I ?_
 exact fs ⟨D1,(dy.mono (by have:=bz Am;omega) G0)⟩;refine sf ?_;refine aB (λ_ _ _ _=>by refine aa (gZ (v:=.agg #[]) lT Z Z ?_);refine I ?_;exact aG) ?_;refine sf ?_;intro _ _ KC Ix;have⟨hb1,hb2,O,E⟩:=eY KC.2 hb1 hb2 O E;obtain⟨_,_,_,C1,_,Kp⟩:=(Ix 5 8 Z Z);have Cr:=ab1 Kp;refine clb Gg (hc:=ad2 cx (m8 (ad8 (qa7 _) (Cr).mt) (show qt n (n+n) (jR n L)by have h:=m6 hv;rwa [<-hn0]at h) U U U U (ht.ext E))) (hk:=?_) (hv:=au C1 (au Z (au Z Z)));rintro _ _ Ay A2;have⟨hb1,hb2,O,E⟩:=eY Ay.2 hb1 hb2 O E;obtain⟨Ao,Ap,_,Aq,Ar,Aw,As,rfl,_,_,_,_⟩:=vI.get A2;have L4:=mG (show qt n (n+n) (jR n L)by have h:=m6 hv;rwa [<-hn0]at h) U cx;refine SA O (λ_ Af B2=>?_);have⟨hb1,hb2⟩:=kI Af hb1 hb2;have A2:=vI.put Af U A2;have E:=bh Af E;refine I ?_;refine ll (v:=.agg #[.slice Ao n Ap,.slice Aq cr.piv.length Ar,.slice Aw cr.cols.length As,.bool (decide (cr.sw%2=1))]) (bY Z ?_) ⟨E,cr,(by first|exact cx|rfl),vI.mono U A2⟩;refine ai (t:=2) (cs:=[.slice Ao n Ap,.slice Aq cr.piv.length Ar,.slice Aw cr.cols.length As,.bool (decide (cr.sw%2=1))]) (b:=w.heap.size) (o:=0) VC Z Gf ?_ ?_;exact Z;exact aa0 B2 (i:=0) Z
def bI (b:List R):Rows:=λi=>[ar b i]
def Pi (s:El)(n:Nat):Rows:=λi=>(s.L i).drop n
def Fu {L:Rows}(hM:Mt w lo A n H L)(hB:Bd n L)(ht:Tb w):
 CL 27 #[.slice A n C] w (aI w λv w'=>nh w.heap.size w' n (eN n L) v):=by
 refine aE func27 Z (I ?_);refine bx (λ_ P2 E=>?_);have O:=P2.2;refine I ?_;refine cl Sa (KG (hM.ext O) hB (ht.ext O)) ?_;rintro _ B1 K3 rfl;have⟨E,O⟩:=bn K3.2 E O;refine I ?_;rcases qa4 (KF n L)with wr|wr;have C1:vH n L=true:=wr;have hv:=(nG C1).1;have D2:=(nG C1).2;have a3:=hv.1;have a6:=hv.2.1;have No:=hv.ok;rw[<-D2]at No;refine I ?_;refine al kB (λ_ KM Vm=>?_);have⟨E,O⟩:=bn KM.2 E O;refine SO Vm (λE0 WV A2=>?_);have⟨E,O,_⟩:=ku WV E O;refine I ?_;rcases oq:elim n (n+n) n (jR n L)with _|cm;refine I ?_;refine aa (aF (vf:=[]) (vc:=[pT w.heap.size,pT B1.heap.size]) Z Z ?_);refine cl VQ (Fj (lb:=[pT w.heap.size,pT B1.heap.size]) (n:=n) VR (λW hE=>Ft ((hM.ext O).ext hE) hv (E.ext hE) (A2.ext hE) D2 (ht.ext (xt O hE)))) ?_;rintro _ _ Rm FR;have⟨E,A2,O⟩:=cj Rm.2 E A2 O;rw[oq]at FR;subst FR;refine I ?_;refine al tq (λ_ T2 S9=>?_);have⟨E,A2,O⟩:=cj T2.2 E A2 O;refine SA S9 (λ_ E1 _=>?_);have E:=pb E1 E
 have A2:=pb E1 A2;have O:=bh E1 O;refine I ?_;exact bw (t:=2) (u:=3) (v1:=.slice none 0 0) (v2:=.int .i64 130) Z O (G5 C1 oq) Z Z;refine I ?_;refine aa (aF (vf:=[]) (vc:=[pT w.heap.size,pT B1.heap.size]) Z Z ?_);refine cl VQ (Fj (lb:=[pT w.heap.size,pT B1.heap.size]) (n:=n) VR (λW hE=>Ft ((hM.ext O).ext hE) hv (E.ext hE) (A2.ext hE) D2 (ht.ext (xt O hE)))) ?_;rintro _ Cr Kp E7;have⟨E,A2,O⟩:=cj Kp.2 E A2 O;rw[oq]at E7;obtain⟨_,rfl,P1⟩:=E7;obtain⟨E6,Q0,B0,ny,T3,H4,L1,rfl,_,S0,L2,W2⟩:=vI.get P1;have Ab:=ab1 S0;have Af:=ab5 L2;have Am:=ab5 W2;have W0:=mG (show qt n (n+n) (jR n L)by have h:=m6 hv;rwa [<-D2]at h) U oq;have W1:=W0.1;refine I ?_;refine al tq (λ_ CG Wa=>?_);have⟨E,A2⟩:=gg CG.2 E A2;have Ab:=aa5 CG.2 Ab;have Af:=aa9 CG.2 Af;have Am:=aa9 CG.2 Am;have O:=xt O CG.2;refine SA Wa (λAw od Ar=>?_);have⟨E,A2⟩:=kI od E A2;have Ab:=ac5 od U Ab;have Af:=ab9 od U Af;have Am:=ab9 od U Am;have O:=bh od O;have a5:=iQ od;refine I ?_;by_cases aos:((cm.piv.length:Nat):Int)<(n:Int);refine I ?_;exact bw (t:=2) (u:=3) (v1:=.slice none 0 0) (v2:=.int .i64 130) Z O (KU C1 oq U) Z Z;refine I ?_;have Lk:World.ownsRow Aw Aw.heap.size 28 1 (.slice none 0 0) 0 []:=bM
 have P0:Wr Aw Aw.heap.size Aw.heap.size 0 (λ_=>.nilIface) (Pi cm n):=Wr.nil;refine cg [(7,7),(9,9),(32,43)] (λL4 e W=>∃i:Nat,∃H2:Nat->Value,∃Ap:Value,(n-i=L4)/\(e 32=.int .i64 i)/\(e 7=Ap)/\(i<=n)/\(∀zz,zz<i->aA Ap (H2 zz))/\(Aw.heap.size<=W.heap.size)/\((Ap).ownBlock≠some w.heap.size)/\((Ap).ownBlock≠some B1.heap.size)/\((Ap).ownBlock≠some Cr.heap.size)/\(aP w W)/\(ao W w.heap.size 27 #[.slice A n C])/\(ao W B1.heap.size 3 #[.int .i64 n])/\(nH W E0.heap.size Cr.heap.size E6 n B0 cm.L)/\(ni W E0.heap.size Cr.heap.size ny (ag cm.piv))/\(ni W E0.heap.size Cr.heap.size H4 (ints cm.cols))/\(ao W Cr.heap.size 103 #[.slice E6 n Q0,.slice ny cm.piv.length T3,.slice H4 cm.cols.length L1,.bool (decide (cm.sw%2=1))])/\(W.ownsRow Aw.heap.size 28 1 Ap i ((List.range i).map H2))/\(Wr W Aw.heap.size W.heap.size i H2 (Pi cm n))) (n-0) ⟨0,(λ_=>.nilIface),.slice none 0 0,rfl,rfl,rfl,(qa7 _),(λj EW=>by omega),(qa0 _),(λe=>by cases e),(λe=>by cases e),(λe=>by cases e),O,E,A2,Ab,Af,Am,Ar,Lk,P0⟩ ?_;rintro _ _ E5 ⟨i,H2,Ap,rfl,a2,ES,hi_i,E9,a0,GC,Ix,G0,Ay,E,A2,Ab,Af,Am,Ar,Aq,Av⟩;by_cases hli:i<n;have a4:=(W1 i hli).1;have KY:=ab2 (Ab).mt (i:=(i)) U;refine I ?_;refine gR KY (I ?_);refine aa (aT (v:=Ap) ES ?_);refine I ?_
 refine aa (ym (A:=sA (B0 i)) (m:=(cm.L i).length) (c:=sC (B0 i)) (i:=(n)) sE bV Z Z U ((Ab).mt.cap i U) ?_);refine clb Sb (hc:=uO (Rw.fromR (Mt.row (Ab).mt i U) ((Ab).mt.cap i U) U) (by rw[List.length_drop];omega)) (hk:=?_) (hv:=au (qb2 (λk=>Value.slice (uG 2 (sA (B0 i)) (sC (B0 i)) n) k (sC (B0 i)-n)) (List.length_drop (i:=(n)) (l:=(cm.L i))).symm) Z);rintro Az _ As Ao;have As:=As.2;have Ao:=cD (lo':=E5.heap.size) U Ao;have H3:aA Az (Ap):=λg h1 h2=>by have h3:=aV Ao _ h1;have h4:=(dN Aq) _ h2;omega
 have⟨E,A2⟩:=gg As E A2;have Ab:=aa5 As Ab;have Af:=aa9 As Af;have Am:=aa9 As Am;have Ar:=be As Ar;have Aq:=ab As Aq;have Av:=aa2 As Av;have Ay:=xt Ay As;refine aa (cK (vs:=[(0,Az)]) (cells:=#[Az]) R8 jE Z dc dc (jQ _ (bS Ao)) Z dc (λ_ Ax _ Li=>?_));have⟨E,A2⟩:=gg Ax E A2;have Ab:=aa5 Ax Ab;have Af:=aa9 Ax Af;have Am:=aa9 Ax Am;have Ar:=be Ax Ar;have Aq:=ab Ax Aq;have Av:=aa2 Ax Av;have Ao:=ab Ax Ao;have Ay:=xt Ay Ax;refine AP Aq (aa7 Li) (λE4 X0 N0 nm D1=>?_) (h1:=Tx (bS Ao));have VW:=aU D1 GC (bt E);have Ne:=aU D1 Ix (bt A2);have K2:=aU D1 G0 (bt Ar);have L3:∀B2,B2<i->aA E4 (H2 B2):=λB2 hi=>aa8 D1 (E9 B2 hi) (Wr.own Av B2 hi);have E:=aa3 nm (λe=>GC e.symm) E;have A2:=aa3 nm (λe=>Ix e.symm) A2;have Ab:=nH.gr nm (λg e=>by have:=aV Aq _ e;omega) Ab;have Af:=ni.gr nm (λg e=>by have:=aV Aq _ e;omega) Af;have Am:=ni.gr nm (λg e=>by have:=aV Aq _ e;omega) Am;have Ar:=aa3 nm (λe=>G0 e.symm) Ar;have Av:=ad0 nm E9 Av;have W3:=aa8 D1 (aa4 H3) Ao
 have Ao:=ab4 (aa4 H3) nm Ao;have Ay:=bo Aq U U Ay nm;have X2:=nm.size;refine aa (aL (v:=E4) Z ?_);refine I ?_;refine gO (I ?_);have KC:World.ownsRow X0 E5.heap.size 33 2 Az ((Pi cm n) i).length (ag ((Pi cm n) i)):=aQ Ao Z Z;have Lj:=cD (lo':=Aw.heap.size) U KC;have La:∀zz,zz<i->aA Az (H2 zz):=Wr.far Av Ao U;refine I ?_;exact bJ ⟨i+1,bX H2 i Az,E4,rfl,rfl,rfl,U,(λj EW=>dZ L3 W3 j EW),U,VW,Ne,K2,Ay,E,A2,Ab,Af,Am,Ar,(aQ N0 Z (eM H2 i Az).symm),(by have h:=Wr.push Av Lj La;rwa [pM]at h)⟩;refine I ?_;refine aa (aT (v:=Ap) ES ?_);refine aa (aL (v:=Ap) Z ?_);refine I ?_;exact bw (t:=2) (u:=3) (v1:=Ap) (v2:=.int .i64 0) Z Ay (O0 C1 oq U (by have h:=pO Aq Av;rw[show i=n by omega]at h;exact h.mono U)) Z Z;refine I ?_;exact bw (t:=2) (u:=3) (v1:=.slice none 0 0) (v2:=.int .i64 130) Z O (OZ kb1) Z Z
def Pj {L:Rows}(hM:Mt w lo A n H L)(hB:Bd n L)(hC:n<=C)(ht:Tb w):
 CL 78 #[.slice A n C] w (aI w λv w'=>v=GZ (pQ n L)):=by
 refine aE func78 Z (I ?_);refine cl Sa (KG (hM.ext (aa1 _)) hB (ht.ext (aa1 _))) ?_;rintro _ B2 E9 rfl;have A2:=E9.2;refine I ?_;rcases qa4 (KF n L)with fx|fx;have Af:vH n L=true:=fx;have hv:=(nG Af).1;have Kp:=(nG Af).2;have Lk:=hv.1;have S0:=hv.2.1;have Aq:=hv.ok;rw[<-Kp]at Aq;refine I ?_;refine cl VJ (Rs (hM.ext A2) hB (ht.ext A2)) ?_;rintro _ Az FR E5;have A2:=xt A2 FR.2;rw[if_pos (show vM n L=true from decide_eq_true hv)]at E5;obtain⟨D1,_,D2,rfl,_,L1⟩:=E5;have O:=ab1 L1;refine cl YS (Uk (hM.ext A2) (O).mt hB) ?_;rintro _ H4 E1 rfl;have O:=aa5 E1.2 O;have A2:=xt A2 E1.2;refine I ?_;by_cases fy:lP n L ((L 0).length) (λj=>l5 L n j);refine I ?_;have Ar:Na n L:=Pf Af fy;refine cg [(2,5),(7,9),(20,53)] (λAp e W=>∃k:Nat,(n-k=Ap)/\(e 20=.int .i64 k)/\(k<=n)/\(nk L (n-k) k=nk L n 0)/\(H4.heap.size<=W.heap.size)/\(aP w W)/\(nH W B2.heap.size Az.heap.size D1 ((L 0).length) D2 (λj=>l5 L n j))) (n-0) ⟨0,rfl,rfl,(qa7 _),rfl,(qa0 _),A2,O⟩ ?_;rintro _ _ Ao ⟨k,rfl,L4,Rm,hP,Li,ny,O⟩;have P0:=bz ny;by_cases hlk:k<n;refine I ?_;refine aa (cC (a:=(k:Int)) (b:=1) (c:=((k+1:Nat):Int)) Z Z zd U ?_);refine aa (no (A:=A) (m:=n) (c:=C) (j:=k+1) R8 lS Z Z U ?_)
 refine I ?_;have KM:World.ownsRow Ao Ao.heap.size 28 1 (.slice none 0 0) 0 []:=bM;refine cg [(5,5),(7,7),(28,39)] (λAp e W=>∃i:Nat,∃Ab:Value,(k+1-i=Ap)/\(e 28=.int .i64 i)/\(e 5=Ab)/\(i<=k+1)/\(Ao.heap.size<=W.heap.size)/\(aP w W)/\(nH W B2.heap.size Az.heap.size D1 ((L 0).length) D2 (λj=>l5 L n j))/\(W.ownsRow Ao.heap.size 28 1 Ab i ((List.range i).map (Gt H (k+1))))) (k+1-0) ⟨0,.slice none 0 0,rfl,rfl,rfl,(qa7 _),(qa0 _),ny,O,KM⟩ ?_;rintro _ _ B0 ⟨i,Ab,rfl,P1,od,P2,Lj,E,O,Am⟩;have L2:=bz E;by_cases hli:i<k+1;have N0:=(Aq i U).1;have KY:=ab2 (hM.ext E) (i:=(i)) U;refine I ?_;refine gR KY (I ?_);refine aa (aT (v:=Ab) od ?_);refine I ?_;refine aa (cC (a:=(k:Int)) (b:=1) (c:=((k+1:Nat):Int)) Z Z zd U ?_);refine aa (no (A:=sA (H i)) (m:=(L i).length) (c:=sC (H i)) (j:=(k+1)) sE bV Z Z (by have:=(hM.ext E).cap i U;omega) ?_);refine BS (λ_ As _ GC=>?_);have O:=aa5 As O;have Am:=ab As Am;have E:=xt E As;refine AP Am (aa7 GC) (λC1 _ K3 Aw _=>?_);have O:=nH.gr Aw (λg e=>by have:=aV Am _ e;omega) O;have E:=bo Am U U E Aw;have Ne:=Aw.size;refine aa (aL (v:=C1) Z ?_);refine I ?_;refine gO (I ?_)
 exact bJ ⟨i+1,C1,rfl,rfl,rfl,U,U,E,O,(aQ K3 Z (GU (Gt H (k+1)) i))⟩;have Ax:i=k+1:=J
 have E7:nH B0 0 B0.heap.size (sA Ab) (k+1) (Gt H (k+1)) (λi=>(L i).take (k+1)):=ab1 (Mt.takes (ad8 (qa7 _) (hM.ext E)) U (λi hi=>by have:=(Aq i hi).1;omega) (by have h:=fh Am;rwa [Ax]at h) (qa7 _));have Ay:Ab=.slice (sA Ab) (k+1) (sC Ab):=by rw[<-Ax];exact dl Am
 refine I ?_;rcases cy:kT (k+1) (λi=>(L i).take (k+1))with _|cv;have No:=od.trans Ay;refine I ?_;refine clb VH (hc:=Fq (E7).mt (Bd.takes hB U) (ht.ext E)) (hk:=?_);rintro _ _ K2 E0;have E:=xt E K2.2;rw[cy]at E0;subst E0;refine I ?_;refine al aY (λ_ ES Ix=>?_);have E:=xt E ES.2;refine SA Ix (λ_ G0 _=>?_);have E:=bh G0 E;refine I ?_;exact bw (t:=2) (u:=3) (v1:=.bool false) (v2:=.int .i64 130) Z E (G8 Af Ar (G7 hlk hP cy)) Z Z;have La:=od.trans Ay;refine I ?_;refine clb VH (hc:=Fq (E7).mt (Bd.takes hB U) (ht.ext E)) (hk:=?_);rintro _ _ E6 B1;have O:=aa5 E6.2 O;have E:=xt E E6.2;rw[cy]at B1;subst B1;have H2:=O1 cy;have Q0:Ro (some cv).isSome=0:=rfl;refine I ?_;refine al aY (λ_ CG EW=>?_);have O:=aa5 CG.2 O;have E:=xt E CG.2;refine SA EW (λ_ Av _=>?_);have O:=ac5 Av U O;have E:=bh Av E;have L3:=iQ Av;refine I ?_;refine bH 3 ?_;refine sf ?_;refine aR (V:=.agg #[S ((z0).1),S ((z0).2)]) (λ_ _ _ _=>?_) ?_;refine cl BL (lD _) ?_;rintro _ _ nm rfl;have H3:=nm.2;refine I ?_;exact fs ⟨H3,rfl⟩;refine sf ?_;intro _ _ E4 _;have O:=aa5 E4.2 O;have E:=xt E E4.2;refine cl oW (Ot _ _ _ (ht.ext E) H2) ?_
 rintro _ _ Cr rfl;have O:=aa5 Cr.2 O;have E:=xt E Cr.2;refine I ?_;by_cases ns:(qP (aj (cv).1))<=0;refine I ?_;exact bw (t:=2) (u:=3) (v1:=.bool false) (v2:=.int .i64 0) Z E (wR Af Ar (O2 hlk hP cy ns)) Z Z;refine I ?_;refine gO (I ?_);exact bJ ⟨k+1,rfl,rfl,U,(G6 hlk hP cy ns),U,E,O⟩;have KC:=KV hlk hP;refine I ?_;exact bw (t:=2) (u:=3) (v1:=.bool true) (v2:=.int .i64 0) Z ny (wR Af Ar KC) Z Z;refine I ?_;exact bw (t:=2) (u:=3) (v1:=.bool false) (v2:=.int .i64 0) Z A2 (O4 Af (λh=>fy (Pg Af h))) Z Z;refine I ?_;exact bw (t:=2) (u:=3) (v1:=.bool false) (v2:=.int .i64 130) Z A2 (O3 kb1) Z Z
def di :
 CL 40 #[.bool true] w (aI w λv w'=>v=.tuple #[]):=by
 refine aE func40 Z (I ?_);exact H6 (mg Z) (aa1 _) Z
def oy {a:Addr}(hE:Er w a):
 CL 40 #[.bool false] w (k9 (pE a) w):=by
 refine gN func40 Z (I ?_);refine aa (bE (v:=eV a) (b:=0) (o:=0) YK Z Z (ab3 (ad1 (aa1 _) hE) Z) ?_);refine aa (Eh (ty':=316) (u:=.pointer (some a)) Z ?_);exact fj ⟨(aa1 _),rfl⟩
def AJ :
 CL 146 #[.slice A n C,.int .i64 0] w (aI w λv w'=>v=.slice A n C):=by
 refine aE func146 Z (I ?_);refine cl fe di ?_;rintro _ _ E rfl;have O:=E.2;refine I ?_;exact am (t:=4) (v:=.slice A n C) Z O Z Z
def Hb {a:Addr}(hE:Er w a):
 CL 146 #[.slice none 0 0,.int .i64 130] w (k9 (pE a) w):=by
 refine gN func146 Z (I ?_);refine aa (c7 (vs:=[.bool false]) fe Z (oy (ad1 (aa1 _) hE)) (λ_ E=>?_));have O:=E;refine I ?_;exact fj ⟨O,rfl⟩
def kX {l m:List UInt8}:
 CL 99 #[.agg #[S l,S m],.int .i64 0] w (aI w λv w'=>v=.agg #[S l,S m]):=by
 refine aE func99 Z (I ?_);refine bx (λAo Af O=>?_);have E:=Af.2;refine al aY (λ_ Am A2=>?_);have⟨O,E⟩:=bn Am.2 O E;refine I ?_;refine cl fe di ?_;rintro _ _ Aq rfl;have⟨O,A2,E⟩:=cj Aq.2 O A2 E;refine I ?_;refine SA A2 (λ_ Ab Ap=>?_);have O:=pb Ab O;have E:=bh Ab E;refine I ?_;refine aX (v:=.agg #[S l,S m]) (bY  rfl ?_) E Z;refine ai (t:=4) (cs:=[S l,S m]) (b:=Ao.heap.size) (o:=0) iO Z bV ?_ ?_;exact Z;exact aa0 Ap (i:=0) Z
def K4 {k l m n:List UInt8}:
 CL 104 #[.agg #[S k,S l,S m,S n],.int .i64 0] w (aI w λv w'=>v=.agg #[S k,S l,S m,S n]):=by
 refine aE func104 Z (I ?_);refine bx (λAo Af E=>?_);have O:=Af.2;refine al dk (λ_ Am A2=>?_);have⟨E,O⟩:=bn Am.2 E O;refine I ?_;refine cl fe di ?_;rintro _ _ Aq rfl;have⟨E,A2,O⟩:=cj Aq.2 E A2 O;refine I ?_;refine aa (aN (cs:=[S k,S l,S m,S n]) (b:=w.heap.size) (o:=0) en Z dE Z (aa0 E (i:=0) Z) ?_);refine SA A2 (λ_ Ab Ap=>?_);have E:=pb Ab E;have O:=bh Ab O;refine I ?_;refine aX (v:=.agg #[S k,S l,S m,S n]) (bY  rfl ?_) O Z;refine ai (t:=4) (cs:=[S k,S l,S m,S n]) (b:=Ao.heap.size) (o:=0) en Z dE ?_ ?_;exact Z;exact aa0 Ap (i:=0) Z
end
section
open Go Go.Eng Go.RowKit Tryz
def nS (n:Nat):List UInt8:=ae (n:Int)
def Fi (n:Nat):Prop:=n<10^200
def Fz (z:Int):Prop:=z.natAbs<10^200
def Fz.fits {z:Int}(h:Fz z):fits z=true:=qa1 h
def Fi.z (h:Fi n):Fz (n:Int):=by simpa[Fz,Fi]using h
def Fz.int {z:Int}(h:Fz z):isInt (ae z)=true:=bi h.fits
def K5 {a b:Int}(ha:Fz a)(hb:Fz b)(h:Fz (a+b)):xQ (ae a) (ae b)=some (ae (a+b)):=by
 rw[xU ka1,aK,aK];unfold bc;rw[if_pos h.fits]
def Ut {a b:Int}(ha:Fz a)(hb:Fz b)(h:Fz (a-b)):aW (ae a) (ae b)=some (ae (a-b)):=by
 rw[pj ka1,aK,aK];unfold bc;rw[if_pos h.fits]
def K6 {a b:Int}(ha:Fz a)(hb:Fz b)(h:Fz (a*b)):az (ae a) (ae b)=some (ae (a*b)):=by
 rw[gz ka1,aK,aK];unfold bc;rw[if_pos h.fits]
def uP {a b:Int}(ha:Fz a)(hb:Fz b)(h0:b≠0)(h:Fz (a/b)):dm (ae a) (ae b)=some (ae (a/b),ae (a%b)):=by
 rw[lz ka1 (by rw[gE,gD];omega),aK,aK];unfold bc;rw[if_pos h.fits];rfl
def K7 {a b:Int}(ha:Fz a)(hb:Fz b):dM (ae a) (ae b)=aO a b:=by
 unfold dM;rw[if_pos ka1,aK,aK]
def Xu:([48]:List UInt8)=nS 0:=by decide +kernel
def K8:([49]:List UInt8)=nS 1:=by decide +kernel
def wS:([50]:List UInt8)=nS 2:=by decide +kernel
def Zl:([52]:List UInt8)=nS 4:=by decide +kernel
def dO {z:Int}:(ae z=[48])↔z=0:=⟨λh=>mQ (h.trans Xu),λh=>by subst h;exact Xu.symm⟩
def kr {a b:Int}(h:Fz a)(hb:0<b):Fz (a/b):=by
 unfold Fz at *
 refine Nat.lt_of_le_of_lt ?_ h
 obtain⟨k,rfl⟩:∃k:Nat,b=k:=⟨b.toNat,by omega⟩
 rcases Int.eq_nat_or_neg a with⟨n,rfl|rfl⟩
 · have:((n:Int)/(k:Int))=((n/k:Nat):Int):=rfl
   rw[this,Int.natAbs_natCast,Int.natAbs_natCast];exact Nat.div_le_self _ _
 · have h1:-(n:Int)<=-(n:Int)/(k:Int):=by
    rw[Int.le_ediv_iff_mul_le hb]
    have:(n:Int)<=(n:Int)*(k:Int):=by have:=Int.mul_le_mul_of_nonneg_left (show(1:Int)<=k by omega) (show(0:Int)<=n by omega);simpa using this
    rw[Int.neg_mul];omega
   have h2:-(n:Int)/(k:Int)<=0:=by
    refine Int.ediv_le_of_le_mul hb ?_
    simp
   omega
abbrev N2:=Nat×Nat
def sZ (a b:Nat):Nat:=if a%b=0 then a/b else a/b+1
def qk (S n d:Nat):N2:=(n*S/d,sZ (n*S) d)
def m9 (S:Nat)(a b:N2):N2:=(a.1*b.1/S,sZ (a.2*b.2) S)
def vW (S:Nat)(a b:N2):N2:=(a.1*S/b.2,sZ (a.2*S) b.1)
def lH (a:N2)(n d:Nat):N2:=(a.1*n/d,sZ (a.2*n) d)
def Rt (a b:N2):N2:=(a.1+b.1,a.2+b.2)
def BD (a b:N2):Int×Int:=((a.1:Int)-b.2,(a.2:Int)-b.1)
def yt (hb:0<b):sZ a b<=a:=by
 unfold sZ
 split
 · exact Nat.div_le_self _ _
 · rename_i h
   have h1:=Nat.div_add_mod a b
   have h2:a/b<=b*(a/b):=Nat.le_mul_of_pos_left _ hb
   omega
def Bk (k:Nat)(p:N2):Prop:=p.1<10^k/\p.2<10^k
def yu (p:N2):Bool:=decide (p.1<10^95)&&decide (p.2<10^95)
def fJ {p:N2}(h:yu p=true):Bk 95 p:=by simpa[yu,Bk]using h
structure Sc (S:Nat):Prop where
 pos:0<S
 lt:S<10^95
def iH {m:Nat}(ha:a<10^k)(hb:b<10^m):a*b<10^(k+m):=by
 rw[Nat.pow_add];exact Nat.mul_lt_mul'' ha hb
def jb {m:Nat}(h:a<10^k)(hl:k<=m):a<10^m:=qb1 h (Nat.pow_le_pow_right U hl)
def Bk.mono {m:Nat}{p:N2}(h:Bk k p)(hl:k<=m):Bk m p:=⟨jb h.1 hl,jb h.2 hl⟩
def Bk.fi {p:N2}(h:Bk k p)(hl:k<=200):Fi p.1/\Fi p.2:=⟨jb h.1 hl,jb h.2 hl⟩
def g8 (h:a<10^k)(hl:k<=200):Fi a:=jb h hl
def fK {m:Nat}(ha:a<10^k)(hb:b<10^m)(hl:k+m<=200):Fi (a*b):=g8 (iH ha hb) hl
def K9 {S:Nat}{a b:N2}(hS:0<S)(ha:Bk 95 a)(hb:Bk 95 b):Bk 190 (m9 S a b):=
 ⟨Nat.lt_of_le_of_lt (Nat.div_le_self _ _) (iH ha.1 hb.1),Nat.lt_of_le_of_lt (yt hS) (iH ha.2 hb.2)⟩
def Lb {S:Nat}{a b:N2}(hS:Sc S)(h0:0<b.1)(ha:Bk 95 a):Bk 190 (vW S a b):=
 ⟨Nat.lt_of_le_of_lt (Nat.div_le_self _ _) (iH ha.1 hS.lt),Nat.lt_of_le_of_lt (yt h0) (iH ha.2 hS.lt)⟩
def oA (nx:Nat->N2->N2)(t0:N2):Nat->N2
 |0=>t0
 |k+1=>nx (k+1) (oA nx t0 k)
def pS (T:Nat->N2):Nat->N2
 |0=>(0,0)
 |k+1=>Rt (pS T k) (T k)
def Lc (nx:Nat->N2->N2):Nat->Nat->N2->N2->Nat->Option N2
 |0,_,_,_,_=>none
 | f +1,n,t,a,l=>if yu t=true then
  (if 2<=n/\t.2<=2/\t.2*2<=l+2 then some (a.1+t.1,a.2+t.2+(t.2+4))else Lc nx f (n+1) (nx n t) (Rt a t) t.2)
   else none
def yv (nx:Nat->N2->N2)(t0:N2):Option N2:=Lc nx 1000 1 t0 (0,0) 0
structure AK (T:Nat->N2)(m:Nat):Prop where
 lt:m<1000
 bd:∀k≤m,Bk 95 (T k)
 go:∀k<m,k=0\/¬((T k).2<=2/\(T k).2*2<=(T (k-1)).2+2)
 pos:0<m
 stop:(T m).2<=2/\(T m).2*2<=(T (m-1)).2+2
def vY (T:Nat->N2)(m:Nat):N2:=((pS T (m+1)).1,(pS T (m+1)).2+((T m).2+4))
def AL {nx:Nat->N2->N2}{t0 r:N2}:∀(f k l:Nat),k+f<=1000->(k=0\/l=(oA nx t0 (k-1)).2)->(∀j<k,Bk 95 (oA nx t0 j))->(∀j<k,j=0\/¬((oA nx t0 j).2<=2/\(oA nx t0 j).2*2<=(oA nx t0 (j-1)).2+2))->
 Lc nx f (k+1) (oA nx t0 k) (pS (oA nx t0) k) l=some r->∃m,AK (oA nx t0) m/\vY (oA nx t0) m=r
 |0,_,_,_,_,_,_,h=>by simp[Lc]at h
 | f + 1,k,l,hk,hl,hb,hg,h=>by
   unfold Lc at h
   by_cases h1:yu (oA nx t0 k)=true
   · rw [if_pos h1]at h
     have hb':∀j≤k,Bk 95 (oA nx t0 j):=λj E=>by
      by_cases e:j=k
      · subst e;exact fJ h1
      · exact hb j U
     split at h
     · rename_i hs
       cases h
       have hl':l=(oA nx t0 (k-1)).2:=by rcases hl with e|e;omega;exact e
       exact⟨k,⟨by omega,hb',hg,by omega,hs.2.1,by rw[<-hl'];exact hs.2.2⟩,rfl⟩
     · rename_i hs
       refine AL f (k+1) _ U (Or.inr Z) (λj E=>hb' j U) (λj E=>?_) h
       by_cases e:j=k
       · subst e
         by_cases e0:j=0
         · exact Or.inl e0
         · refine Or.inr λhc=>hs ⟨by omega,hc.1,?_⟩
           rcases hl with e|e;omega;rw[e];exact hc.2
       · exact hg j U
   · rw[if_neg h1]at h;cases h
def uQ {nx:Nat->N2->N2}{t0 r:N2}(h:yv nx t0=some r):∃m,AK (oA nx t0) m/\vY (oA nx t0) m=r:=
 AL 1000 0 0 U (Or.inl Z) (λj E=>by omega) (λj E=>by omega) h
def Fv {T:Nat->N2}{m:Nat}(hT:∀k≤m,Bk 95 (T k)):∀k≤m+1,(pS T k).1<=k*10^95/\(pS T k).2<=k*10^95
 |0,_=>by simp[pS]
 | k+1,hk=>by
   obtain⟨h1,h2⟩:=Fv hT k U
   obtain⟨h3,h4⟩:=hT k U
   simp only[pS,Rt,Nat.add_mul,Nat.one_mul]
   exact⟨by omega,by omega⟩
def AK.tot {T:Nat->N2}{m:Nat}(h:AK T m)(hk:k<=m+1):Bk 99 (pS T k):=by
 obtain⟨_,_⟩:=Fv h.bd k hk
 have h3:k*10^95<=1000*10^95:=Nat.mul_le_mul_right _ (by have:=h.lt;omega)
 have h4:1000*10^95<10^99:=by decide
 exact⟨by omega,by omega⟩
def jT (S:Nat):Nat->N2->Nat->Option (N2×Nat)
 |0,_,_=>none
 |f+1,x,h=>if S<x.2*2 then jT S f (lH x 1 2) (h+1)else some (x,h)
def HU (S:Nat):Nat->N2->Option N2
 |0,a=>if yu a=true then some a else none
 |h+1,a=>if yu a=true then HU S h (m9 S a a)else none
def Ld (S:Nat)(x:N2)(n:Nat)(t:N2):N2:=lH (m9 S t x) 1 n
def yw (S:Nat)(x:N2):Option N2:=if yu x=true then(jT S 200 x 0).bind λp=>(yv (Ld S p.1) (1*S,1*S)).bind (HU S p.2)else none
def Pk {x:N2}(h:Bk k x):Bk k (lH x 1 2):=
 ⟨Nat.lt_of_le_of_lt (by simpa[lH]using Nat.div_le_self _ _) h.1,Nat.lt_of_le_of_lt (by simpa[lH]using yt (a:=x.2) (b:=2) U) h.2⟩
def Uu {S:Nat}{x:N2}{p:N2×Nat}(hh:jT S f x h=some p)(hl:S<x.2*2):∃g,f=g+1/\jT S g (lH x 1 2) (h+1)=some p:=by
 cases f with
 |zero=>simp[jT]at hh
 |succ g=>unfold jT at hh;rw[if_pos hl]at hh;exact⟨g,rfl,hh⟩
def Uv {S:Nat}{x:N2}{p:N2×Nat}(hh:jT S f x h=some p)(hl:¬S<x.2*2):p=(x,h):=by
 cases f with
 |zero=>simp[jT]at hh
 |succ g=>unfold jT at hh;rw[if_neg hl]at hh;cases hh;rfl
def Zm {S:Nat}{a r:N2}(hh:HU S (h-i) a=some r)(hl:i<h):Bk 95 a/\HU S (h-(i+1)) (m9 S a a)=some r:=by
 obtain⟨k,hk⟩:∃k,h-i=k+1:=⟨h-i-1,by omega⟩
 rw[hk]at hh
 unfold HU at hh
 rw[show h-(i+1)=k by omega]
 split at hh
 · rename_i h1;exact⟨fJ h1,hh⟩
 · cases hh
def Zn {S:Nat}{a r:N2}(hh:HU S (h-i) a=some r)(hl:¬i<h):a=r/\Bk 95 r:=by
 rw[show h-i=0 by omega]at hh
 unfold HU at hh
 split at hh
 · rename_i h1;cases hh;exact⟨rfl,fJ h1⟩
 · cases hh
def Fx {S:Nat}{x r:N2}(h:yw S x=some r):Bk 95 x/\∃p s,jT S 200 x 0=some p/\yv (Ld S p.1) (1*S,1*S)=some s/\HU S p.2 s=some r:=by
 unfold yw at h
 split at h
 · rename_i h1
   refine⟨fJ h1,?_⟩
   cases hp:jT S 200 x 0 with
   |none=>rw[hp]at h;cases h
   | some p=>
     rw[hp,Option.bind_some]at h
     cases hs:yv (Ld S p.1) (1*S,1*S)with
     |none=>rw[hs]at h;cases h
     |some s=>rw[hs,Option.bind_some]at h;exact⟨p,s,rfl,hs,h⟩
 · cases h
def Ru {S:Nat}:∀{h:Nat} {a r:N2},HU S h a=some r->Bk 95 r
 |0,a,r,h=>by unfold HU at h;split at h;rename_i h1;cases h;exact fJ h1;cases h
 |k+1,a,r,h=>by unfold HU at h;split at h;exact Ru h;cases h
def Uw {S:Nat}{x r:N2}(h:yw S x=some r):Bk 95 r:=by
 obtain⟨_,p,s,_,_,h3⟩:=Fx h
 exact Ru h3
def Ux (S:Nat)(y:N2)(fr n:Nat)(u:N2):N2:=lH (m9 S u y) 2 (fr+2*n)
end
section
set_option maxRecDepth 100000
open Go Go.Eng Go.RowKit Tryz
attribute [local irreducible] wpListIn Code.wpIn Oper.wpIn Exit.then Exit.inBlock Exit.noGoto
set_option maxHeartbeats 40000000
section
variable {f:FuncId}{a:Array Value}
def l8 {X Y:Value}(h:CL f a w (aI w λv _=>v=X))(e:X=Y):CL f a w (aI w λv _=>v=Y):=e▸h
def cB {X Y:Bool}(h:CL f a w (aI w λv _=>v=.bool X))(e:X=Y):CL f a w (aI w λv _=>v=.bool Y):=e▸h
end
def Zo (h:nS (a%b)=[48]):S (nS (a/b))=S (nS (sZ a b)):=by
 have:=dO.1 h
 unfold sZ;rw[if_pos U]
def Zp (h:¬nS (a%b)=[48]):S (nS (a/b+1))=S (nS (sZ a b)):=by
 unfold sZ;rw[if_neg λe=>h (by rw[e];rfl)]
def Uy (h:Fi a):Fi (a/b):=Nat.lt_of_le_of_lt (Nat.div_le_self _ _) h
def Uz (h:Fi a)(hb:0<b):Fi (sZ a b):=Nat.lt_of_le_of_lt (yt hb) h
def Xv (h:Fi a)(hb:0<b)(h0:¬nS (a%b)=[48]):Fi (a/b+1):=by
 have h1:=Uz h hb
 unfold sZ at h1
 rwa [if_neg λe=>h0 (by rw[e];rfl)]at h1
def Le (h:Fi (a+b)):Fi a/\Fi b:=by unfold Fi at *;omega
def UA (ha:Fi a)(hb:Fi b)(h0:0<b):dm (nS a) (nS b)=some (nS (a/b),nS (a%b)):=uP ha.z hb.z U (Uy ha).z
def Pm {l m:List UInt8}{a b:Int}(hl:l=ae a)(hm:m=ae b)(ha:Fz a)(hb:Fz b)(h:Fz (a+b))(ht:Tb w):
 CL 222 #[S l,S m] w (aI w λv w'=>v=S (ae (a+b))):=by
 subst hl hm;refine aE func222 Z (I ?_);refine cl Im (l8 (Y:=.tuple #[S (ae (a+b)),.int .i64 0]) (x5 _ _ _ (ht.ext (aa1 _))) (qb2 iC (K5 ha hb h))) ?_;rintro _ _ E rfl;have O:=E.2;refine I ?_;exact am (t:=4) (v:=S (ae (a+b))) Z O Z Z
def Fy {l m:List UInt8}{a b:Int}(hl:l=ae a)(hm:m=ae b)(ha:Fz a)(hb:Fz b)(h:Fz (a-b))(ht:Tb w):
 CL 227 #[S l,S m] w (aI w λv w'=>v=S (ae (a-b))):=by
 subst hl hm;refine aE func227 Z (I ?_);refine cl D9 (l8 (Y:=.tuple #[S (ae (a-b)),.int .i64 0]) (sQ _ _ _ (ht.ext (aa1 _))) (qb2 iC (Ut ha hb h))) ?_;rintro _ _ E rfl;have O:=E.2;refine I ?_;exact am (t:=4) (v:=S (ae (a-b))) Z O Z Z
def Pn {l m:List UInt8}{a b:Int}(hl:l=ae a)(hm:m=ae b)(ha:Fz a)(hb:Fz b)(h:Fz (a*b))(ht:Tb w):
 CL 219 #[S l,S m] w (aI w λv w'=>v=S (ae (a*b))):=by
 subst hl hm;refine aE func219 Z (I ?_);refine cl QP (l8 (Y:=.tuple #[S (ae (a*b)),.int .i64 0]) (ED _ _ _ (ht.ext (aa1 _))) (qb2 iC (K6 ha hb h))) ?_;rintro _ _ E rfl;have O:=E.2;refine I ?_;exact am (t:=4) (v:=S (ae (a*b))) Z O Z Z
def Lf {l m:List UInt8}{a b:Int}(hl:l=ae a)(hm:m=ae b)(ha:Fz a)(hb:Fz b)(hp:0<b)(ht:Tb w):
 CL 218 #[S l,S m] w (aI w λv w'=>v=S (ae (a/b))):=by
 subst hl hm;have O:b≠0:=U;refine aE func218 Z (I ?_);refine clb za (hc:=l8 (Y:=.tuple #[S (ae (a/b)),S (ae (a%b)),.int .i64 0]) (j6 _ _ _ (ht.ext (aa1 _))) (qb2 vT (uP ha hb O (kr ha U)))) (hk:=?_);rintro _ _ E rfl;have A2:=E.2;refine I ?_;exact am (t:=4) (v:=S (ae (a/b))) Z A2 Z Z
def kf {l m:List UInt8}(hl:l=nS a)(hm:m=nS b)(h:Fi (a+b))(ht:Tb w):CL 222 #[S l,S m] w (aI w λv _=>v=S (nS (a+b))):=Pm hl hm (Le h).1.z (Le h).2.z h.z ht
def gd {l m:List UInt8}(hl:l=nS a)(hm:m=nS b)(ha:Fi a)(hb:Fi b)(h:Fi (a*b))(ht:Tb w):CL 219 #[S l,S m] w (aI w λv _=>v=S (nS (a*b))):=Pn hl hm ha.z hb.z h.z ht
def pU {l m:List UInt8}(hl:l=nS a)(hm:m=nS b)(ha:Fi a)(hb:Fi b)(hp:0<b)(ht:Tb w):CL 218 #[S l,S m] w (aI w λv _=>v=S (nS (a/b))):=Lf hl hm ha.z hb.z U ht
def yx {l m:List UInt8}(hl:l=nS a)(hm:m=nS b)(ha:Fi a)(hb:Fi b)(hp:0<b)(ht:Tb w):
 CL 220 #[S l,S m] w (aI w λv w'=>v=S (nS (sZ a b))):=by
 subst hl hm;refine aE func220 Z (I ?_);refine cl za (l8 (Y:=.tuple #[S (nS (a/b)),S (nS (a%b)),.int .i64 0]) (j6 _ _ _ (ht.ext (aa1 _))) (qb2 vT (UA ha hb hp))) ?_;rintro _ _ A2 rfl;have E:=A2.2;refine I ?_;refine sh (b:=[48]) (I ?_);by_cases cm:(nS (a%b))=([48]);refine I ?_;exact am (t:=4) (v:=S (nS (a/b))) Z E (Zo cm) Z;refine I ?_;refine cl ml (kf Z K8 (Xv ha hp cm) (ht.ext E)) ?_;rintro _ _ O rfl;have E:=xt E O.2;refine I ?_;exact am (t:=4) (v:=S (nS (a/b+1))) Z E (Zp cm) Z
def uS (hn:n<1000000000)(ht:Tb w):
 CL 185 #[.int .i64 n] w (aI w λv w'=>v=S (nS n)):=by
 refine aE func185 Z (I ?_);refine clb Ii (hc:=l8 (Y:=S (nS n)) (xR _ _ U U (ht.ext (aa1 _))) (qb2 S (zR n))) (hk:=?_);rintro _ _ E rfl;have O:=E.2;refine I ?_;exact am (t:=2) (v:=S (nS n)) Z O Z Z
def pV :aP w w:=aa1 _
section
variable {f:FuncId}{a:Array Value}{m:Nat}
def AM {o o':Option Rows}(h:CL f a w (aI w λv w'=>nh lo w' n o v))(e:o=o'):CL f a w (aI w λv w'=>nh lo w' n o' v):=e▸h
def Xw {L:Rows}(h:CL f a w (aI w λv w'=>dy lo w' v n L))(e:n=m):CL f a w (aI w λv w'=>dy lo w' v m L):=e▸h
end
def jt {L:Rows}(hM:Mt w lo A n H L)(hB:Bd n L){m:Nat}{K:Rows}(hN:Mt w lo2 B m G K)(hB2:Bd m K){P:Rows}(e:dp n L m K=some P)(ht:Tb w):
 CL 93 #[.slice A n C,.slice B m D] w (aI w λv w'=>dy w.heap.size w' v n P):=by
 refine aE func93 Z (I ?_);refine cl R9 (AM (o':=some P) (yr (hM.ext pV) hB (hN.ext pV) hB2 (ht.ext pV)) e) ?_;rintro _ _ Ap ⟨Ar,rfl,A2,Af,Am,rfl,Ao,Aq⟩;have O:=Ap.2;have E:=ab1 Aq;refine I ?_;refine cl Ca AJ ?_;rintro _ _ Ab rfl;have E:=aa5 Ab.2 E;have O:=xt O Ab.2;refine I ?_;exact am (t:=4) (v:=.slice A2 n Af) Z O ⟨A2,Af,Am,rfl,Ao,(E).mt⟩ Z
def yy {L:Rows}(hM:Mt w lo A n H L)(hB:Bd n L){P:Rows}(e:eN n L=some P)(ht:Tb w):
 CL 91 #[.slice A n C] w (aI w λv w'=>dy w.heap.size w' v n P):=by
 refine aE func91 Z (I ?_);refine cl VI (AM (o':=some P) (Fu (hM.ext pV) hB (ht.ext pV)) e) ?_;rintro _ _ Ap ⟨Ar,rfl,A2,Af,Am,rfl,Ao,Aq⟩;have O:=Ap.2;have E:=ab1 Aq;refine I ?_;refine cl Ca AJ ?_;rintro _ _ Ab rfl;have E:=aa5 Ab.2 E;have O:=xt O Ab.2;refine I ?_;exact am (t:=2) (v:=.slice A2 n Af) Z O ⟨A2,Af,Am,rfl,Ao,(E).mt⟩ Z
def Lg {L:Rows}(hM:Mt w lo A n H L)(hB:Bd n L){a:Addr}(hE:Er w a)(e:eN n L=none)(ht:Tb w):
 CL 91 #[.slice A n C] w (k9 (pE a) w):=by
 refine gN func91 Z (I ?_);refine cl VI (AM (o':=none) (Fu (hM.ext pV) hB (ht.ext pV)) e) ?_;rintro _ _ A2 rfl;have E:=A2.2;refine I ?_;refine aa (c7 (vs:=[.slice none 0 0,.int .i64 130]) Ca Z (Hb (ad1 E hE)) (λ_ O=>?_));have E:=xt E O;refine I ?_;exact fj ⟨E,rfl⟩
def uT {L:Rows}(hM:Mt w lo A n H L)(hB:Bd n L)(hv:vM n L=true)(hl:(L 0).length=k)(ht:Tb w):
 CL 92 #[.slice A n C] w (aI w λv w'=>dy w.heap.size w' v k (λj=>l5 L n j)):=by
 refine aE func92 Z (I ?_);refine clb VJ (hc:=Xw (m:=k) (Rs (hM.ext pV) hB (ht.ext pV)) (by rw[if_pos hv];exact hl)) (hk:=?_);rintro _ _ Ap ⟨E,O,Am,rfl,Ao,Af⟩;have A2:=Ap.2;have Ab:=ab1 Af;refine I ?_;exact am (t:=2) (v:=.slice E k O) Z A2 ⟨E,O,Am,rfl,Ao,(Ab).mt⟩ Z
def pW :
 CL 95 #[.agg #[.slice A n C,.slice Y ny CY,.slice B nb CB]] w (aI w λv w'=>v=.int .i64 n):=by
 refine aE func95 Z (I ?_);refine bx (λ_ E _=>?_);have O:=E.2;refine I ?_;exact am (t:=2) (v:=.int .i64 n) Z O Z Z
def Lh {L:Rows}(hM:Mt w lo A n H L)(hn:0<n):
 CL 96 #[.agg #[.slice A n C,.slice Y ny CY,.slice B nb CB]] w (aI w λv w'=>v=.int .i64 (((L 0).length:Nat):Int)):=by
 refine aE func96 Z (I ?_);refine bx (λ_ O _=>?_);have E:=O.2;have A2:=ab2 (hM.ext E) (i:=0) U;refine I ?_;refine gR A2 ?_ (i:=0);refine I ?_;exact am (t:=2) (v:=.int .i64 (((L 0).length:Nat):Int)) Z E Z Z
def lI {b:List R}(hb:Rw w lo A (ag b))(hbl:b.length*32<=140737488355328):
 CL 61 #[.slice A b.length C] w (aI w λv w'=>dy w.heap.size w' v b.length (bI b)):=by
 refine aE func61 Z (I ?_);have D2:World.ownsRow w w.heap.size 28 1 (.slice none 0 0) 0 []:=bM;have C1:Wr w w.heap.size w.heap.size 0 (λ_=>.nilIface) (bI b):=Wr.nil;have E9:=aa1 w;refine cg [(2,2),(4,4),(7,16)] (λE0 e W=>∃i:Nat,∃H2:Nat->Value,∃Af:Value,(b.length-i=E0)/\(e 7=.int .i64 i)/\(e 2=Af)/\(i<=b.length)/\(∀zz,zz<i->aA Af (H2 zz))/\(w.heap.size<=W.heap.size)/\(aP w W)/\(W.ownsRow w.heap.size 28 1 Af i ((List.range i).map H2))/\(Wr W w.heap.size W.heap.size i H2 (bI b))) (b.length-0) ⟨0,(λ_=>.nilIface),.slice none 0 0,rfl,rfl,rfl,(qa7 _),(λj Az=>by omega),(qa0 _),E9,D2,C1⟩ ?_;rintro _ _ _ ⟨i,H2,Af,rfl,FR,B0,hi_i,B1,H4,E,O,A2⟩;have G0:=bz E;by_cases hli:i<b.length;have E4:=bA (hb.ext E) (k:=(i)) U;refine I ?_;refine lU E4 (I ?_);refine al aY (λ_ Av CG=>?_);have E7:=bg O;have O:=ab Av.2 O;have A2:=aa2 Av.2 A2;have E:=xt E Av.2;refine SA CG (λAb Aq As=>?_);have O:=aw Aq E7 O;have A2:=ab7 Aq U A2;have E:=bh Aq E;have H3:=iQ Aq;refine I ?_;refine aa (aT (v:=Af) B0 ?_);refine I ?_;have nm:=dN O;refine BS (λod Ax _ E5=>?_);have Ix:=bg O;have O:=ab Ax O;have A2:=aa2 Ax A2;have⟨As,E⟩:=bn Ax As E
 have Am:World.ownsRow od Ab.heap.size 33 2 (.slice (some ⟨Ab.heap.size,0,none⟩) 1 1) [ar b i].length (ag [ar b i]):=aQ E5 Z Z;refine BS (λ_ Ap _ EW=>?_);have O:=ab Ap O;have A2:=aa2 Ap A2;have As:=be Ap As;have Am:=ab Ap Am;have E:=xt E Ap;refine AP O (aa7 EW) (λAw ES B2 Ar Ay=>?_);have wr:∀Ao,Ao<i->aA Aw (H2 Ao):=λAo hi=>aa8 Ay (B1 Ao hi) (Wr.own A2 Ao hi);have A2:=ad0 Ar B1 A2;have E6:=aa8 Ay (aa4 (λg h1 h2=>by cases h1;have h3:Ab.heap.size<_:=nm _ h2;omega)) Am;have Am:=ab4 (aa4 (λg h1 h2=>by cases h1;have h3:Ab.heap.size<_:=nm _ h2;omega)) Ar Am;have E:=bo O U U E Ar;have GC:=Ar.size;refine aa (aL (v:=Aw) Z ?_);refine I ?_;refine gO (I ?_);have D1:World.ownsRow ES Ab.heap.size 33 2 (.slice (some ⟨Ab.heap.size,0,none⟩) 1 1) ((bI b) i).length (ag ((bI b) i)):=aQ Am Z Z;have Cr:=cD (lo':=w.heap.size) U D1;have E1:∀zz,zz<i->aA (.slice (some ⟨Ab.heap.size,0,none⟩) 1 1) (H2 zz):=Wr.far A2 Am U;refine I ?_;exact bJ ⟨i+1,bX H2 i (.slice (some ⟨Ab.heap.size,0,none⟩) 1 1),Aw,rfl,rfl,rfl,U,(λj Az=>dZ wr E6 j Az),U,E,(aQ B2 Z (eM H2 i (.slice (some ⟨Ab.heap.size,0,none⟩) 1 1)).symm),(by have h:=Wr.push A2 Cr E1;rwa [pM]at h)⟩
 refine I ?_;refine aa (aT (v:=Af) B0 ?_);refine aa (aL (v:=Af) Z ?_);refine I ?_;exact am (t:=2) (v:=Af) Z E (by have h:=pO O A2;rw[show i=b.length by omega]at h;exact h.mono U) Z
end
end Go.Proofs.YtlmihmlnpjkblaaGreatDoor
namespace La
variable {k n i j s:Nat}
abbrev Mx:=Nat->Nat->Rat
def sm:Nat->(Nat->Rat)->Rat
 |0,_=>0
 |n+1,f=>sm n f+f n
def av {f g:Nat->Rat}:∀{n:Nat},(∀i,i<n->f i=g i)->sm n f=sm n g
 |0,_=>rfl
 |n+1,h=>by unfold sm;rw[av (λi hi=>h i J),h n J]
def dH:∀{n:Nat} {f:Nat->Rat},(∀i,i<n->f i=0)->sm n f=0
 |0,_,_=>rfl
 |n+1,f,h=>by unfold sm;rw[dH (λi hi=>h i J),h n J];grind
def lJ (f g:Nat->Rat):∀n,sm n (λi=>f i+g i)=sm n f+sm n g
 |0=>by simp only[sm];grind
 |n+1=>by simp only[sm];rw[lJ f g n];grind
def dz (c:Rat)(f:Nat->Rat):∀n,sm n (λi=>c*f i)=c*sm n f
 |0=>by simp only[sm];grind
 |n+1=>by simp only[sm];rw[dz c f n];grind
def pX (c:Rat)(f:Nat->Rat)(n:Nat):sm n (λi=>f i*c)=sm n f*c:=by
 rw[Rat.mul_comm,<-dz];exact av λi _=>qb7 _ _
def oC (f g:Nat->Rat):∀n,sm n (λi=>f i-g i)=sm n f-sm n g
 |0=>by simp only[sm];grind
 |n+1=>by simp only[sm];rw[oC f g n];grind
def ju (f:Nat->Nat->Rat)(m:Nat):∀n,sm n (λi=>sm m (λj=>f i j))=sm m (λj=>sm n (λi=>f i j))
 |0=>by simp only[sm];exact(dH λ_ _=>rfl).symm
 |n+1=>by simp only[sm];rw[ju f m n,<-lJ]
def iI {f:Nat->Rat}:∀{n:Nat},k<n->(∀i,i<n->i≠k->f i=0)->sm n f=f k
 | n+1,hk,h=>by
   unfold sm
   by_cases e:k=n
   · subst e;rw[dH (λi hi=>h i J J)];grind
   · rw[iI J (λi hi hne=>h i J hne),h n J J];grind
def uW (f:Nat->Rat)(a:Nat):∀b,sm (a+b) f=sm a f+sm b (λi=>f (a+i))
 |0=>by simp only[sm];grind
 | b+1=>by
   show sm (a+b) f+f (a+b)=sm a f+(sm b (λi=>f (a+i))+f (a+b))
   rw[uW f a b];grind
def sk (k i:Nat):Nat:=if i<k then i else i+1
def yz (f:Nat->Rat)(k:Nat):∀n,k<=n->sm (n+1) f=f k+sm n (λi=>f (sk k i))
 | 0,h=>by
   have:k=0:=J
   subst this;simp only[sm];grind
 | n +1,h=>by
   rw[show sm (n+1+1) f=sm (n+1) f+f (n+1)from rfl]
   by_cases e:k=n+1
   · subst e
     rw[av (g:=λi=>f (sk (n+1) i)) (n:=n+1) (λi hi=>by simp[sk,hi])]
     grind
   · rw[yz f k n J]
     show _=f k+(sm n (λi=>f (sk k i))+f (sk k n))
     rw[show sk k n=n+1 by unfold sk;rw[if_neg J]]
     grind
def mul (k:Nat)(A B:Mx):Mx:=λi j=>sm k (λl=>A i l*B l j)
def one:Mx:=λi j=>if i=j then 1 else 0
def tr (A:Mx):Mx:=λi j=>A j i
def lQ (n m:Nat)(A B:Mx):Prop:=∀i,i<n->∀j,j<m->A i j=B i j
def mul_assoc (a b:Nat)(A B C:Mx)(i j:Nat):mul b (mul a A B) C i j=mul a A (mul b B C) i j:=by
 unfold mul
 rw[av (g:=λl=>sm a (λk=>A i k*B k l*C l j)) (λl _=>by rw[<-pX]),ju]
 exact av λl _=>by rw[<-dz];exact av λk _=>by grind
def mul_one {A:Mx}(h:j<n):mul n A one i j=A i j:=by
 unfold mul one
 rw[iI h (λl _ hl=>by rw[if_neg hl];grind)]
 simp
def one_mul {A:Mx}(h:i<n):mul n one A i j=A i j:=by
 unfold mul one
 rw[iI h (λl _ hl=>by rw[if_neg (λe=>hl e.symm)];grind)]
 simp
def ey {A A' B B':Mx}(h:∀l,l<k->A i l=A' i l)(h':∀l,l<k->B l j=B' l j):mul k A B i j=mul k A' B' i j:=
 av λl hl=>by rw[h l hl,h' l hl]
def yB (k:Nat)(A B:Mx)(i j:Nat):mul k A B j i=mul k (tr B) (tr A) i j:=av λ_ _=>qb7 _ _
def ker (s:Nat):∀(r:Nat) (Y:Mx),s<r->∃v:Nat->Rat,(∃j,j<r/\v j≠0)/\∀i,i<s->sm r (λj=>Y i j*v j)=0:=by
 induction s with
 | zero=>
   intro r Y h
   exact⟨λ_=>1,⟨0,h,by simp⟩,λi hi=>absurd hi J⟩
 | succ s ih=>
   intro r Y h
   by_cases O:∀j,j<r->Y s j=0
   · obtain⟨v,hv,h2⟩:=ih r Y J
     refine⟨v,hv,λi hi=>?_⟩
     by_cases e:i=s
     · subst e;exact dH λj A2=>by rw[O j A2];grind
     · exact h2 i J
   · have O:∃j,j<r/\Y s j≠0:=by
      refine qb6 λAf=>O λj A2=>qb6 λh=>Af ⟨j,A2,h⟩
     obtain⟨E,Aq,Ap⟩:=O
     obtain⟨r,rfl⟩:∃r',r=r'+1:=⟨r-1,by omega⟩
     obtain⟨v,⟨Ao,Ar,hv⟩,h2⟩:=ih r (λi j=>Y i (sk E j)-Y i E/Y s E*Y s (sk E j)) J
     let t:=sm r (λj=>Y s (sk E j)*v j)
     let w:Nat->Rat:=λj=>if j=E then-(t/Y s E)else v (if j<E then j else j-1)
     have Am:w E= -(t/Y s E):=by simp[w]
     have Ab:∀j,w (sk E j)=v j:=by
      intro j
      show(if sk E j=E then _ else _)=_
      unfold sk
      split
      · rename_i h;simp;omega
      · rename_i h;rw[if_neg J,if_neg J];rfl
     refine⟨w,⟨sk E Ao,by unfold sk;split <;>omega,by rw[Ab];exact hv⟩,λi hi=>?_⟩
     rw[yz _ E r J,Am,av (g:=λj=>Y i (sk E j)*v j) (λj _=>by rw[Ab])]
     by_cases e:i=s
     · subst e
       show Y i E*-(t/Y i E)+t=0
       grind
     · have h3:=h2 i J
       rw[av (g:=λj=>Y i (sk E j)*v j-Y i E/Y s E*(Y s (sk E j)*v j)) (λj _=>by grind),oC,dz]at h3
       show Y i E*-(t/Y s E)+_=0
       have h4:sm r (λj=>Y i (sk E j)*v j)-Y i E/Y s E*t=0:=h3
       grind
def Ll {r:Nat}{X Y:Mx}(h:lQ r r (mul s X Y) one):r<=s:=by
 refine Nat.le_of_not_lt λhlt=>?_
 obtain⟨v,⟨j,E,O⟩,h2⟩:=ker s r Y hlt
 refine O ?_
 have:sm r (λl=>mul s X Y j l*v l)=v j:=by
  rw[iI E (λl hl A2=>by rw[h j E l hl];unfold one;rw[if_neg (λe=>A2 e.symm)];grind)]
  rw[h j E j E];simp[one]
 rw[<-this]
 unfold mul
 rw[av (g:=λl=>sm s (λk=>X j k*(Y k l*v l))) (λl _=>by rw[<-pX];exact av λk _=>by grind),ju]
 exact dH λk hk=>by rw[dz,h2 k hk];grind
structure Xx (n m r:Nat)(A C F CL FR:Mx):Prop where
 eq:lQ n m A (mul r C F)
 cl:lQ r r (mul n CL C) one
 fr:lQ r r (mul m F FR) one
def Rk (n m r:Nat)(A:Mx):Prop:=∃C F CL FR,Xx n m r A C F CL FR
def Xx.mid {m r:Nat}{A C F CL FR X Y k3 V:Mx}(h:Xx n m r A C F CL FR)(hA:lQ n m A (mul s X Y))(_:k3=mul n CL X)(_:V=mul m Y FR):lQ r r (mul s k3 V) one:=by
 intro i hi j E
 subst k3 V
 have h1:mul m (mul n CL A) FR i j=mul m (mul n CL (mul r C F)) FR i j:=
  ey (λl hl=>ey (λ_ _=>rfl) (λk hk=>h.eq k hk l hl)) (λ_ _=>rfl)
 have h2:mul m (mul n CL A) FR i j=mul m (mul n CL (mul s X Y)) FR i j:=
  ey (λl hl=>ey (λ_ _=>rfl) (λk hk=>hA k hk l hl)) (λ_ _=>rfl)
 have h3:mul m (mul n CL (mul r C F)) FR i j=one i j:=by
  rw[ey (A':=mul r (mul n CL C) F) (B':=FR) (λl _=>(mul_assoc _ _ _ _ _ _ _).symm) (λ_ _=>rfl)]
  rw[ey (A':=F) (B':=FR) (λl _=>by
   rw[ey (A':=one) (B':=F) (λk hk=>h.cl i hi k hk) (λ_ _=>rfl)];exact one_mul hi) (λ_ _=>rfl)]
  exact h.fr i hi j E
 rw[<-h3,<-h1,h2]
 rw[ey (A':=mul s (mul n CL X) Y) (B':=FR) (λl _=>(mul_assoc _ _ _ _ _ _ _).symm) (λ_ _=>rfl)]
 exact(mul_assoc _ _ _ _ _ _ _).symm
def Xx.le {m r:Nat}{A C F CL FR X Y:Mx}(h:Xx n m r A C F CL FR)(hA:lQ n m A (mul s X Y)):r<=s:=Ll (h.mid hA Z Z)
def Rk.tr {m r:Nat}{A:Mx}(h:Rk n m r A):Rk m n r (tr A):=by
 obtain⟨C,F,CL,FR,h⟩:=h
 refine⟨La.tr F,La.tr C,La.tr FR,La.tr CL,⟨λi hi j E=>?_,λi hi j E=>?_,λi hi j E=>?_⟩⟩
 · show A j i=_;rw[h.eq j E i hi,yB]
 · rw[<-yB,h.fr j E i hi];unfold one;simp only[eq_comm]
 · rw[<-yB,h.cl j E i hi];unfold one;simp only[eq_comm]
def Rk.le_n {m r:Nat}{A:Mx}(h:Rk n m r A):r<=n:=by
 obtain⟨C,F,_,_,h⟩:=h
 exact Ll h.cl
def Rk.le_m {m r:Nat}{A:Mx}(h:Rk n m r A):r<=m:=h.tr.le_n
def Rk.mul_r {m q t:Nat}{A B:Mx}(hB:Rk k m q B)(hT:Rk n m t (mul k A B)):t<=q:=by
 obtain⟨C,F,_,_,h⟩:=hB
 obtain⟨_,_,_,_,O⟩:=hT
 exact O.le (X:=mul k A C) (Y:=F) λi _ j E=>by
  rw[ey (A':=A) (B':=mul q C F) (λ_ _=>rfl) (λl hl=>h.eq l hl j E)];exact(mul_assoc _ _ _ _ _ _ _).symm
end La
