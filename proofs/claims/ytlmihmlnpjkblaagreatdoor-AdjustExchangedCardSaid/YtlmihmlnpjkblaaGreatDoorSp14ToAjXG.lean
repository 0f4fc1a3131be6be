/- Part of the proof of a statement about an adjustment. -/
import Derived.Test.YtlmihmlnpjkblaaGreatDoorSp3ToSp13G
set_option linter.all false
namespace Go.Proofs.YtlmihmlnpjkblaaGreatDoor
variable {er f c T a b la lb0 ha hb f1 c1 f2 c2 f' c' x0 x1:Int}{xs:List Int}{l l1 m1 l2 m2 l3 m3 l4 m4:List UInt8}{lb:List Value}{pl n d g C CY CB lo CX k:Nat}{A Y B X:Option Addr}{w W:World}
section
set_option maxRecDepth 100000
open Go Go.Eng Go.RowKit Proofs.Tryz
attribute [local irreducible] wpListIn Code.wpIn Oper.wpIn Exit.then Exit.inBlock Exit.noGoto
set_option maxHeartbeats 40000000
def Vb {m y1 y2 y3 y4:List UInt8}{fr:Nat}(h1:1<=fr)(h20:fr<=20)(hc:∀W b1,aN w W->ar W b1 3 #[.int .i64 fr]->CL 152 #[.agg #[S [48],S [49],S [49,48,48],S [49],S [48],S [49],S [49],S [49],.func (.func 150) #[] #[pT b1]],.agg #[S l,S m],.int .i64 pl] W (aH W λv _=>v=.tuple #[.agg #[S y1,S y2,S y3,S y4],.int .i64 er]))(ht:Tb w):
 CL 105 #[.agg #[S l,S m],.int .i64 fr,.int .i64 pl] w (aH w λv w'=>v=.tuple #[.agg #[S y1,S y2,S y3,S y4],.int .i64 er]):=by
 refine aC func105 Z (I ?_);refine bx (λAv Az G=>?_);have E:=Az.2;refine bx (λAy As H=>?_);have G:=be As.2 G;have E:=xt E As.2;refine al k9 (λ_ Ar O=>?_);have G:=be Ar.2 G;have H:=be Ar.2 H;have E:=xt E Ar.2;refine I ?_;refine cl nN gO ?_;rintro _ _ Af rfl;have G:=be Af.2 G;have H:=be Af.2 H;have O:=be Af.2 O;have E:=xt E Af.2;refine cl nN gO ?_;rintro _ _ Ap rfl;have G:=be Ap.2 G;have H:=be Ap.2 H;have O:=be Ap.2 O;have E:=xt E Ap.2;refine cl nN gO ?_;rintro _ _ Ao rfl;have G:=be Ao.2 G;have H:=be Ao.2 H;have O:=be Ao.2 O;have E:=xt E Ao.2;refine cl nN gO ?_;rintro _ Ax Aq rfl;have G:=be Aq.2 G;have H:=be Aq.2 H;have O:=be Aq.2 O;have E:=xt E Aq.2;refine aa (b7 (vs:=[(0,.agg #[S [48],S [49]]),(1,.agg #[S [49,48,48],S [49]]),(2,.agg #[S [48],S [49]]),(3,.agg #[S [49],S [49]])]) (cells:=#[S [48],S [49],S [49,48,48],S [49],S [48],S [49],S [49],S [49],.nilFunc]) (pl:=[(0,2),(2,2),(4,2),(6,2),(8,1)]) DX DW q0 Z q0 ?_);refine al DW (λ_ nm ny=>?_);have G:=be nm.2 G;have H:=be nm.2 H;have O:=be nm.2 O;have E:=xt E nm.2
 refine SA ny (λ_ A2 od=>?_);have G:=pb A2 G;have H:=pb A2 H;have O:=pb A2 O;have E:=bA A2 E;have B0:=ij A2;refine I ?_;refine aa (aE (vf:=[]) (vc:=[pT Av.heap.size]) Z Z ?_);refine I ?_;refine SO od (λ_ A0 A1=>?_);have G:=pb A0 G;have H:=pb A0 H;have O:=pb A0 O;have E:=bA A0 E;have B1:=ij A0;refine I ?_;refine aa (aM (cs:=[S [48],S [49],S [49,48,48],S [49],S [48],S [49],S [49],S [49],.func (.func 150) #[] #[pT Av.heap.size]]) (b:=Ax.heap.size) (o:=0) DX Z xk Z (aa1 A1 (i:=0) Z) ?_);refine I ?_;refine cl R4 (hc _ _ E H) ?_;rintro _ _ Ab rfl;have G:=be Ab.2 G;have H:=be Ab.2 H;have O:=be Ab.2 O;have A1:=be Ab.2 A1;have E:=xt E Ab.2;refine I ?_;refine SA O (λ_ Am Aw=>?_);have G:=pb Am G;have H:=pb Am H;have A1:=pb Am A1;have E:=bA Am E;refine I ?_;refine ba (v:=.tuple #[.agg #[S y1,S y2,S y3,S y4],.int .i64 er]) (de (r1:=.cell 6 144) (r2:=.tmp 7) Z ?_ ?_) E Z;refine ak (t:=6) (cs:=[S y1,S y2,S y3,S y4]) (b:=Ay.heap.size) (o:=0) fJ Z eh ?_ ?_
 exact Z;exact aa1 Aw (i:=0) Z;exact aL (t:=7) Wf _
def Qr {sO fr b1:Nat}{r:Int×Int}(hS:Sc sO)(hp:pl<81)(h1:0<fr)(h20:fr<=20)(hh:Yn sO pl n d fr=some r)(hb1:ar w b1 3 #[.int .i64 fr])(ht:Tb w):
 CL 150 #[.agg #[.int .i64 pl,S (nS sO)],QV ((n:Nat):Int) ((d:Nat):Int),pT b1] w (aH w λv w'=>v=.agg #[S (ae r.1),S (ae r.2)]):=by
 have Ap:=bt hb1;refine aC func150 Z (I ?_);refine bx (λ_ Af G=>?_);have hb1:=be Af.2 hb1;have E:=Af.2;refine bx (λAm A2 H=>?_);have hb1:=be A2.2 hb1;have G:=be A2.2 G;have E:=xt E A2.2;refine al bQ (λ_ A0 Ab=>?_);have hb1:=be A0.2 hb1;have G:=be A0.2 G;have H:=be A0.2 H;have E:=xt E A0.2;refine I ?_;refine cl SU (Qn hS hp h1 h20 hh (ht.ext E)) ?_;rintro _ _ O rfl;have hb1:=be O.2 hb1;have G:=be O.2 G;have H:=be O.2 H;have Ab:=be O.2 Ab;have E:=xt E O.2;refine SA Ab (λ_ A1 Ao=>?_);have hb1:=pb A1 hb1;have G:=pb A1 G;have H:=pb A1 H;have E:=bA A1 E;refine I ?_;refine ba (v:=.agg #[S (ae r.1),S (ae r.2)]) (cC  rfl ?_) E Z;refine ak (t:=5) (cs:=[S (ae r.1),S (ae r.2)]) (b:=Am.heap.size) (o:=0) jr Z fI ?_ ?_;exact Z;exact aa1 Ao (i:=0) Z
structure vC (k pl:Nat)(r:Int×Int)(f c:Int):Prop where
 b1:r.1.natAbs<10^90
 b2:r.2.natAbs<10^90
 le:r.1<=r.2
 hf:y9 r.1 (aI (pl+k)) (aI pl)=f
 hc:zf r.2 (aI (pl+k)) (aI pl)=c
 f9:f.natAbs<10^70
 c9:c.natAbs<10^70
 fc:f<=c
def vC.r {r:Int×Int}(h:vC 15 pl r f c)(h1:c<=f+1):RG pl r f c:=⟨h.b1,h.b2,h.le,h.hf,h.hc,h.f9,h.c9,h.fc,h1⟩
def MY (h:f+1<c)(hT:0<T):¬aQ ((c*T-f*T)*T) (1*(T*T))<=0:=by
 rw[dh,<-Int.sub_mul,Int.mul_assoc]
 have h1:0<T*T:=Int.mul_pos hT hT
 have h2:2*(T*T)<=(c-f)*(T*T):=Int.mul_le_mul_of_nonneg_right U (Int.le_of_lt h1)
 omega
set_option maxRecDepth 100000 in
def MZ {m:List UInt8}(e:(l,m)=qR a b)(h:Q9 a b)(ha12:a.natAbs<10^12)(hb12:b<10^12)(e1:(l1,m1)=qR la lb0)(q1:Q9 la lb0)(e2:(l2,m2)=qR ha hb)(q2:Q9 ha hb){r1 r2:Int×Int}(hrt:lS pl a b la lb0 ha hb=true)(hp:pl<=12)(hne:¬((l,m):R)=(l3,m3))(hg:Enters prog g)(hbd1:∀W,aN w W->CL g ([.agg #[.int .i64 ((pl+15:Nat):Int),S (nS (10^(pl+15)))],.agg #[S l,S m]].toArray++lb.toArray) W (aH W λv _=>v=.agg #[S (ae r1.1),S (ae r1.2)]))(hbd2:∀W,aN w W->CL g ([.agg #[.int .i64 ((pl+40:Nat):Int),S (nS (10^(pl+40)))],.agg #[S l,S m]].toArray++lb.toArray) W (aH W λv _=>v=.agg #[S (ae r2.1),S (ae r2.2)]))(hC1:vC 15 pl r1 f1 c1)(hno:f1+1<c1)(hC2:vC 40 pl r2 f2 c2)(hone:c2<=f2+1)(ht:Tb w):
 CL 152 #[.agg #[S l1,S m1,S l2,S m2,S l3,S m3,S l4,S m4,.func (.func g) #[] lb.toArray],.agg #[S l,S m],.int .i64 pl] w (aH w λv w'=>v=.tuple #[IV f2 (aI pl) c2 (aI pl),.int .i64 0]):=by
 have Aw:=ig (k:=pl+15) hC1.b1 U;have Az:=ig (k:=pl+15) hC1.b2 U;have L4:=ig (k:=pl) (a:=f1) (qb1 hC1.f9 dc) U;have b0:=ig (k:=pl) (a:=c1) (qb1 hC1.c9 dc) U;have W0:Q9 (c1*aI pl-f1*aI pl) (aI pl*aI pl):=ZT hC1.f9 hC1.c9 hp;have Ax:=ig (k:=pl+40) hC2.b1 U;have B0:=ig (k:=pl+40) hC2.b2 U;have KM:=ig (k:=pl) (a:=f2) (qb1 hC2.f9 dc) U;have W2:=ig (k:=pl) (a:=c2) (qb1 hC2.c9 dc) U;have a2:Q9 (c2*aI pl-f2*aI pl) (aI pl*aI pl):=ZT hC2.f9 hC2.c9 hp;have La:=ig (k:=pl) (a:=1) dc U;refine aC func152 Z (I ?_);refine bx (λac bp G=>?_);have As:=bp.2;refine bx (λKp Ne H=>?_);have⟨G,As⟩:=bw Ne.2 G As;refine al k9 (λ_ V0 O=>?_);have⟨G,H,As⟩:=cD V0.2 G H As;refine I ?_;refine aa (aM (cs:=[S l1,S m1,S l2,S m2,S l3,S m3,S l4,S m4,.func (.func g) #[] lb.toArray]) (b:=w.heap.size) (o:=0) DX Z xk Z (aa1 G (i:=0) Z) ?_);refine I ?_;refine cl Iu (cB (vA e h ha12 hb12 e1 q1 e2 q2 Z (ht.ext As)) hrt) ?_;rintro _ Lk W3 rfl;have⟨G,H,O,As⟩:=fE W3.2 G H O As;refine I ?_;refine aa (FJ (a:=(l,m)) (b:=(l3,m3)) (q:=decide ((l,m)=(l3,m3))) Z Z Z ?_);refine I ?_;refine Tt (λRm WV _ A0=>?_)
 have⟨G,H,O,As⟩:=fE WV G H O As;refine I ?_;refine ck [(7,7),(11,22),(44,111)] (λX0 e W=>∃i:Nat,(2-i=X0)/\(e 44=.int .i64 i)/\(i<=1)/\(Rm.heap.size<=W.heap.size)/\(aN w W)/\(ar W w.heap.size 187 #[S l1,S m1,S l2,S m2,S l3,S m3,S l4,S m4,.func (.func g) #[] lb.toArray])/\(ar W ac.heap.size 33 #[S l,S m])/\(ar W Kp.heap.size 144 #[S [],S [],S [],S []])/\(World.ownsRow W Lk.heap.size 3 1 (.slice (some ⟨Lk.heap.size,0,none⟩) 2 2) 2 [.int .i64 15,.int .i64 40])) (2-0) ⟨0,rfl,rfl,dc,(qa0 _),As,G,H,O,A0⟩ ?_;rintro _ _ _ ⟨i,rfl,H3,hi,cb,E,G,H,O,A0⟩;have cV:=bz E;by_cases hz0:i=0;obtain rfl:i=0:=J
 refine I ?_;obtain⟨bk,oo,hA,H2⟩:=(ab0 A0).cells 0 _ Z;refine aa (aA (i:=0) (oo:=oo+0) kB ji Z hA H3 dc Z ?_);refine aa (bn (v:=.int .i64 15) U3 Z Z H2 ?_);refine I ?_;refine aa (cG (a:=(pl:Int)) (b:=15) (c:=((pl+15:Nat):Int)) Z Z j0 U ?_);refine clb qy (hc:=nd U (ht.ext E)) (hk:=?_);rintro _ _ Cr rfl;have⟨G,H,O⟩:=qh Cr.2 G H O;have A0:=ab Cr.2 A0;have E:=xt E Cr.2;refine al oP (λ_ C0 bY=>?_);have⟨G,H,O⟩:=qh C0.2 G H O;have A0:=ab C0.2 A0;have E:=xt E C0.2;refine SA bY (λ_ Ay A2=>?_);have⟨G,H,O⟩:=nW Ay G H O;have A0:=av Ay RM A0;have E:=bA Ay E;have cc:=ij Ay;refine I ?_;refine aa (l5 (f:=g) (lb:=lb) (vs:=[.agg #[.int .i64 (((pl+15):Nat):Int),S (nS (10^(pl+15)))],.agg #[S l,S m]]) hg Z Z (Qf (hbd1 _ E)) ?_);rintro _ _ E0 rfl;have⟨G,H,O⟩:=qh E0.2 G H O;have A0:=ab E0.2 A0;have⟨A2,E⟩:=bw E0.2 A2 E;refine al bQ (λ_ B2 a4=>?_);have⟨G,H,O⟩:=qh B2.2 G H O;have A0:=ab B2.2 A0;have⟨A2,E⟩:=bw B2.2 A2 E;refine SA a4 (λ_ CG Af=>?_);have⟨G,H,O⟩:=nW CG G H O;have A0:=av CG RM A0;have⟨A2,E,_⟩:=kC CG A2 E;refine I ?_
 refine cl nP (iL Z Z Aw.fz.1 Aw.fz.2 (Int.ne_of_gt Aw.2.1) (ht.ext E)) ?_;rintro _ _ G0 rfl;have⟨G,H,O⟩:=qh G0.2 G H O;have A0:=ab G0.2 A0;have⟨A2,Af,E⟩:=cD G0.2 A2 Af E;refine I ?_;refine al aZ (λ_ EW Wa=>?_);have⟨G,H,O⟩:=qh EW.2 G H O;have A0:=ab EW.2 A0;have⟨A2,Af,E⟩:=cD EW.2 A2 Af E;refine SA Wa (λ_ FR Ao=>?_);have⟨G,H,O⟩:=nW FR G H O;have A0:=av FR RM A0;have⟨A2,Af,E,_⟩:=tK FR A2 Af E;refine I ?_;refine cl nP (iL Z Z Az.fz.1 Az.fz.2 (Int.ne_of_gt Az.2.1) (ht.ext E)) ?_;rintro _ _ ES rfl;have⟨G,H,O⟩:=qh ES.2 G H O;have A0:=ab ES.2 A0;have⟨A2,Af,Ao,E⟩:=fE ES.2 A2 Af Ao E;refine I ?_;refine al aZ (λ_ E5 a8=>?_);have⟨G,H,O⟩:=qh E5.2 G H O;have A0:=ab E5.2 A0;have⟨A2,Af,Ao,E⟩:=fE E5.2 A2 Af Ao E;refine SA a8 (λ_ E9 Ar=>?_);have⟨G,H,O⟩:=nW E9 G H O;have A0:=av E9 RM A0;have⟨A2,Af,Ao,E,_⟩:=QR E9 A2 Af Ao E;refine I ?_;refine aa (b7 (vs:=[(0,QV r1.1 (aI (pl+15))),(1,QV r1.2 (aI (pl+15)))]) (cells:=#[S ((qR r1.1 (aI (pl+15))).1),S ((qR r1.1 (aI (pl+15))).2),S ((qR r1.2 (aI (pl+15))).1),S ((qR r1.2 (aI (pl+15))).2)]) (pl:=[(0,2),(2,2)]) fJ k9 q0 Z q0 ?_);refine I ?_
 refine clb BY (hc:=no (Y:=.tuple #[IV f1 (aI pl) c1 (aI pl),.int .i64 0]) (vx (x:=(qR r1.1 (aI (pl+15)),qR r1.2 (aI (pl+15)))) Z Z Aw Az (Int.mul_le_mul_of_nonneg_right hC1.le (Int.le_of_lt Aw.2.1)) U (ht.ext E)) (by rw[hC1.hf,hC1.hc])) (hk:=?_);rintro _ T3 GC rfl;have⟨G,H,O⟩:=qh GC.2 G H O;have A0:=ab GC.2 A0;have⟨A2,Af,Ao,Ar,E⟩:=ka GC.2 A2 Af Ao Ar E;refine I ?_;refine al k9 (λ_ E4 bZ=>?_);have⟨G,H,O⟩:=qh E4.2 G H O;have A0:=ab E4.2 A0;have⟨A2,Af,Ao,Ar,E⟩:=ka E4.2 A2 Af Ao Ar E;refine SA bZ (λ_ E7 Av=>?_);have⟨G,H,O⟩:=nW E7 G H O;have A0:=av E7 RM A0;have⟨A2,Af,Ao,Ar,E,_⟩:=QS E7 A2 Af Ao Ar E;refine I ?_;refine aa (aM (cs:=[S ((qR f1 (aI pl)).1),S ((qR f1 (aI pl)).2),S ((qR c1 (aI pl)).1),S ((qR c1 (aI pl)).2)]) (b:=T3.heap.size) (o:=0) fJ Z eh Z (aa1 Av (i:=0) Z) ?_);refine cl BZ (vz (x:=(qR f1 (aI pl),qR c1 (aI pl))) Z Z L4 b0 (Int.mul_le_mul_of_nonneg_right hC1.fc (Int.le_of_lt L4.2.1)) (ht.ext E)) ?_;rintro _ _ D2 rfl;have⟨G,H,O⟩:=qh D2.2 G H O;have A0:=ab D2.2 A0;have⟨A2,Af,Ao,Ar,Av,E⟩:=Gw D2.2 A2 Af Ao Ar Av E;refine I ?_;refine al aZ (λ_ E6 P1=>?_);have⟨G,H,O⟩:=qh E6.2 G H O;have A0:=ab E6.2 A0;have⟨A2,Af,Ao,Ar,Av,E⟩:=Gw E6.2 A2 Af Ao Ar Av E;refine SA P1 (λ_ D1 _=>?_)
 have⟨G,H,O⟩:=nW D1 G H O;have A0:=av D1 RM A0;have⟨A2,Af,Ao,Ar,Av,E,_⟩:=Vh D1 A2 Af Ao Ar Av E;refine I ?_;refine bP 5 ?_;refine sf ?_;refine a7 (V:=.agg #[.int .i64 (((pl):Nat):Int),S (nS (10^pl))]) (λ_ _ No _=>?_) ?_;refine clb qy (hc:=nd U (ht.ext (xt E No))) (hk:=?_);rintro _ _ Vm rfl;have VW:=Vm.2;refine I ?_;exact fs ⟨VW,rfl⟩;refine aB (λ_ _ _ _=>by refine aa (u9 (cs:=[.int .i64 (((pl):Nat):Int),S (nS (10^pl))]) (v:=S (nS (10^pl))) DY Z Z Z U9 Z Z Z ?_);refine I ?_;exact aK) ?_;refine a7 (V:=.agg #[S [49],S (nS (10^pl))]) (λ_ _ _ _=>?_) ?_;refine cl nN gO ?_;rintro _ _ ny rfl;have W1:=ny.2;refine I ?_;exact fs ⟨W1,rfl⟩;refine sf ?_;intro _ _ od _;have⟨G,H,O⟩:=qh od.2 G H O;have A0:=ab od.2 A0;have E:=xt E od.2;refine cl oS (vt Z DU W0 La (ht.ext E)) ?_;rintro _ _ B1 rfl;have⟨G,H,O⟩:=qh B1.2 G H O;have A0:=ab B1.2 A0;have E:=xt E B1.2;refine I ?_;refine qp (qb2 Value.bool (qa2 (MY hno (lR pl)))) (I ?_);refine aa (cG (a:=((0:Nat):Int)) (b:=1) (c:=((0+1:Nat):Int)) H3 Z j0 dc ?_);refine I ?_;exact bJ (hk:=by decide) ⟨0+1,rfl,rfl,dc,U,E,G,H,O,A0⟩;obtain rfl:i=1:=J
 refine I ?_;obtain⟨bk,oo,hA,H2⟩:=(ab0 A0).cells 1 _ Z;refine aa (aA (i:=1) (oo:=oo+1) kB ji Z hA H3 dc Z ?_);refine aa (bn (v:=.int .i64 40) U3 Z Z H2 ?_);refine I ?_;refine aa (cG (a:=(pl:Int)) (b:=40) (c:=((pl+40:Nat):Int)) Z Z j0 U ?_);refine clb qy (hc:=nd U (ht.ext E)) (hk:=?_);rintro _ _ a6 rfl;have⟨G,H,O,E⟩:=fE a6.2 G H O E;refine al oP (λ_ bb bd=>?_);have⟨G,H,O,E⟩:=fE bb.2 G H O E;refine SA bd (λ_ Q0 A1=>?_);have⟨G,H,O,E,_⟩:=QR Q0 G H O E;refine I ?_;refine aa (l5 (f:=g) (lb:=lb) (vs:=[.agg #[.int .i64 (((pl+40):Nat):Int),S (nS (10^(pl+40)))],.agg #[S l,S m]]) hg Z Z (Qf (hbd2 _ E)) ?_);rintro _ _ a9 rfl;have⟨G,H,O,A1,E⟩:=ka a9.2 G H O A1 E;refine al bQ (λ_ bv T2=>?_);have⟨G,H,O,A1,E⟩:=ka bv.2 G H O A1 E;refine SA T2 (λ_ P0 Ab=>?_);have⟨G,H,O,A1,E,_⟩:=QS P0 G H O A1 E;refine I ?_;refine cl nP (iL Z Z Ax.fz.1 Ax.fz.2 (Int.ne_of_gt Ax.2.1) (ht.ext E)) ?_;rintro _ _ S0 rfl;have⟨G,H,O,A1,Ab,E⟩:=Gw S0.2 G H O A1 Ab E;refine I ?_;refine al aZ (λ_ ad P2=>?_);have⟨G,H,O,A1,Ab,E⟩:=Gw ad.2 G H O A1 Ab E;refine SA P2 (λ_ a0 Am=>?_);have⟨G,H,O,A1,Ab,E,_⟩:=Vh a0 G H O A1 Ab E;refine I ?_
 refine cl nP (iL Z Z B0.fz.1 B0.fz.2 (Int.ne_of_gt B0.2.1) (ht.ext E)) ?_;rintro _ _ L1 rfl;have⟨G,H,O,A1,Ab⟩:=nX L1.2 G H O A1 Ab;have⟨Am,E⟩:=bw L1.2 Am E;refine I ?_;refine al aZ (λ_ Ix bW=>?_);have⟨G,H,O,A1,Ab⟩:=nX Ix.2 G H O A1 Ab;have⟨Am,E⟩:=bw Ix.2 Am E;refine SA bW (λ_ L2 Ap=>?_);have⟨G,H,O,A1,Ab⟩:=zc L2 G H O A1 Ab;have⟨Am,E,_⟩:=kC L2 Am E;refine I ?_;refine aa (b7 (vs:=[(0,QV r2.1 (aI (pl+40))),(1,QV r2.2 (aI (pl+40)))]) (cells:=#[S ((qR r2.1 (aI (pl+40))).1),S ((qR r2.1 (aI (pl+40))).2),S ((qR r2.2 (aI (pl+40))).1),S ((qR r2.2 (aI (pl+40))).2)]) (pl:=[(0,2),(2,2)]) fJ k9 q0 Z q0 ?_);refine I ?_;refine clb BY (hc:=no (Y:=.tuple #[IV f2 (aI pl) c2 (aI pl),.int .i64 0]) (vx (x:=(qR r2.1 (aI (pl+40)),qR r2.2 (aI (pl+40)))) Z Z Ax B0 (Int.mul_le_mul_of_nonneg_right hC2.le (Int.le_of_lt Ax.2.1)) U (ht.ext E)) (by rw[hC2.hf,hC2.hc])) (hk:=?_);rintro _ KY KC rfl;have⟨G,H,O,A1,Ab⟩:=nX KC.2 G H O A1 Ab;have⟨Am,Ap,E⟩:=cD KC.2 Am Ap E;refine I ?_;refine al k9 (λ_ Li an=>?_);have⟨G,H,O,A1,Ab⟩:=nX Li.2 G H O A1 Ab;have⟨Am,Ap,E⟩:=cD Li.2 Am Ap E;refine SA an (λ_ L3 Aq=>?_);have⟨G,H,O,A1,Ab⟩:=zc L3 G H O A1 Ab;have⟨Am,Ap,E,_⟩:=tK L3 Am Ap E;refine I ?_
 refine aa (aM (cs:=[S ((qR f2 (aI pl)).1),S ((qR f2 (aI pl)).2),S ((qR c2 (aI pl)).1),S ((qR c2 (aI pl)).2)]) (b:=KY.heap.size) (o:=0) fJ Z eh Z (aa1 Aq (i:=0) Z) ?_);refine cl BZ (vz (x:=(qR f2 (aI pl),qR c2 (aI pl))) Z Z KM W2 (Int.mul_le_mul_of_nonneg_right hC2.fc (Int.le_of_lt KM.2.1)) (ht.ext E)) ?_;rintro _ _ H4 rfl;have⟨G,H,O,A1,Ab⟩:=nX H4.2 G H O A1 Ab;have⟨Am,Ap,Aq,E⟩:=fE H4.2 Am Ap Aq E;refine I ?_;refine al aZ (λ_ K2 a5=>?_);have⟨G,H,O,A1,Ab⟩:=nX K2.2 G H O A1 Ab;have⟨Am,Ap,Aq,E⟩:=fE K2.2 Am Ap Aq E;refine SA a5 (λ_ Lj nm=>?_);have⟨G,H,O,A1,Ab⟩:=zc Lj G H O A1 Ab;have⟨Am,Ap,Aq,E,_⟩:=QR Lj Am Ap Aq E;refine I ?_;refine bP 5 ?_;refine sf ?_;refine a7 (V:=.agg #[.int .i64 (((pl):Nat):Int),S (nS (10^pl))]) (λ_ _ X2 _=>?_) ?_;refine clb qy (hc:=nd U (ht.ext (xt E X2))) (hk:=?_);rintro _ _ S9 rfl;have bq:=S9.2;refine I ?_;exact fs ⟨bq,rfl⟩;refine aB (λ_ _ _ _=>by refine aa (u9 (cs:=[.int .i64 (((pl):Nat):Int),S (nS (10^pl))]) (v:=S (nS (10^pl))) DY Z Z Z U9 Z Z Z ?_);refine I ?_;exact aK) ?_;refine a7 (V:=.agg #[S [49],S (nS (10^pl))]) (λ_ _ _ _=>?_) ?_;refine cl nN gO ?_;rintro _ _ cT rfl;have N0:=cT.2;refine I ?_;exact fs ⟨N0,rfl⟩;refine sf ?_;intro _ _ wr _
 have⟨G,H,O,A1,Ab⟩:=nX wr.2 G H O A1 Ab;have⟨Am,Ap,Aq,nm,E⟩:=ka wr.2 Am Ap Aq nm E;refine cl oS (vt Z DU a2 La (ht.ext E)) ?_;rintro _ _ K3 rfl;have⟨G,H,O,A1,Ab⟩:=nX K3.2 G H O A1 Ab;have⟨Am,Ap,Aq,nm,E⟩:=ka K3.2 Am Ap Aq nm E;refine I ?_;refine mh (qb2 Value.bool (qa1 (width_le hone (lR pl)))) (I ?_);refine aa (aM (cs:=[S ((qR f2 (aI pl)).1),S ((qR f2 (aI pl)).2),S ((qR c2 (aI pl)).1),S ((qR c2 (aI pl)).2)]) (b:=KY.heap.size) (o:=0) fJ Z eh Z (aa1 Aq (i:=0) Z) ?_);refine SA O (λ_ E1 a3=>?_);have⟨G,H,A1,Ab,Am⟩:=zc E1 G H A1 Ab Am;have⟨Ap,Aq,nm⟩:=nW E1 Ap Aq nm;have E:=bA E1 E;refine I ?_;refine ba (v:=.tuple #[IV f2 (aI pl) c2 (aI pl),.int .i64 0]) (de (r1:=.cell 6 144) (r2:=.tmp 7) Z ?_ ?_) E Z;refine ak (t:=6) (cs:=[S ((qR f2 (aI pl)).1),S ((qR f2 (aI pl)).2),S ((qR c2 (aI pl)).1),S ((qR c2 (aI pl)).2)]) (b:=Kp.heap.size) (o:=0) fJ Z eh ?_ ?_;exact Z;exact aa1 a3 (i:=0) Z;exact aL (t:=7) Wf _
end
section
open Go Go.Eng Go.RowKit Proofs.Tryz
def RH (pl:Nat)(f c:Int):Value:=.tuple #[.agg #[S (qR f (aI pl)).1,S (qR f (aI pl)).2,S (qR c (aI pl)).1,S (qR c (aI pl)).2],.int .i64 0]
def vE (pl:Nat)(bd:Nat->Option (Int×Int))(f c:Int):Prop:=
 c<=f+1/\((∃r,bd 15=some r/\vC 15 pl r f c)\/(∃r r2 f1 c1,bd 15=some r/\vC 15 pl r f1 c1/\f1+1<c1/\bd 40=some r2/\vC 40 pl r2 f c))
def vE.uniq {bd:Nat->Option (Int×Int)}(h:vE pl bd f c)(h':vE pl bd f' c'):f=f'/\c=c':=by
 obtain⟨h1,⟨r,e,w⟩|⟨r,r2,f1,c1,e,w,n,e2,G⟩⟩:=h <;>obtain⟨Af,⟨O,e',w'⟩|⟨O,A2,A0,A1,e',w',Ab,E,H⟩⟩:=h'
 · rw[e]at e';cases e';exact⟨w.hf.symm.trans w'.hf,w.hc.symm.trans w'.hc⟩
 · rw[e]at e';cases e';have:=w.hf.symm.trans w'.hf;have:=w.hc.symm.trans w'.hc;omega
 · rw[e]at e';cases e';have:=w.hf.symm.trans w'.hf;have:=w.hc.symm.trans w'.hc;omega
 · rw[e2]at E;cases E;exact⟨G.hf.symm.trans H.hf,G.hc.symm.trans H.hc⟩
def HM {m:List UInt8}{bd:Nat->Option (Int×Int)}(hF:vE pl bd f c)(e:(l,m)=qR a b)(h:Q9 a b)(ha12:a.natAbs<10^12)(hb12:b<10^12)(e1:(l1,m1)=qR la lb0)(q1:Q9 la lb0)(e2:(l2,m2)=qR ha hb)(q2:Q9 ha hb)(hrt:lS pl a b la lb0 ha hb=true)(hp:pl<=12)(hne:¬((l,m):R)=(l3,m3))(hg:Enters prog g)(hbd:∀k r,k<=40->bd k=some r->∀W,aN w W->CL g ([.agg #[.int .i64 ((pl+k:Nat):Int),S (nS (10^(pl+k)))],.agg #[S l,S m]].toArray++lb.toArray) W (aH W λv _=>v=.agg #[S (ae r.1),S (ae r.2)]))(ht:Tb w):
 CL 152 #[.agg #[S l1,S m1,S l2,S m2,S l3,S m3,S l4,S m4,.func (.func g) #[] lb.toArray],.agg #[S l,S m],.int .i64 ((pl:Nat):Int)] w (aH w λv _=>v=RH pl f c):=by
 obtain⟨h1,⟨r,er,w⟩|⟨r,r2,f1,c1,er,w,n,G,E⟩⟩:=hF
 · exact Qq e h ha12 hb12 e1 q1 e2 q2 hrt hp hne hg (hbd 15 r dc er) (w.r h1) ht
 · exact MZ e h ha12 hb12 e1 q1 e2 q2 hrt hp hne hg (hbd 15 r dc er) (hbd 40 r2 dc G) w n E h1 ht
def HN {lb:Int}(hp:pl<=12)(h1:la*b<=a*lb)(h2:a*hb<=ha*b):lS pl a b la lb ha hb=true:=by
 unfold lS
 rw[decide_eq_true U,decide_eq_true (oC.2 h1),decide_eq_true (dh.2 h2)];rfl
def Vd (h:n<=90):Sc (10^n):=⟨Nat.pow_pos dc,Nat.pow_lt_pow_right dc U⟩
def Yo {d:Int}(hb:0<b)(hd:0<d){r:R}(e:r=qR c d)(h:a*d≠c*b):¬(((qR a b).1,(qR a b).2):R)=r:=λx=>h (UJ hb hd (x.trans e))
def RI (ha:a.natAbs<10^12)(h0:0<b)(hb:b<10^12):Q9 a b:=⟨Nat.lt_trans ha dc,h0,by omega⟩
def M0 (pl fr n d:Nat)(k:Nat):Option (Int×Int):=Yn (10^(pl+k)) (pl+k) n d fr
def ZU:(([49,48,48],[49]):R)=qR 100 1:=by decide +kernel
def Ve:Q9 100 1:=⟨by decide,by decide,by decide⟩
def M1 {fr:Nat}(h1:0<fr)(h20:fr<=20)(hn:0<n)(hn12:n<10^12)(hd:0<d)(hd12:d<10^12)(h100:n<=100*d)(hp:pl<=12)(hF:vE pl (M0 pl fr n d) f c)(ht:Tb w):
 CL 105 #[QV (n:Int) (d:Int),.int .i64 ((fr:Nat):Int),.int .i64 ((pl:Nat):Int)] w (aH w λv _=>v=RH pl f c):=by
 have E:(n:Int).natAbs<10^12:=J
 have G:(d:Int)<10^12:=J
 have hb:0<(d:Int):=J
 have q:=RI E hb G
 refine Vb h1 h20 (λW b1 e hB=>HM (lb:=[pT b1]) hF Z q E G q01 ZS ZU Ve (HN hp U U) hp (Yo hb dc q01 U) R6 ?_ (ht.ext e)) ht
 intro k r hk hr W' e'
 exact Qr (Vd U) U h1 h20 hr (hB.ext e') ((ht.ext e).ext e')
set_option maxRecDepth 10000 in
def ch1:vE 6 (M0 6 2 14 1) 911 912:=⟨by decide,Or.inl ⟨(911881965554516118,911881965554516350),by decide +kernel,by decide +kernel,by decide +kernel,by decide +kernel,by decide +kernel,by decide +kernel,by decide +kernel,by decide +kernel,by decide +kernel⟩⟩
set_option maxRecDepth 10000 in
def ch2:vE 6 (M0 6 1 1 2) 479500 479501:=⟨by decide,Or.inl ⟨(479500122186953462306,479500122186953462327),by decide +kernel,by decide +kernel,by decide +kernel,by decide +kernel,by decide +kernel,by decide +kernel,by decide +kernel,by decide +kernel,by decide +kernel⟩⟩
def YC {d:Int}(h:qR a b=qR c d):Qv a b=.tuple #[QV c d,.int .i64 0]:=by unfold Qv;rw[h]
def Gj (h:a.natAbs<10^12)(h0:0<b)(hb:b<10^12):Q9 a b:=RI h h0 hb
def ZV (hD:eZ W A C Y CY B CB k5 qk vI)(ht:Tb W):
 CL 19 #[.agg #[.slice A 3 C,.slice Y 3 CY,.slice B 3 CB],.agg #[S (bM 1 20).1,S (bM 1 20).2],.int .i64 6] W (aH W λv _=>v=.tuple #[.int .i64 2,.int .i64 0]):=by
 rw[FP dc dc dc]
 refine Bg (la:=1) (lb:=20) (pl:=6) (j:=2) (fr:=2) (cn:=14) (cd:=1) (Gj dc dc dc) dc dc dc (λW' q=>Bm (hD.ext q) (ht.ext q)) (λW' A1 E B1 D q=>?_) ht
 exact Hu (fr:=2) (cn:=14) (cd:=1) (l6:=14) (l7:=1) (u6:=14) (u7:=1) (c2:=911) (d2:=aI 6) (e2:=912) (f2:=aI 6) (c:=911) (d:=aI 6) (e:=912) (f:=aI 6) dc
  (λW t=>no (vw (a:=14) (b:=1) (pl:=6) Z (Gj dc dc dc) dc t) (YC MT)) (λW t=>no (DT (a:=14) (b:=1) (pl:=6) Z (Gj dc dc dc) dc t) (YC MT))
  (Gj dc dc dc) (Gj dc dc dc) dc (Gj dc dc dc)
  (λW p=>M1 (n:=14) (d:=1) (fr:=2) (pl:=6) dc dc dc dc dc dc dc dc ch1 ((ht.ext q).ext p)) dc
  (Gj dc dc dc) dc (Gj dc dc dc)
  (λW p=>M1 (n:=14) (d:=1) (fr:=2) (pl:=6) dc dc dc dc dc dc dc dc ch1 ((ht.ext q).ext p)) dc (ht.ext q)
def ZW (hD:eZ W A C Y CY B CB k5 se sh)(ht:Tb W):
 CL 19 #[.agg #[.slice A 2 C,.slice Y 2 CY,.slice B 2 CB],.agg #[S (bM 1 20).1,S (bM 1 20).2],.int .i64 6] W (aH W λv _=>v=.tuple #[.int .i64 1,.int .i64 0]):=by
 rw[FP dc dc dc]
 refine Bg (la:=1) (lb:=20) (pl:=6) (j:=1) (fr:=1) (cn:=1) (cd:=2) (Gj dc dc dc) dc dc dc (λW' q=>HF (hD.ext q) (ht.ext q)) (λW' A1 E B1 D q=>?_) ht
 exact Ht (fr:=1) (cn:=1) (cd:=2) (l6:=1) (l7:=2) (u6:=1) (u7:=2) (c2:=479500) (d2:=aI 6) (e2:=479501) (f2:=aI 6) (c:=0) (d:=1) (e:=0) (f:=1) dc
  (λW t=>no (vw (a:=1) (b:=2) (pl:=6) Z (Gj dc dc dc) dc t) (YC MT)) (λW t=>no (DT (a:=1) (b:=2) (pl:=6) Z (Gj dc dc dc) dc t) (YC MT))
  (Gj dc dc dc) (Gj dc dc dc) dc (Gj dc dc dc)
  (λW p=>M1 (n:=1) (d:=2) (fr:=1) (pl:=6) dc dc dc dc dc dc dc dc ch2 ((ht.ext q).ext p)) dc (ht.ext q)
def Yp:Yg:=λW a hE ht=>HG hE (λ_ _ _ _ _ _ _ h t=>ZV h t) (λ_ _ _ _ _ _ _ h t=>ZW h t) ht
end
section
open Go Go.Eng Go.RowKit La Proofs.Tryz
section
variable {m:Nat}
def M2 {m:Nat}(hx0:In64 x0)(hx1:In64 x1)(hm:2+bL x0 4=((m:Nat):Int))(hn:1+bL x1 2=((n:Nat):Int))(hx:Rw w lo X (nk xs))(hxc:xs.length<=CX):
 CL 10 #[.agg #[.int .i64 x0,.int .i64 x1,.slice X xs.length CX]] w (aH w λv w'=>∃A C Y CY B CB H G lo hi,w.heap.size<=lo/\hi<=w'.heap.size/\v=.agg #[.slice A m C,.slice Y m CY,.slice B m CB]/\fq lo hi w' A C Y CY B CB m H G (eH (xs.take 40) n) (fA (xs.take 40) m) (yA (xs.take 40) m)):=
 PU hx0 hx1 hm hn hx hxc
end
section
def Vf {m r a b:Nat}{A:Mx}(ha:a<n)(hb:b<n)(h:Rk n m r A):Rk n m r (λi j=>A (La.swp a b i) j):=by
 obtain⟨C,F,CL,FR,h⟩:=h
 refine⟨λi j=>C (La.swp a b i) j,F,λi j=>CL i (La.swp a b j),FR,λi hi j E=>?_,λi hi j E=>?_,h.fr⟩
 · exact h.eq _ (dW ha hb hi) j E
 · rw[<-h.cl i hi j E]
   exact mQ ha hb (λk=>CL i k*C k j)
def Mt.congrL {H:Nat->Value}{L L':Rows}(e:∀i,i<n->L i=L' i)(h:Mt w lo A n H L):Mt w lo A n H L':=
 ⟨h.out,λi hi=>by rw[<-e i hi];exact h.hdr i hi,λi hi=>by rw[<-e i hi];exact h.row i hi,λi hi=>by rw[<-e i hi];exact h.cap i hi⟩
def mN.sw {v:Value}{xs xs':List R}{C C':Rows}{c c':R}{fr:Int}(hx:xs=xs')(hC:∀i,i<k->C i=C' i)(hc:c=c')(hl:xs'.length=k)(h:mN lo w v k xs C c fr):Qa lo w v k xs' C' c' fr:=by
 subst hx
 subst hc
 obtain⟨A,E,B,D,H,e,h1,h2,h3,h4⟩:=h.m hl
 exact⟨A,E,B,D,H,e,h1,h2,h3,h4.congrL hC⟩
def nw {o0 o1:Int}{a:Addr}(hx0:In64 x0)(hx1:In64 x1)(ho0:In64 o0)(ho1:In64 o1)(hx:Rw w lo X (nk xs))(hxc:xs.length<=CX)(hE:Er w a)(ht:Tb w):
 CL 4 #[.agg #[.int .i64 x0,.int .i64 x1,.slice X xs.length CX],.int .i64 o0,.int .i64 o1] w (aH w λv _=>v=.bool true):=by
 obtain⟨m,n,hm,Af,Ar,H⟩:=Qd x0 x1
 have A1:=dY o0 ((m:Nat):Int) U
 have hq:=dY o1 ((m:Nat):Int) U
 obtain⟨b,hb⟩:∃b:Nat,bL o0 ((m:Nat):Int)=((b:Nat):Int):=⟨(bL o0 ((m:Nat):Int)).toNat,U⟩
 obtain⟨c,hc⟩:∃c:Nat,bL o1 ((m:Nat):Int)=((c:Nat):Int):=⟨(bL o1 ((m:Nat):Int)).toNat,U⟩
 have O:b<m:=U
 have A0:c<m:=U
 obtain⟨W,_,h,G,hW⟩:=MM (xs:=xs.take 40) Ar H O A0
 have ok:=h.ok
 have ok':=G.ok
 have E:=h.yl
 have hyl':=G.yl
 have hk:(eH (xs.take 40) n 0).length=n:=by simp[eH]
 have hk':(eH (xs.take 40) n (swp b c 0)).length=n:=by simp[eH]
 have hv:vM m (eH (xs.take 40) n)=true:=by have:=ok.hv;rwa [E]at this
 have Ab:vM m (fA (xs.take 40) m)=true:=by have:=ok.hv3;rwa [E]at this
 have hS:∀W,aN w W->CL 9 #[] W (aH W λv _=>v=.bool true):=λW q=>Yp W a (hE.ext q) (ht.ext q)
 have hMd:=fun(W:World) (q:aN w W)=>M2 (CX:=CX) hx0 hx1 hm Af (hx.ext q) hxc
 have hVl:∀z,z<m->(fA (xs.take 40) m z).length=m:=λz _=>by simp[fA]
 obtain⟨r,_,_,hr,eB,eG,hs⟩:=F5 h
 obtain⟨Aq,_,_,Am,eB',eG',A2⟩:=F5 G
 have As:r=Aq:=(Vf O A0 hr).uniq Am
 rcases hs with⟨h1,eC⟩|⟨h1,hf,v⟩
 · rcases A2 with⟨h1',eC'⟩|⟨h1',_⟩
   · exact HJ (C1:=pI) (xs1:=[]) (q1:=z0) ho0 ho1 E U H hv Ab hS hMd hVl hb hc O A0
      (λA C Y CY B CB W hD q=>FT hD ok E hk (hE.ext q) (by rw[h.fW];exact h.eW) (by rw[h.fW];exact eB) eG eC (ht.ext q))
      (λA C Y CY B CB W hD q=>FT hD ok' hyl' hk' (hE.ext q) (by rw[G.fW];exact G.eW) (by rw[G.fW];exact eB') eG' eC' (ht.ext q)) ht
   · omega
 · rcases A2 with⟨h1',_⟩|⟨h1',hf',v'⟩
   · omega
   · obtain⟨Ao,hfC,hfS⟩:=MN O A0 E hW v v'
     obtain⟨hvC,_⟩:=nI H.1 (by omega:n<=8) H.1 (by omega:n<=8) v.rC.1
     exact MP (q1:=ap (BL m n (eH (xs.take 40) n) (fA (xs.take 40) m) (yA (xs.take 40) m) 0) 0) (C1:=sd m n (eH (xs.take 40) n) (fA (xs.take 40) m)) (xs1:=qm m n (eH (xs.take 40) n) (fA (xs.take 40) m) (yA (xs.take 40) m)) ho0 ho1 E U H hv Ab hS hMd hVl hb hc O A0 v.fxl (fe hvC)
      (λA C Y CY B CB W hD q=>Yf (FQ hD ok E hk hf (ht.ext q)) λAp w' A1=>by
       obtain⟨u,e,hF⟩:=A1
       exact⟨u,e,hF.m v.fxl⟩)
      (λA C Y CY B CB W hD q=>Yf (FQ hD ok' hyl' hk' hf' (ht.ext q)) λAp w' A1=>by
       obtain⟨u,e,hF⟩:=A1
       exact⟨u,e,hF.sw Ao hfC hfS v.fxl⟩) ht
end
end
end Go.Proofs.YtlmihmlnpjkblaaGreatDoor
