/- Part of the proof of a statement about an adjustment. -/
import Derived.Test.YtlmihmlnpjkblaaGreatDoorSp2ToSp10S
import Derived.Test.YtlmihmlnpjkblaaGreatDoorAjTToAjFS
set_option linter.all false
namespace Go.Proofs.YtlmihmlnpjkblaaGreatDoor
open Go Go.Eng Go.RowKit Proofs.Tryz
variable {a f c T b la lb0 ha hb er f1 c1 f2 c2 x0 x1:Int}{xs:List Int}{l l1 m1 l2 m2 l3 m3 l4 m4:List UInt8}{lb:List Value}{k pl g n d C CY CB lo CX:Nat}{A Y B X:Option Addr}{w W:World}
section
attribute [local irreducible] wpListIn Code.wpIn Oper.wpIn Exit.then Exit.inBlock Exit.noGoto
set_option maxHeartbeats 40000000
structure R5 (pl:Nat)(r:Int×Int)(f c:Int):Prop where
 b1:r.1.natAbs<10^90
 b2:r.2.natAbs<10^90
 le:r.1<=r.2
 hf:zk r.1 (aL (pl+15)) (aL pl)=f
 hc:zp r.2 (aL (pl+15)) (aL pl)=c
 f9:f.natAbs<10^70
 c9:c.natAbs<10^70
 fc:f<=c
 one:c<=f+1
def ii (h:a.natAbs<10^90)(hk:k<=80):Q9 a (aL k):=by
 refine⟨h,lX k,?_⟩
 unfold aL
 have h1:(10:Nat)^k<=10^80:=Nat.pow_le_pow_right dc hk
 have h2:(10:Nat)^80<10^90:=by decide
 have h3:(((10:Nat)^90:Nat):Int)=(10:Int)^90:=by norm_cast
 omega
def Ea :(([49],nS (10^pl)):R)=qR 1 (aL pl):=by
 rw[U0 (lX pl) Rg,<-show nS 1=ae 1 from rfl,<-Ld];rfl
def width_le (h:c<=f+1)(hT:0<T):aQ ((c*T-f*T)*T) (1*(T*T))<=0:=by
 rw[dh,<-Int.sub_mul,Int.mul_assoc]
 exact Int.mul_le_mul_of_nonneg_right U (Int.le_of_lt (Int.mul_pos hT hT))
def Z5 (hf:f.natAbs<10^70)(hc:c.natAbs<10^70)(hp:pl<=12):Q9 (c*aL pl-f*aL pl) (aL pl*aL pl):=by
 have h1:=lX pl
 have h2:(10:Nat)^pl<=10^12:=Nat.pow_le_pow_right dc hp
 have h3:aL pl<=1000000000000:=by unfold aL;omega
 have h4:(c*aL pl).natAbs<=10^70*1000000000000:=by rw[Int.natAbs_mul];exact qb9 U U
 have G:(f*aL pl).natAbs<=10^70*1000000000000:=by rw[Int.natAbs_mul];exact qb9 U U
 have E:aL pl*aL pl<=1000000000000*1000000000000:=Int.mul_le_mul h3 h3 U U
 exact⟨by omega,Int.mul_pos h1 h1,by omega⟩
set_option maxRecDepth 100000 in
def QK {m:List UInt8}(e:(l,m)=qR a b)(h:Q9 a b)(ha12:a.natAbs<10^12)(hb12:b<10^12)(e1:(l1,m1)=qR la lb0)(q1:Q9 la lb0)(e2:(l2,m2)=qR ha hb)(q2:Q9 ha hb){r:Int×Int}(hrt:lY pl a b la lb0 ha hb=true)(hp:pl<=12)(hne:¬((l,m):R)=(l3,m3))(hg:Enters prog g)(hbd:∀W,aO w W->CL g ([.agg #[.int .i64 ((pl+15:Nat):Int),S (nS (10^(pl+15)))],.agg #[S l,S m]].toArray++lb.toArray) W (aH W λv _=>v=.agg #[S (ae r.1),S (ae r.2)]))(hC:R5 pl r f c)(ht:Tb w):
 CL 152 #[.agg #[S l1,S m1,S l2,S m2,S l3,S m3,S l4,S m4,.func (.func g) #[] lb.toArray],.agg #[S l,S m],.int .i64 pl] w (aH w λv w'=>v=.tuple #[IV f (aL pl) c (aL pl),.int .i64 0]):=by
 have z1:=ii (k:=pl+15) hC.b1 U;have Ap:=ii (k:=pl+15) hC.b2 U;have B2:=ii (k:=pl) (a:=f) (qb1 hC.f9 dc) U;have E9:=ii (k:=pl) (a:=c) (qb1 hC.c9 dc) U;have H3:Q9 (c*aL pl-f*aL pl) (aL pl*aL pl):=Z5 hC.f9 hC.c9 hp;have E6:=ii (k:=pl) (a:=1) dc U;refine aD func152 Z (I ?_);refine bx (λL4 L1 E=>?_);have Am:=L1.2;refine bx (λAy ES H=>?_);have⟨E,Am⟩:=bo ES.2 E Am;refine al Vc (λ_ E1 O=>?_);have⟨E,H,Am⟩:=ca E1.2 E H Am;refine I ?_;refine aa (aN (cs:=[S l1,S m1,S l2,S m2,S l3,S m3,S l4,S m4,.func (.func g) #[] lb.toArray]) (b:=w.heap.size) (o:=0) Ed Z xC Z (aa0 E (i:=0) Z) ?_);refine I ?_;refine cl IF (cB (vV e h ha12 hb12 e1 q1 e2 q2 Z (ht.ext Am)) hrt) ?_;rintro _ Aw L2 rfl;have⟨E,H,O,Am⟩:=fw L2.2 E H O Am;refine I ?_;refine aa (FV (a:=(l,m)) (b:=(l3,m3)) (q:=decide ((l,m)=(l3,m3))) Z Z Z ?_);refine I ?_;refine TK (λD2 K2 _ Ar=>?_);have⟨E,H,O,Am⟩:=fw K2 E H O Am;refine I ?_
 refine b7 [(7,7),(11,22),(44,111)] (λE4 e W=>(0=E4)/\(e 44=.int .i64 0)/\(D2.heap.size<=W.heap.size)/\(aO w W)/\(ar W w.heap.size 187 #[S l1,S m1,S l2,S m2,S l3,S m3,S l4,S m4,.func (.func g) #[] lb.toArray])/\(ar W L4.heap.size 33 #[S l,S m])/\(ar W Ay.heap.size 144 #[S [],S [],S [],S []])/\(World.ownsRow W Aw.heap.size 3 1 (.slice (some ⟨Aw.heap.size,0,none⟩) 2 2) 2 [.int .i64 15,.int .i64 40])) 0 ⟨rfl,rfl,(qa0 _),Am,E,H,O,Ar⟩ ?_;rintro _ _ _ ⟨rfl,KM,Ne,G,E,H,O,Ar⟩;have No:=bz G;refine I ?_;obtain⟨_,oo,hA,H4⟩:=(aa7 Ar).cells 0 _ Z;refine aa (aB (i:=0) (oo:=oo+0) kB iy Z hA KM dc Z ?_);refine aa (bC (v:=.int .i64 15) U3 Z Z H4 ?_);refine I ?_;refine aa (cG (a:=(pl:Int)) (b:=15) (c:=((pl+15:Nat):Int)) Z Z L7 U ?_);refine clb qC (hc:=nF U (ht.ext G)) (hk:=?_);rintro _ _ H2 rfl;have⟨E,H,O,G⟩:=fw H2.2 E H O G;refine al o5 (λ_ FR K3=>?_);have⟨E,H,O,G⟩:=fw FR.2 E H O G;refine SA K3 (λ_ E7 A0=>?_);have⟨E,H,O,G,_⟩:=Nj E7 E H O G;refine I ?_;refine aa (mg (f:=g) (lb:=lb) (vs:=[.agg #[.int .i64 (((pl+15):Nat):Int),S (nS (10^(pl+15)))],.agg #[S l,S m]]) hg Z Z (Qz (hbd _ G)) ?_);rintro _ _ D1 rfl
 have⟨E,H,O,A0,G⟩:=kC D1.2 E H O A0 G;refine al bS (λ_ KY Ix=>?_);have⟨E,H,O,A0,G⟩:=kC KY.2 E H O A0 G;refine SA Ix (λ_ E0 A1=>?_);have⟨E,H,O,A0,G,_⟩:=Rf E0 E H O A0 G;refine I ?_;refine cl oc (iO Z Z z1.fz.1 z1.fz.2 (Int.ne_of_gt z1.2.1) (ht.ext G)) ?_;rintro _ _ Lk rfl;have⟨E,H,O,A0,A1,G⟩:=Jc Lk.2 E H O A0 A1 G;refine I ?_;refine al aU (λ_ N0 E5=>?_);have⟨E,H,O,A0,A1,G⟩:=Jc N0.2 E H O A0 A1 G;refine SA E5 (λ_ KC A2=>?_);have⟨E,H,O,A0,A1,G,_⟩:=Vw KC E H O A0 A1 G;refine I ?_;refine cl oc (iO Z Z Ap.fz.1 Ap.fz.2 (Int.ne_of_gt Ap.2.1) (ht.ext G)) ?_;rintro _ _ C0 rfl;have⟨E,H,O,A0,A1⟩:=kD C0.2 E H O A0 A1;have⟨A2,G⟩:=bo C0.2 A2 G;refine I ?_;refine al aU (λ_ As La=>?_);have⟨E,H,O,A0,A1⟩:=kD As.2 E H O A0 A1;have⟨A2,G⟩:=bo As.2 A2 G;refine SA La (λ_ B0 Ab=>?_);have⟨E,H,O,A0,A1⟩:=sG B0 E H O A0 A1;have⟨A2,G,_⟩:=j3 B0 A2 G;refine I ?_;refine aa (bX (vs:=[(0,QV r.1 (aL (pl+15))),(1,QV r.2 (aL (pl+15)))]) (cells:=#[S ((qR r.1 (aL (pl+15))).1),S ((qR r.1 (aL (pl+15))).2),S ((qR r.2 (aL (pl+15))).1),S ((qR r.2 (aL (pl+15))).2)]) (pl:=[(0,2),(2,2)]) fL Vc Hx Z Hx ?_);refine I ?_
 refine clb Cc (hc:=nE (Y:=.tuple #[IV f (aL pl) c (aL pl),.int .i64 0]) (vT (x:=(qR r.1 (aL (pl+15)),qR r.2 (aL (pl+15)))) Z Z z1 Ap (Int.mul_le_mul_of_nonneg_right hC.le (Int.le_of_lt z1.2.1)) U (ht.ext G)) (by rw[hC.hf,hC.hc])) (hk:=?_);rintro _ CG wr rfl;have⟨E,H,O,A0,A1⟩:=kD wr.2 E H O A0 A1;have⟨A2,Ab,G⟩:=ca wr.2 A2 Ab G;refine I ?_;refine al Vc (λ_ Ax Cr=>?_);have⟨E,H,O,A0,A1⟩:=kD Ax.2 E H O A0 A1;have⟨A2,Ab,G⟩:=ca Ax.2 A2 Ab G;refine SA Cr (λ_ Av Af=>?_);have⟨E,H,O,A0,A1⟩:=sG Av E H O A0 A1;have⟨A2,Ab,G,_⟩:=Re Av A2 Ab G;refine I ?_;refine aa (aN (cs:=[S ((qR f (aL pl)).1),S ((qR f (aL pl)).2),S ((qR c (aL pl)).1),S ((qR c (aL pl)).2)]) (b:=CG.heap.size) (o:=0) fL Z ef Z (aa0 Af (i:=0) Z) ?_);refine cl Cd (vU (x:=(qR f (aL pl),qR c (aL pl))) Z Z B2 E9 (Int.mul_le_mul_of_nonneg_right hC.fc (Int.le_of_lt B2.2.1)) (ht.ext G)) ?_;rintro _ _ ny rfl;have⟨E,H,O,A0,A1⟩:=kD ny.2 E H O A0 A1;have⟨A2,Ab,Af,G⟩:=fw ny.2 A2 Ab Af G;refine I ?_;refine al aU (λ_ od Lj=>?_);have⟨E,H,O,A0,A1⟩:=kD od.2 E H O A0 A1;have⟨A2,Ab,Af,G⟩:=fw od.2 A2 Ab Af G;refine SA Lj (λ_ B1 Ao=>?_);have⟨E,H,O,A0,A1⟩:=sG B1 E H O A0 A1;have⟨A2,Ab,Af,G,_⟩:=Nj B1 A2 Ab Af G;refine I ?_;refine bQ 5 ?_;refine sf ?_
 refine aX (V:=.agg #[.int .i64 (((pl):Nat):Int),S (nS (10^pl))]) (λ_ _ GC _=>?_) ?_;refine clb qC (hc:=nF U (ht.ext (xt G GC))) (hk:=?_);rintro _ _ EW rfl;have Kp:=EW.2;refine I ?_;exact fs ⟨Kp,rfl⟩;refine aA (λ_ _ _ _=>by refine aa (vq (cs:=[.int .i64 (((pl):Nat):Int),S (nS (10^pl))]) (v:=S (nS (10^pl))) Ee Z Z Z U9 Z Z Z ?_);refine I ?_;exact aE) ?_;refine aX (V:=.agg #[S [49],S (nS (10^pl))]) (λ_ _ _ _=>?_) ?_;refine cl nY gQ ?_;rintro _ _ L3 rfl;have G0:=L3.2;refine I ?_;exact fs ⟨G0,rfl⟩;refine sf ?_;intro _ _ nm _;have⟨E,H,O,A0,A1⟩:=kD nm.2 E H O A0 A1;have⟨A2,Ab,Af,Ao,G⟩:=kC nm.2 A2 Ab Af Ao G;refine cl o6 (vL Z Ea H3 E6 (ht.ext G)) ?_;rintro _ _ Az rfl;have⟨E,H,O,A0,A1⟩:=kD Az.2 E H O A0 A1;have⟨A2,Ab,Af,Ao,G⟩:=kC Az.2 A2 Ab Af Ao G;refine I ?_;refine mA (qb2 Value.bool (qa1 (width_le hC.one (lX pl)))) (I ?_);refine aa (aN (cs:=[S ((qR f (aL pl)).1),S ((qR f (aL pl)).2),S ((qR c (aL pl)).1),S ((qR c (aL pl)).2)]) (b:=CG.heap.size) (o:=0) fL Z ef Z (aa0 Af (i:=0) Z) ?_);refine SA O (λ_ Aq Li=>?_);have⟨E,H,A0,A1,A2⟩:=sG Aq E H A0 A1 A2;have⟨Ab,Af,Ao⟩:=qm Aq Ab Af Ao;have G:=bi Aq G;refine I ?_
 refine aW (v:=.tuple #[IV f (aL pl) c (aL pl),.int .i64 0]) (c8 (r1:=.cell 6 144) (r2:=.tmp 7) Z ?_ ?_) G Z;refine ai (t:=6) (cs:=[S ((qR f (aL pl)).1),S ((qR f (aL pl)).2),S ((qR c (aL pl)).1),S ((qR c (aL pl)).2)]) (b:=Ay.heap.size) (o:=0) fL Z ef ?_ ?_;exact Z;exact aa0 Li (i:=0) Z;exact aM (t:=7) RM _
set_option maxRecDepth 100000
def Vs {m y1 y2 y3 y4:List UInt8}{fr:Nat}(h1:1<=fr)(h20:fr<=20)(hc:∀W b1,aO w W->ar W b1 3 #[.int .i64 fr]->CL 152 #[.agg #[S [48],S [49],S [49,48,48],S [49],S [48],S [49],S [49],S [49],.func (.func 150) #[] #[pT b1]],.agg #[S l,S m],.int .i64 pl] W (aH W λv _=>v=.tuple #[.agg #[S y1,S y2,S y3,S y4],.int .i64 er]))(ht:Tb w):
 CL 105 #[.agg #[S l,S m],.int .i64 fr,.int .i64 pl] w (aH w λv w'=>v=.tuple #[.agg #[S y1,S y2,S y3,S y4],.int .i64 er]):=by
 refine aD func105 Z (I ?_);refine bx (λAs Aw G=>?_);have E:=Aw.2;refine bx (λAz Av H=>?_);have G:=be Av.2 G;have E:=xt E Av.2;refine al Vc (λ_ Ar O=>?_);have G:=be Ar.2 G;have H:=be Ar.2 H;have E:=xt E Ar.2;refine I ?_;refine cl nY gQ ?_;rintro _ _ Aq rfl;have G:=be Aq.2 G;have H:=be Aq.2 H;have O:=be Aq.2 O;have E:=xt E Aq.2;refine cl nY gQ ?_;rintro _ _ Am rfl;have G:=be Am.2 G;have H:=be Am.2 H;have O:=be Am.2 O;have E:=xt E Am.2;refine cl nY gQ ?_;rintro _ _ Ao rfl;have G:=be Ao.2 G;have H:=be Ao.2 H;have O:=be Ao.2 O;have E:=xt E Ao.2;refine cl nY gQ ?_;rintro _ Ay Af rfl;have G:=be Af.2 G;have H:=be Af.2 H;have O:=be Af.2 O;have E:=xt E Af.2;refine aa (bX (vs:=[(0,.agg #[S [48],S [49]]),(1,.agg #[S [49,48,48],S [49]]),(2,.agg #[S [48],S [49]]),(3,.agg #[S [49],S [49]])]) (cells:=#[S [48],S [49],S [49,48,48],S [49],S [48],S [49],S [49],S [49],.nilFunc]) (pl:=[(0,2),(2,2),(4,2),(6,2),(8,1)]) Ed Ec Hx Z Hx ?_);refine al Ec (λ_ nm ny=>?_);have G:=be nm.2 G;have H:=be nm.2 H;have O:=be nm.2 O;have E:=xt E nm.2
 refine SA ny (λ_ Ab od=>?_);have G:=pb Ab G;have H:=pb Ab H;have O:=pb Ab O;have E:=bi Ab E;have B1:=gJ Ab;refine I ?_;refine aa (aC (vf:=[]) (vc:=[pT As.heap.size]) Z Z ?_);refine I ?_;refine SO od (λ_ A1 A2=>?_);have G:=pb A1 G;have H:=pb A1 H;have O:=pb A1 O;have E:=bi A1 E;have B0:=gJ A1;refine I ?_;refine aa (aN (cs:=[S [48],S [49],S [49,48,48],S [49],S [48],S [49],S [49],S [49],.func (.func 150) #[] #[pT As.heap.size]]) (b:=Ay.heap.size) (o:=0) Ed Z xC Z (aa0 A2 (i:=0) Z) ?_);refine I ?_;refine cl Ss (hc _ _ E H) ?_;rintro _ _ A0 rfl;have G:=be A0.2 G;have H:=be A0.2 H;have O:=be A0.2 O;have A2:=be A0.2 A2;have E:=xt E A0.2;refine I ?_;refine SA O (λ_ Ap Ax=>?_);have G:=pb Ap G;have H:=pb Ap H;have A2:=pb Ap A2;have E:=bi Ap E;refine I ?_;refine aW (v:=.tuple #[.agg #[S y1,S y2,S y3,S y4],.int .i64 er]) (c8 (r1:=.cell 6 144) (r2:=.tmp 7) Z ?_ ?_) E Z;refine ai (t:=6) (cs:=[S y1,S y2,S y3,S y4]) (b:=Az.heap.size) (o:=0) fL Z ef ?_ ?_
 exact Z;exact aa0 Ax (i:=0) Z;exact aM (t:=7) RM _
def QM {sO fr b1:Nat}{r:Int×Int}(hS:Sc sO)(hp:pl<81)(h1:0<fr)(h20:fr<=20)(hh:Yz sO pl n d fr=some r)(hb1:ar w b1 3 #[.int .i64 fr])(ht:Tb w):
 CL 150 #[.agg #[.int .i64 pl,S (nS sO)],QV ((n:Nat):Int) ((d:Nat):Int),pT b1] w (aH w λv w'=>v=.agg #[S (ae r.1),S (ae r.2)]):=by
 have Ap:=bt hb1;refine aD func150 Z (I ?_);refine bx (λ_ Af G=>?_);have hb1:=be Af.2 hb1;have E:=Af.2;refine bx (λAo A2 H=>?_);have hb1:=be A2.2 hb1;have G:=be A2.2 G;have E:=xt E A2.2;refine al bS (λ_ A0 Ab=>?_);have hb1:=be A0.2 hb1;have G:=be A0.2 G;have H:=be A0.2 H;have E:=xt E A0.2;refine I ?_;refine cl Tf (QH hS hp h1 h20 hh (ht.ext E)) ?_;rintro _ _ O rfl;have hb1:=be O.2 hb1;have G:=be O.2 G;have H:=be O.2 H;have Ab:=be O.2 Ab;have E:=xt E O.2;refine SA Ab (λ_ A1 Am=>?_);have hb1:=pb A1 hb1;have G:=pb A1 G;have H:=pb A1 H;have E:=bi A1 E;refine I ?_;refine aW (v:=.agg #[S (ae r.1),S (ae r.2)]) (ci  rfl ?_) E Z;refine ai (t:=5) (cs:=[S (ae r.1),S (ae r.2)]) (b:=Ao.heap.size) (o:=0) jr Z fK ?_ ?_;exact Z;exact aa0 Am (i:=0) Z
structure vW (k pl:Nat)(r:Int×Int)(f c:Int):Prop where
 b1:r.1.natAbs<10^90
 b2:r.2.natAbs<10^90
 le:r.1<=r.2
 hf:zk r.1 (aL (pl+k)) (aL pl)=f
 hc:zp r.2 (aL (pl+k)) (aL pl)=c
 f9:f.natAbs<10^70
 c9:c.natAbs<10^70
 fc:f<=c
def vW.r {r:Int×Int}(h:vW 15 pl r f c)(h1:c<=f+1):R5 pl r f c:=⟨h.b1,h.b2,h.le,h.hf,h.hc,h.f9,h.c9,h.fc,h1⟩
def Nb (h:f+1<c)(hT:0<T):¬aQ ((c*T-f*T)*T) (1*(T*T))<=0:=by
 rw[dh,<-Int.sub_mul,Int.mul_assoc]
 have h1:0<T*T:=Int.mul_pos hT hT
 have h2:2*(T*T)<=(c-f)*(T*T):=Int.mul_le_mul_of_nonneg_right U (Int.le_of_lt h1)
 omega
set_option maxRecDepth 100000 in
def Nc {m:List UInt8}(e:(l,m)=qR a b)(h:Q9 a b)(ha12:a.natAbs<10^12)(hb12:b<10^12)(e1:(l1,m1)=qR la lb0)(q1:Q9 la lb0)(e2:(l2,m2)=qR ha hb)(q2:Q9 ha hb){r1 r2:Int×Int}(hrt:lY pl a b la lb0 ha hb=true)(hp:pl<=12)(hne:¬((l,m):R)=(l3,m3))(hg:Enters prog g)(hbd1:∀W,aO w W->CL g ([.agg #[.int .i64 ((pl+15:Nat):Int),S (nS (10^(pl+15)))],.agg #[S l,S m]].toArray++lb.toArray) W (aH W λv _=>v=.agg #[S (ae r1.1),S (ae r1.2)]))(hbd2:∀W,aO w W->CL g ([.agg #[.int .i64 ((pl+40:Nat):Int),S (nS (10^(pl+40)))],.agg #[S l,S m]].toArray++lb.toArray) W (aH W λv _=>v=.agg #[S (ae r2.1),S (ae r2.2)]))(hC1:vW 15 pl r1 f1 c1)(hno:f1+1<c1)(hC2:vW 40 pl r2 f2 c2)(hone:c2<=f2+1)(ht:Tb w):
 CL 152 #[.agg #[S l1,S m1,S l2,S m2,S l3,S m3,S l4,S m4,.func (.func g) #[] lb.toArray],.agg #[S l,S m],.int .i64 pl] w (aH w λv w'=>v=.tuple #[IV f2 (aL pl) c2 (aL pl),.int .i64 0]):=by
 have Aw:=ii (k:=pl+15) hC1.b1 U;have Az:=ii (k:=pl+15) hC1.b2 U;have K3:=ii (k:=pl) (a:=f1) (qb1 hC1.f9 dc) U;have bv:=ii (k:=pl) (a:=c1) (qb1 hC1.c9 dc) U;have bp:Q9 (c1*aL pl-f1*aL pl) (aL pl*aL pl):=Z5 hC1.f9 hC1.c9 hp;have Ax:=ii (k:=pl+40) hC2.b1 U;have Ay:=ii (k:=pl+40) hC2.b2 U;have Lk:=ii (k:=pl) (a:=f2) (qb1 hC2.f9 dc) U;have T2:=ii (k:=pl) (a:=c2) (qb1 hC2.c9 dc) U;have bb:Q9 (c2*aL pl-f2*aL pl) (aL pl*aL pl):=Z5 hC2.f9 hC2.c9 hp;have L3:=ii (k:=pl) (a:=1) dc U;refine aD func152 Z (I ?_);refine bx (λa9 X2 G=>?_);have As:=X2.2;refine bx (λL1 T3 H=>?_);have⟨G,As⟩:=bo T3.2 G As;refine al Vc (λ_ S9 O=>?_);have⟨G,H,As⟩:=ca S9.2 G H As;refine I ?_;refine aa (aN (cs:=[S l1,S m1,S l2,S m2,S l3,S m3,S l4,S m4,.func (.func g) #[] lb.toArray]) (b:=w.heap.size) (o:=0) Ed Z xC Z (aa0 G (i:=0) Z) ?_);refine I ?_;refine cl IF (cB (vV e h ha12 hb12 e1 q1 e2 q2 Z (ht.ext As)) hrt) ?_;rintro _ Ix bZ rfl;have⟨G,H,O,As⟩:=fw bZ.2 G H O As;refine I ?_;refine aa (FV (a:=(l,m)) (b:=(l3,m3)) (q:=decide ((l,m)=(l3,m3))) Z Z Z ?_);refine I ?_;refine TK (λNo cT _ A0=>?_)
 have⟨G,H,O,As⟩:=fw cT G H O As;refine I ?_;refine b7 [(7,7),(11,22),(44,111)] (λa2 e W=>∃i:Nat,(2-i=a2)/\(e 44=.int .i64 i)/\(i<=1)/\(No.heap.size<=W.heap.size)/\(aO w W)/\(ar W w.heap.size 187 #[S l1,S m1,S l2,S m2,S l3,S m3,S l4,S m4,.func (.func g) #[] lb.toArray])/\(ar W a9.heap.size 33 #[S l,S m])/\(ar W L1.heap.size 144 #[S [],S [],S [],S []])/\(World.ownsRow W Ix.heap.size 3 1 (.slice (some ⟨Ix.heap.size,0,none⟩) 2 2) 2 [.int .i64 15,.int .i64 40])) (2-0) ⟨0,rfl,rfl,dc,(qa0 _),As,G,H,O,A0⟩ ?_;rintro _ _ _ ⟨i,rfl,Cr,hi,cf,E,G,H,O,A0⟩;have cc:=bz E;by_cases hz0:i=0;obtain rfl:i=0:=J
 refine I ?_;obtain⟨bk,oo,hA,C0⟩:=(aa7 A0).cells 0 _ Z;refine aa (aB (i:=0) (oo:=oo+0) kB iy Z hA Cr dc Z ?_);refine aa (bC (v:=.int .i64 15) U3 Z Z C0 ?_);refine I ?_;refine aa (cG (a:=(pl:Int)) (b:=15) (c:=((pl+15:Nat):Int)) Z Z L7 U ?_);refine clb qC (hc:=nF U (ht.ext E)) (hk:=?_);rintro _ _ H3 rfl;have⟨G,H,O⟩:=vZ H3.2 G H O;have A0:=ab H3.2 A0;have E:=xt E H3.2;refine al o5 (λ_ CG Q0=>?_);have⟨G,H,O⟩:=vZ CG.2 G H O;have A0:=ab CG.2 A0;have E:=xt E CG.2;refine SA Q0 (λ_ B0 A2=>?_);have⟨G,H,O⟩:=qm B0 G H O;have A0:=aw B0 DB A0;have E:=bi B0 E;have ce:=gJ B0;refine I ?_;refine aa (mg (f:=g) (lb:=lb) (vs:=[.agg #[.int .i64 (((pl+15):Nat):Int),S (nS (10^(pl+15)))],.agg #[S l,S m]]) hg Z Z (Qz (hbd1 _ E)) ?_);rintro _ _ B2 rfl;have⟨G,H,O⟩:=vZ B2.2 G H O;have A0:=ab B2.2 A0;have⟨A2,E⟩:=bo B2.2 A2 E;refine al bS (λ_ E0 a8=>?_);have⟨G,H,O⟩:=vZ E0.2 G H O;have A0:=ab E0.2 A0;have⟨A2,E⟩:=bo E0.2 A2 E;refine SA a8 (λ_ FR Af=>?_);have⟨G,H,O⟩:=qm FR G H O;have A0:=aw FR DB A0;have⟨A2,E,_⟩:=j3 FR A2 E;refine I ?_
 refine cl oc (iO Z Z Aw.fz.1 Aw.fz.2 (Int.ne_of_gt Aw.2.1) (ht.ext E)) ?_;rintro _ _ E7 rfl;have⟨G,H,O⟩:=vZ E7.2 G H O;have A0:=ab E7.2 A0;have⟨A2,Af,E⟩:=ca E7.2 A2 Af E;refine I ?_;refine al aU (λ_ D2 P1=>?_);have⟨G,H,O⟩:=vZ D2.2 G H O;have A0:=ab D2.2 A0;have⟨A2,Af,E⟩:=ca D2.2 A2 Af E;refine SA P1 (λ_ E6 Ao=>?_);have⟨G,H,O⟩:=qm E6 G H O;have A0:=aw E6 DB A0;have⟨A2,Af,E,_⟩:=Re E6 A2 Af E;refine I ?_;refine cl oc (iO Z Z Az.fz.1 Az.fz.2 (Int.ne_of_gt Az.2.1) (ht.ext E)) ?_;rintro _ _ EW rfl;have⟨G,H,O⟩:=vZ EW.2 G H O;have A0:=ab EW.2 A0;have⟨A2,Af,Ao,E⟩:=fw EW.2 A2 Af Ao E;refine I ?_;refine al aU (λ_ E9 ad=>?_);have⟨G,H,O⟩:=vZ E9.2 G H O;have A0:=ab E9.2 A0;have⟨A2,Af,Ao,E⟩:=fw E9.2 A2 Af Ao E;refine SA ad (λ_ D1 Ar=>?_);have⟨G,H,O⟩:=qm D1 G H O;have A0:=aw D1 DB A0;have⟨A2,Af,Ao,E,_⟩:=Nj D1 A2 Af Ao E;refine I ?_;refine aa (bX (vs:=[(0,QV r1.1 (aL (pl+15))),(1,QV r1.2 (aL (pl+15)))]) (cells:=#[S ((qR r1.1 (aL (pl+15))).1),S ((qR r1.1 (aL (pl+15))).2),S ((qR r1.2 (aL (pl+15))).1),S ((qR r1.2 (aL (pl+15))).2)]) (pl:=[(0,2),(2,2)]) fL Vc Hx Z Hx ?_);refine I ?_
 refine clb Cc (hc:=nE (Y:=.tuple #[IV f1 (aL pl) c1 (aL pl),.int .i64 0]) (vT (x:=(qR r1.1 (aL (pl+15)),qR r1.2 (aL (pl+15)))) Z Z Aw Az (Int.mul_le_mul_of_nonneg_right hC1.le (Int.le_of_lt Aw.2.1)) U (ht.ext E)) (by rw[hC1.hf,hC1.hc])) (hk:=?_);rintro _ cb H2 rfl;have⟨G,H,O⟩:=vZ H2.2 G H O;have A0:=ab H2.2 A0;have⟨A2,Af,Ao,Ar,E⟩:=kC H2.2 A2 Af Ao Ar E;refine I ?_;refine al Vc (λ_ B1 a3=>?_);have⟨G,H,O⟩:=vZ B1.2 G H O;have A0:=ab B1.2 A0;have⟨A2,Af,Ao,Ar,E⟩:=kC B1.2 A2 Af Ao Ar E;refine SA a3 (λ_ E4 Av=>?_);have⟨G,H,O⟩:=qm E4 G H O;have A0:=aw E4 DB A0;have⟨A2,Af,Ao,Ar,E,_⟩:=Rf E4 A2 Af Ao Ar E;refine I ?_;refine aa (aN (cs:=[S ((qR f1 (aL pl)).1),S ((qR f1 (aL pl)).2),S ((qR c1 (aL pl)).1),S ((qR c1 (aL pl)).2)]) (b:=cb.heap.size) (o:=0) fL Z ef Z (aa0 Av (i:=0) Z) ?_);refine cl Cd (vU (x:=(qR f1 (aL pl),qR c1 (aL pl))) Z Z K3 bv (Int.mul_le_mul_of_nonneg_right hC1.fc (Int.le_of_lt K3.2.1)) (ht.ext E)) ?_;rintro _ _ E5 rfl;have⟨G,H,O⟩:=vZ E5.2 G H O;have A0:=ab E5.2 A0;have⟨A2,Af,Ao,Ar,Av,E⟩:=Jc E5.2 A2 Af Ao Ar Av E;refine I ?_;refine al aU (λ_ E1 W3=>?_);have⟨G,H,O⟩:=vZ E1.2 G H O;have A0:=ab E1.2 A0;have⟨A2,Af,Ao,Ar,Av,E⟩:=Jc E1.2 A2 Af Ao Ar Av E;refine SA W3 (λ_ ES _=>?_)
 have⟨G,H,O⟩:=qm ES G H O;have A0:=aw ES DB A0;have⟨A2,Af,Ao,Ar,Av,E,_⟩:=Vw ES A2 Af Ao Ar Av E;refine I ?_;refine bQ 5 ?_;refine sf ?_;refine aX (V:=.agg #[.int .i64 (((pl):Nat):Int),S (nS (10^pl))]) (λ_ _ ac _=>?_) ?_;refine clb qC (hc:=nF U (ht.ext (xt E ac))) (hk:=?_);rintro _ _ X0 rfl;have a0:=X0.2;refine I ?_;exact fs ⟨a0,rfl⟩;refine aA (λ_ _ _ _=>by refine aa (vq (cs:=[.int .i64 (((pl):Nat):Int),S (nS (10^pl))]) (v:=S (nS (10^pl))) Ee Z Z Z U9 Z Z Z ?_);refine I ?_;exact aE) ?_;refine aX (V:=.agg #[S [49],S (nS (10^pl))]) (λ_ _ _ _=>?_) ?_;refine cl nY gQ ?_;rintro _ _ ny rfl;have a6:=ny.2;refine I ?_;exact fs ⟨a6,rfl⟩;refine sf ?_;intro _ _ od _;have⟨G,H,O⟩:=vZ od.2 G H O;have A0:=ab od.2 A0;have E:=xt E od.2;refine cl o6 (vL Z Ea bp L3 (ht.ext E)) ?_;rintro _ _ GC rfl;have⟨G,H,O⟩:=vZ GC.2 G H O;have A0:=ab GC.2 A0;have E:=xt E GC.2;refine I ?_;refine gd (qb2 Value.bool (qa2 (Nb hno (lX pl)))) (I ?_);refine aa (cG (a:=((0:Nat):Int)) (b:=1) (c:=((0+1:Nat):Int)) Cr Z L7 dc ?_);refine I ?_;exact bF (hk:=by decide) ⟨0+1,rfl,rfl,dc,U,E,G,H,O,A0⟩;obtain rfl:i=1:=J
 refine I ?_;obtain⟨bk,oo,hA,C0⟩:=(aa7 A0).cells 1 _ Z;refine aa (aB (i:=1) (oo:=oo+1) kB iy Z hA Cr dc Z ?_);refine aa (bC (v:=.int .i64 40) U3 Z Z C0 ?_);refine I ?_;refine aa (cG (a:=(pl:Int)) (b:=40) (c:=((pl+40:Nat):Int)) Z Z L7 U ?_);refine clb qC (hc:=nF U (ht.ext E)) (hk:=?_);rintro _ _ Ne rfl;have⟨G,H,O,E⟩:=fw Ne.2 G H O E;refine al o5 (λ_ bd V2=>?_);have⟨G,H,O,E⟩:=fw bd.2 G H O E;refine SA V2 (λ_ bW A1=>?_);have⟨G,H,O,E,_⟩:=Nj bW G H O E;refine I ?_;refine aa (mg (f:=g) (lb:=lb) (vs:=[.agg #[.int .i64 (((pl+40):Nat):Int),S (nS (10^(pl+40)))],.agg #[S l,S m]]) hg Z Z (Qz (hbd2 _ E)) ?_);rintro _ _ W2 rfl;have⟨G,H,O,A1,E⟩:=kC W2.2 G H O A1 E;refine al bS (λ_ b0 P0=>?_);have⟨G,H,O,A1,E⟩:=kC b0.2 G H O A1 E;refine SA P0 (λ_ WV Ab=>?_);have⟨G,H,O,A1,E,_⟩:=Rf WV G H O A1 E;refine I ?_;refine cl oc (iO Z Z Ax.fz.1 Ax.fz.2 (Int.ne_of_gt Ax.2.1) (ht.ext E)) ?_;rintro _ _ W1 rfl;have⟨G,H,O,A1,Ab,E⟩:=Jc W1.2 G H O A1 Ab E;refine I ?_;refine al aU (λ_ Rm N0=>?_);have⟨G,H,O,A1,Ab,E⟩:=Jc Rm.2 G H O A1 Ab E;refine SA N0 (λ_ S0 Am=>?_);have⟨G,H,O,A1,Ab,E,_⟩:=Vw S0 G H O A1 Ab E;refine I ?_
 refine cl oc (iO Z Z Ay.fz.1 Ay.fz.2 (Int.ne_of_gt Ay.2.1) (ht.ext E)) ?_;rintro _ _ H4 rfl;have⟨G,H,O,A1,Ab⟩:=kD H4.2 G H O A1 Ab;have⟨Am,E⟩:=bo H4.2 Am E;refine I ?_;refine al aU (λ_ KM a5=>?_);have⟨G,H,O,A1,Ab⟩:=kD KM.2 G H O A1 Ab;have⟨Am,E⟩:=bo KM.2 Am E;refine SA a5 (λ_ L2 Ap=>?_);have⟨G,H,O,A1,Ab⟩:=sG L2 G H O A1 Ab;have⟨Am,E,_⟩:=j3 L2 Am E;refine I ?_;refine aa (bX (vs:=[(0,QV r2.1 (aL (pl+40))),(1,QV r2.2 (aL (pl+40)))]) (cells:=#[S ((qR r2.1 (aL (pl+40))).1),S ((qR r2.1 (aL (pl+40))).2),S ((qR r2.2 (aL (pl+40))).1),S ((qR r2.2 (aL (pl+40))).2)]) (pl:=[(0,2),(2,2)]) fL Vc Hx Z Hx ?_);refine I ?_;refine clb Cc (hc:=nE (Y:=.tuple #[IV f2 (aL pl) c2 (aL pl),.int .i64 0]) (vT (x:=(qR r2.1 (aL (pl+40)),qR r2.2 (aL (pl+40)))) Z Z Ax Ay (Int.mul_le_mul_of_nonneg_right hC2.le (Int.le_of_lt Ax.2.1)) U (ht.ext E)) (by rw[hC2.hf,hC2.hc])) (hk:=?_);rintro _ Kp L4 rfl;have⟨G,H,O,A1,Ab⟩:=kD L4.2 G H O A1 Ab;have⟨Am,Ap,E⟩:=ca L4.2 Am Ap E;refine I ?_;refine al Vc (λ_ Lj P2=>?_);have⟨G,H,O,A1,Ab⟩:=kD Lj.2 G H O A1 Ab;have⟨Am,Ap,E⟩:=ca Lj.2 Am Ap E;refine SA P2 (λ_ KY Aq=>?_);have⟨G,H,O,A1,Ab⟩:=sG KY G H O A1 Ab;have⟨Am,Ap,E,_⟩:=Re KY Am Ap E;refine I ?_
 refine aa (aN (cs:=[S ((qR f2 (aL pl)).1),S ((qR f2 (aL pl)).2),S ((qR c2 (aL pl)).1),S ((qR c2 (aL pl)).2)]) (b:=Kp.heap.size) (o:=0) fL Z ef Z (aa0 Aq (i:=0) Z) ?_);refine cl Cd (vU (x:=(qR f2 (aL pl),qR c2 (aL pl))) Z Z Lk T2 (Int.mul_le_mul_of_nonneg_right hC2.fc (Int.le_of_lt Lk.2.1)) (ht.ext E)) ?_;rintro _ _ KC rfl;have⟨G,H,O,A1,Ab⟩:=kD KC.2 G H O A1 Ab;have⟨Am,Ap,Aq,E⟩:=fw KC.2 Am Ap Aq E;refine I ?_;refine al aU (λ_ La W0=>?_);have⟨G,H,O,A1,Ab⟩:=kD La.2 G H O A1 Ab;have⟨Am,Ap,Aq,E⟩:=fw La.2 Am Ap Aq E;refine SA W0 (λ_ Li nm=>?_);have⟨G,H,O,A1,Ab⟩:=sG Li G H O A1 Ab;have⟨Am,Ap,Aq,E,_⟩:=Nj Li Am Ap Aq E;refine I ?_;refine bQ 5 ?_;refine sf ?_;refine aX (V:=.agg #[.int .i64 (((pl):Nat):Int),S (nS (10^pl))]) (λ_ _ a4 _=>?_) ?_;refine clb qC (hc:=nF U (ht.ext (xt E a4))) (hk:=?_);rintro _ _ Vm rfl;have Wa:=Vm.2;refine I ?_;exact fs ⟨Wa,rfl⟩;refine aA (λ_ _ _ _=>by refine aa (vq (cs:=[.int .i64 (((pl):Nat):Int),S (nS (10^pl))]) (v:=S (nS (10^pl))) Ee Z Z Z U9 Z Z Z ?_);refine I ?_;exact aE) ?_;refine aX (V:=.agg #[S [49],S (nS (10^pl))]) (λ_ _ _ _=>?_) ?_;refine cl nY gQ ?_;rintro _ _ VW rfl;have an:=VW.2;refine I ?_;exact fs ⟨an,rfl⟩;refine sf ?_;intro _ _ wr _
 have⟨G,H,O,A1,Ab⟩:=kD wr.2 G H O A1 Ab;have⟨Am,Ap,Aq,nm,E⟩:=kC wr.2 Am Ap Aq nm E;refine cl o6 (vL Z Ea bb L3 (ht.ext E)) ?_;rintro _ _ K2 rfl;have⟨G,H,O,A1,Ab⟩:=kD K2.2 G H O A1 Ab;have⟨Am,Ap,Aq,nm,E⟩:=kC K2.2 Am Ap Aq nm E;refine I ?_;refine mA (qb2 Value.bool (qa1 (width_le hone (lX pl)))) (I ?_);refine aa (aN (cs:=[S ((qR f2 (aL pl)).1),S ((qR f2 (aL pl)).2),S ((qR c2 (aL pl)).1),S ((qR c2 (aL pl)).2)]) (b:=Kp.heap.size) (o:=0) fL Z ef Z (aa0 Aq (i:=0) Z) ?_);refine SA O (λ_ G0 bq=>?_);have⟨G,H,A1,Ab,Am⟩:=sG G0 G H A1 Ab Am;have⟨Ap,Aq,nm⟩:=qm G0 Ap Aq nm;have E:=bi G0 E;refine I ?_;refine aW (v:=.tuple #[IV f2 (aL pl) c2 (aL pl),.int .i64 0]) (c8 (r1:=.cell 6 144) (r2:=.tmp 7) Z ?_ ?_) E Z;refine ai (t:=6) (cs:=[S ((qR f2 (aL pl)).1),S ((qR f2 (aL pl)).2),S ((qR c2 (aL pl)).1),S ((qR c2 (aL pl)).2)]) (b:=L1.heap.size) (o:=0) fL Z ef ?_ ?_;exact Z;exact aa0 bq (i:=0) Z;exact aM (t:=7) RM _
end
section
def R6 (pl:Nat)(f c:Int):Value:=.tuple #[.agg #[S (qR f (aL pl)).1,S (qR f (aL pl)).2,S (qR c (aL pl)).1,S (qR c (aL pl)).2],.int .i64 0]
def Gn (pl:Nat)(bd:Nat->Option (Int×Int))(f c:Int):Prop:=
 c<=f+1/\((∃r,bd 15=some r/\vW 15 pl r f c)\/(∃r r2 f1 c1,bd 15=some r/\vW 15 pl r f1 c1/\f1+1<c1/\bd 40=some r2/\vW 40 pl r2 f c))
def HU {m:List UInt8}{bd:Nat->Option (Int×Int)}(hF:Gn pl bd f c)(e:(l,m)=qR a b)(h:Q9 a b)(ha12:a.natAbs<10^12)(hb12:b<10^12)(e1:(l1,m1)=qR la lb0)(q1:Q9 la lb0)(e2:(l2,m2)=qR ha hb)(q2:Q9 ha hb)(hrt:lY pl a b la lb0 ha hb=true)(hp:pl<=12)(hne:¬((l,m):R)=(l3,m3))(hg:Enters prog g)(hbd:∀k r,k<=40->bd k=some r->∀W,aO w W->CL g ([.agg #[.int .i64 ((pl+k:Nat):Int),S (nS (10^(pl+k)))],.agg #[S l,S m]].toArray++lb.toArray) W (aH W λv _=>v=.agg #[S (ae r.1),S (ae r.2)]))(ht:Tb w):
 CL 152 #[.agg #[S l1,S m1,S l2,S m2,S l3,S m3,S l4,S m4,.func (.func g) #[] lb.toArray],.agg #[S l,S m],.int .i64 ((pl:Nat):Int)] w (aH w λv _=>v=R6 pl f c):=by
 obtain⟨h1,⟨r,er,w⟩|⟨r,r2,f1,c1,er,w,n,E,G⟩⟩:=hF
 · exact QK e h ha12 hb12 e1 q1 e2 q2 hrt hp hne hg (hbd 15 r dc er) (w.r h1) ht
 · exact Nc e h ha12 hb12 e1 q1 e2 q2 hrt hp hne hg (hbd 15 r dc er) (hbd 40 r2 dc E) w n G h1 ht
def HV {lb:Int}(hp:pl<=12)(h1:la*b<=a*lb)(h2:a*hb<=ha*b):lY pl a b la lb ha hb=true:=by
 unfold lY
 rw[decide_eq_true U,decide_eq_true (oL.2 h1),decide_eq_true (dh.2 h2)];rfl
def Vt (h:n<=90):Sc (10^n):=⟨Nat.pow_pos dc,Nat.pow_lt_pow_right dc U⟩
def YA {d:Int}(hb:0<b)(hd:0<d){r:R}(e:r=qR c d)(h:a*d≠c*b):¬(((qR a b).1,(qR a b).2):R)=r:=λx=>h (U2 hb hd (x.trans e))
def R7 (ha:a.natAbs<10^12)(h0:0<b)(hb:b<10^12):Q9 a b:=⟨Nat.lt_trans ha dc,h0,by omega⟩
def Nf (pl fr n d:Nat)(k:Nat):Option (Int×Int):=Yz (10^(pl+k)) (pl+k) n d fr
def Z6:(([49,48,48],[49]):R)=qR 100 1:=by decide +kernel
def Vu:Q9 100 1:=⟨by decide,by decide,by decide⟩
def Ng {fr:Nat}(h1:0<fr)(h20:fr<=20)(hn:0<n)(hn12:n<10^12)(hd:0<d)(hd12:d<10^12)(h100:n<=100*d)(hp:pl<=12)(hF:Gn pl (Nf pl fr n d) f c)(ht:Tb w):
 CL 105 #[QV (n:Int) (d:Int),.int .i64 ((fr:Nat):Int),.int .i64 ((pl:Nat):Int)] w (aH w λv _=>v=R6 pl f c):=by
 have G:(n:Int).natAbs<10^12:=J
 have E:(d:Int)<10^12:=J
 have hb:0<(d:Int):=J
 have q:=R7 G hb E
 refine Vs h1 h20 (λW b1 e hB=>HU (lb:=[pT b1]) hF Z q G E q01 Z4 Z6 Vu (HV hp U U) hp (YA hb dc q01 U) Sv ?_ (ht.ext e)) ht
 intro k r hk hr W' e'
 exact QM (Vt U) U h1 h20 hr (hB.ext e') ((ht.ext e).ext e')
set_option maxRecDepth 10000 in
def ch1:Gn 6 (Nf 6 2 14 1) 911 912:=⟨by decide,Or.inl ⟨(911881965554516118,911881965554516350),by decide +kernel,by decide +kernel,by decide +kernel,by decide +kernel,by decide +kernel,by decide +kernel,by decide +kernel,by decide +kernel,by decide +kernel⟩⟩
set_option maxRecDepth 10000 in
def ch2:Gn 6 (Nf 6 1 1 2) 479500 479501:=⟨by decide,Or.inl ⟨(479500122186953462306,479500122186953462327),by decide +kernel,by decide +kernel,by decide +kernel,by decide +kernel,by decide +kernel,by decide +kernel,by decide +kernel,by decide +kernel,by decide +kernel⟩⟩
def YP {d:Int}(h:qR a b=qR c d):Qv a b=.tuple #[QV c d,.int .i64 0]:=by unfold Qv;rw[h]
def Gp (h:a.natAbs<10^12)(h0:0<b)(hb:b<10^12):Q9 a b:=R7 h h0 hb
def Z7 (hD:eH W A C Y CY B CB lj qo wd)(ht:Tb W):
 CL 19 #[.agg #[.slice A 3 C,.slice Y 3 CY,.slice B 3 CB],.agg #[S (bh 1 20).1,S (bh 1 20).2],.int .i64 6] W (aH W λv _=>v=.tuple #[.int .i64 2,.int .i64 0]):=by
 rw[F1 dc dc dc]
 refine Bt (la:=1) (lb:=20) (pl:=6) (j:=2) (fr:=2) (cn:=14) (cd:=1) (Gp dc dc dc) dc dc dc (λW' q=>Bz (hD.ext q) (ht.ext q)) (λW' A1 E B1 D q=>?_) ht
 exact HC (fr:=2) (cn:=14) (cd:=1) (l6:=14) (l7:=1) (u6:=14) (u7:=1) (c2:=911) (d2:=aL 6) (e2:=912) (f2:=aL 6) (c:=911) (d:=aL 6) (e:=912) (f:=aL 6) dc
  (λW t=>nE (vR (a:=14) (b:=1) (pl:=6) Z (Gp dc dc dc) dc t) (YP RK)) (λW t=>nE (D9 (a:=14) (b:=1) (pl:=6) Z (Gp dc dc dc) dc t) (YP RK))
  (Gp dc dc dc) (Gp dc dc dc) dc (Gp dc dc dc)
  (λW p=>Ng (n:=14) (d:=1) (fr:=2) (pl:=6) dc dc dc dc dc dc dc dc ch1 ((ht.ext q).ext p)) dc
  (Gp dc dc dc) dc (Gp dc dc dc)
  (λW p=>Ng (n:=14) (d:=1) (fr:=2) (pl:=6) dc dc dc dc dc dc dc dc ch1 ((ht.ext q).ext p)) dc (ht.ext q)
def Z8 (hD:eH W A C Y CY B CB lj ss su)(ht:Tb W):
 CL 19 #[.agg #[.slice A 2 C,.slice Y 2 CY,.slice B 2 CB],.agg #[S (bh 1 20).1,S (bh 1 20).2],.int .i64 6] W (aH W λv _=>v=.tuple #[.int .i64 1,.int .i64 0]):=by
 rw[F1 dc dc dc]
 refine Bt (la:=1) (lb:=20) (pl:=6) (j:=1) (fr:=1) (cn:=1) (cd:=2) (Gp dc dc dc) dc dc dc (λW' q=>HL (hD.ext q) (ht.ext q)) (λW' A1 E B1 D q=>?_) ht
 exact HB (fr:=1) (cn:=1) (cd:=2) (l6:=1) (l7:=2) (u6:=1) (u7:=2) (c2:=479500) (d2:=aL 6) (e2:=479501) (f2:=aL 6) (c:=0) (d:=1) (e:=0) (f:=1) dc
  (λW t=>nE (vR (a:=1) (b:=2) (pl:=6) Z (Gp dc dc dc) dc t) (YP RK)) (λW t=>nE (D9 (a:=1) (b:=2) (pl:=6) Z (Gp dc dc dc) dc t) (YP RK))
  (Gp dc dc dc) (Gp dc dc dc) dc (Gp dc dc dc)
  (λW p=>Ng (n:=1) (d:=2) (fr:=1) (pl:=6) dc dc dc dc dc dc dc dc ch2 ((ht.ext q).ext p)) dc (ht.ext q)
def YB:Ys:=λW a hE ht=>HM hE (λ_ _ _ _ _ _ _ h t=>Z7 h t) (λ_ _ _ _ _ _ _ h t=>Z8 h t) ht
end
section
open La
section
variable {m:Nat}
def Nh {m:Nat}(hx0:In64 x0)(hx1:In64 x1)(hm:2+aF x0 4=((m:Nat):Int))(hn:1+aF x1 2=((n:Nat):Int))(hx:Rw w lo X (nJ xs))(hxc:xs.length<=CX):
 CL 10 #[.agg #[.int .i64 x0,.int .i64 x1,.slice X xs.length CX]] w (aH w λv w'=>∃A C Y CY B CB H G lo hi,w.heap.size<=lo/\hi<=w'.heap.size/\v=.agg #[.slice A m C,.slice Y m CY,.slice B m CB]/\eK lo hi w' A C Y CY B CB m H G (kaE (xs.take 40) n) (gE (xs.take 40) m) (yA (xs.take 40) m)):=
 Qe hx0 hx1 hm hn hx hxc
end
section
variable {m:Nat}{L V W:Rows}{ys:List R}
def QN (hD:eH w A C Y CY B CB L V ys)(ok:eN L V ys)(hm:ys.length=m)(hk:(L 0).length=k)(h:By m k L V ys=true)(ht:Tb w):
 CL 14 #[.agg #[.slice A m C,.slice Y m CY,.slice B m CB]] w (aH w λv w'=>∃u,v=.tuple #[u,.int .i64 0]/\BP w.heap.size w' u k (qq m k L V ys) (r4 m k L V) (ao (y8 m k L V ys 0) 0) (((m:Nat):Int)-(k:Int))):=by
 subst hm
 exact M3 hD ok hk (y9 h) ht
def xy {a b r:R}(h:fe a b=some r)(ht:Tb w):CL 13 #[.agg #[S a.1,S a.2],.agg #[S b.1,S b.2]] w (aH w λv _=>v=.tuple #[.agg #[S r.1,S r.2],.int .i64 0]):=by
 have:=Kb a b w ht
 rw[h]at this;exact this
def HW {a b r:R}(h:lF a b=some r)(ht:Tb w):CL 15 #[.agg #[S a.1,S a.2],.agg #[S b.1,S b.2]] w (aH w λv _=>v=.tuple #[.agg #[S r.1,S r.2],.int .i64 0]):=by
 have:=Kc a b w ht
 rw[h]at this;exact this
def ri {o0 o1:Int}{a:Addr}(hx0:In64 x0)(hx1:In64 x1)(ho0:In64 o0)(ho1:In64 o1)(hx:Rw w lo X (nJ xs))(hxc:xs.length<=CX)(hE:Er w a)(ht:Tb w):
 CL 3 #[.agg #[.int .i64 x0,.int .i64 x1,.slice X xs.length CX],.agg #[.int .i64 o0,.int .i64 o1]] w (aH w λv _=>v=.bool true):=by
 obtain⟨m,n,hm,Ao,Aq,O⟩:=Qx x0 x1
 have A1:=dj o0 30 MT
 have hq:=dj o1 30 MT
 obtain⟨W,_,h,G,hW⟩:=DX (xs:=xs.take 40) (p:=1+aF o0 30) (q:=1+aF o1 30) Aq O J J
 have ok:=h.ok
 have ok':=G.ok
 have E:=h.yl
 have hk:(kaE (xs.take 40) n 0).length=n:=by simp[kaE]
 have hv:vM m (kaE (xs.take 40) n)=true:=by have:=ok.hv;rwa [E]at this
 have Af:vM m (gE (xs.take 40) m)=true:=by have:=ok.hv3;rwa [E]at this
 have hS:∀W,aO w W->CL 9 #[] W (aH W λv _=>v=.bool true):=λW q=>YB W a (hE.ext q) (ht.ext q)
 have hMd:=fun(W:World) (q:aO w W)=>Nh (CX:=CX) hx0 hx1 hm Ao (hx.ext q) hxc
 have hVl:∀z,z<m->(gE (xs.take 40) m z).length=m:=λz _=>by simp[gE]
 have hV2l:∀z,z<m->(oP (xs.take 40) m (bh (1+aF o0 30) (1+aF o1 30)) z).length=m:=λz _=>by simp[oP]
 have hMulV:∀(W:World) (i k:Nat) (q:R),aO w W->i<m->k<m->q=ao (gE (xs.take 40) m i) k->CL 13 #[.agg #[S q.1,S q.2],.agg #[S (bh (1+aF o0 30) (1+aF o1 30)).1,S (bh (1+aF o0 30) (1+aF o1 30)).2]] W (aH W λv _=>v=.tuple #[.agg #[S (ao (oP (xs.take 40) m (bh (1+aF o0 30) (1+aF o1 30)) i) k).1,S (ao (oP (xs.take 40) m (bh (1+aF o0 30) (1+aF o1 30)) i) k).2],.int .i64 0]):=λW i k q e _ A0 A2=>by
  subst A2
  rw[zh A0,gE,gH A0]
  exact xy (vI J J).1 (ht.ext e)
 obtain⟨r,er,_,_,eB,eG,hs⟩:=Gc h
 obtain⟨Ar,As,_,_,eB',eG',Ab⟩:=Gc G
 have Av:r=Ar:=qb5 (er.symm.trans As)
 rcases hs with⟨h1,eC⟩|⟨h1,hf,v⟩
 · rcases Ab with⟨h1',eC'⟩|⟨h1',_⟩
   · exact BQ (C1:=pS) (C2:=pS) (xs1:=[]) (q1:=z0) (q2:=z0) ho0 ho1 E J O hv Af hS hMd hVl hV2l hMulV
      (λA C Y CY B CB W hD q=>F2 hD ok E hk (hE.ext q) (by rw[h.fW];exact h.eW) (by rw[h.fW];exact eB) eG eC (ht.ext q))
      (λA C Y CY B CB W hD q=>F2 hD ok' E hk (hE.ext q) (by rw[G.fW];exact G.eW) (by rw[G.fW];exact eB') eG' eC' (ht.ext q)) ht
   · omega
 · rcases Ab with⟨h1',_⟩|⟨h1',hf',v'⟩
   · omega
   · obtain⟨Ap,_,_⟩:=vJ (by have:=DW (p:=1+aF o0 30) (q:=1+aF o1 30) J J;grind) hW v v'
     obtain⟨hC,hS2⟩:=DY J J h hW v v'
     obtain⟨hvC,_⟩:=lg O.1 (by omega:n<=8) O.1 (by omega:n<=8) v'.rC.1
     exact DZ (q1:=ao (y8 m n (kaE (xs.take 40) n) (gE (xs.take 40) m) (yA (xs.take 40) m) 0) 0) (C1:=r4 m n (kaE (xs.take 40) n) (gE (xs.take 40) m)) ho0 ho1 E J O hv Af hS hMd hVl hV2l hMulV v.fxl (dP hvC) (λz H=>(v.rC.1 z H).1) (λz H=>(v'.rC.1 z H).1)
      (λW z k q e H A0 A2=>by subst A2;exact xy (hC z H k A0) (ht.ext e))
      (λA C Y CY B CB W hD q=>Yr (QN hD ok E hk hf (ht.ext q)) λAm w' A1=>by
       obtain⟨u,e,hF⟩:=A1
       exact⟨u,e,hF.x v.fxl⟩)
      (λA C Y CY B CB W hD q=>Yr (Qh hD ok' E hk hf' (ht.ext q)) λAm w' A1=>by
       obtain⟨u,e,hF⟩:=A1
       rw[Ap]at hF
       exact⟨u,e,hF.m v.fxl⟩)
      (λW q=>HW hS2 (ht.ext q)) ht
end
end
end Go.Proofs.YtlmihmlnpjkblaaGreatDoor
