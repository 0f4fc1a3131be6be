/- Part of the proof of a statement about risks. -/
import Derived.Test.YthpinljhfnodeaaGreatDoorRmT1
import Derived.Test.YthpinljhfnodeaaGreatDoorRmT2
import Derived.Test.YthpinljhfnodeaaGreatDoorRmT3
import Derived.Test.YthpinljhfnodeaaGreatDoorRmT4
set_option linter.all false
namespace Go.Proofs.YthpinljhfnodeaaGreatDoor
open Go Go.Eng Go.RowKit Proofs.Tryz
variable {p x0 x1 x2 x3 x4 x5 x6 c f g n d:Int}{t1 t2 t3 t4 t5 t6 t8 t9 t10 t11 t13 t14 v1 v2 v3 v4:List UInt8}{gp gc e K pl:Nat}{w:World}
section
def vI (e:Nat):Prop:=∀K,1<=K->K<16*e->Yy (K*500000/e) ((K*500000+(e-1))/e)
def Yz:vI 11:=λK h1 h2=>by
 rcases Nat.lt_or_ge K 161 with h|h
 · exact dR Tv K U U
 exact dR LR K U U
def YA:vI 12:=λK h1 h2=>by
 rcases Nat.lt_or_ge K 161 with h|h
 · exact dR Tz K U U
 exact dR LN K U U
def YB:vI 13:=λK h1 h2=>by
 rcases Nat.lt_or_ge K 161 with h|h
 · exact dR TB K U U
 exact dR LP K U U
def YC:vI 14:=λK h1 h2=>by
 rcases Nat.lt_or_ge K 161 with h|h
 · exact dR TD K U U
 exact dR LS K U U
def YD:vI 15:=λK h1 h2=>by
 rcases Nat.lt_or_ge K 161 with h|h
 · exact dR Tw K U U
 exact dR LU K U U
def YE:vI 16:=λK h1 h2=>by
 rcases Nat.lt_or_ge K 161 with h|h
 · exact dR Tx K U U
 exact dR LK K U U
def YF:vI 17:=λK h1 h2=>by
 rcases Nat.lt_or_ge K 161 with h|h
 · exact dR TA K U U
 exact dR LQ K U U
def YG:vI 18:=λK h1 h2=>by
 rcases Nat.lt_or_ge K 161 with h|h
 · exact dR TC K U U
 exact dR LO K U U
def YH:vI 19:=λK h1 h2=>by
 rcases Nat.lt_or_ge K 161 with h|h
 · exact dR TE K U U
 exact dR LL K U U
def YI:vI 20:=λK h1 h2=>by
 rcases Nat.lt_or_ge K 161 with h|h
 · exact dR Ty K U U
 exact dR LM K U U
def TF (e:Nat)(h1:11<=e)(h2:e<=20):vI e:=by
 rcases(by omega:e=11\/e=12\/e=13\/e=14\/e=15\/e=16\/e=17\/e=18\/e=19\/e=20)with rfl|rfl|rfl|rfl|rfl|rfl|rfl|rfl|rfl|rfl
 · exact Yz
 · exact YA
 · exact YB
 · exact YC
 · exact YD
 · exact YE
 · exact YF
 · exact YG
 · exact YH
 · exact YI
end
section
attribute [local irreducible] wpListIn Code.wpIn Oper.wpIn Exit.then Exit.inBlock Exit.noGoto
set_option maxHeartbeats 40000000
def lZ {p:Prop}(h:p:=by kernel_rfl):p:=h
set_option maxRecDepth 100000 in
def GI {kaA WD c01 c02 c03 c04 p01 p02 p03 p04 c11 c12 c13 c14 p11 p12 p13 p14:List UInt8}{cells places eC0 eP0 eC1 eP1:Int}(hx:In64 cells)(hy:In64 places)(hc64:In64 c)(hp64:In64 p)(hcT:4<cells/\cells<=64->1+bA cells 4=c)(hcF:¬(4<cells/\cells<=64)->cells=c)(hpT:3<places/\places<=12->1+bA places 3=p)(hpF:¬(3<places/\places<=12)->places=p)(hSa:∀W,Tb W->CL 4 #[] W (aC W λv _=>v=.bool true))(hMd:∀W,Tb W->CL 5 #[.agg #[.int .i64 x0,.int .i64 x1,.int .i64 x2,.int .i64 x3,.int .i64 x4,.int .i64 x5,.int .i64 x6]] W (aC W λv _=>v=.agg #[S t1,S t2,S t3,S t4,S t5,S t6,S kaA,S t8,S t9,S t10,S t11,S WD,S t13,S t14]))(hC0:∀W,Tb W->CL 7 #[.agg #[S t1,S t2,S t3,S t4,S t5,S t6,S kaA,S t8,S t9,S t10,S t11,S WD,S t13,S t14],.int .i64 c,.int .i64 (1+(bA p 3))] W (aC W λv _=>v=.tuple #[.agg #[S c01,S c02,S c03,S c04],.int .i64 eC0]))(rC0:∀W,Tb W->CL 8 #[.agg #[S t1,S t2,S t3,S t4,S t5,S t6,S kaA,S t8,S t9,S t10,S t11,S WD,S t13,S t14],.int .i64 c,.int .i64 (1+(bA p 3))] W (aC W λv _=>v=.tuple #[.agg #[S c01,S c02,S c03,S c04],.int .i64 eC0]))(hP0:∀W,Tb W->CL 9 #[.agg #[S t1,S t2,S t3,S t4,S t5,S t6,S kaA,S t8,S t9,S t10,S t11,S WD,S t13,S t14],.int .i64 c,.int .i64 (1+(bA p 3))] W (aC W λv _=>v=.tuple #[.agg #[S p01,S p02,S p03,S p04],.int .i64 eP0]))(rP0:∀W,Tb W->CL 10 #[.agg #[S t1,S t2,S t3,S t4,S t5,S t6,S kaA,S t8,S t9,S t10,S t11,S WD,S t13,S t14],.int .i64 c,.int .i64 (1+(bA p 3))] W (aC W λv _=>v=.tuple #[.agg #[S p01,S p02,S p03,S p04],.int .i64 eP0]))(hC1:∀W,Tb W->CL 7 #[.agg #[S t1,S t2,S t3,S t4,S t5,S t6,S kaA,S t8,S t9,S t10,S t11,S WD,S t13,S t14],.int .i64 (1+(bA c 4)),.int .i64 p] W (aC W λv _=>v=.tuple #[.agg #[S c11,S c12,S c13,S c14],.int .i64 eC1]))(rC1:∀W,Tb W->CL 8 #[.agg #[S t1,S t2,S t3,S t4,S t5,S t6,S kaA,S t8,S t9,S t10,S t11,S WD,S t13,S t14],.int .i64 (1+(bA c 4)),.int .i64 p] W (aC W λv _=>v=.tuple #[.agg #[S c11,S c12,S c13,S c14],.int .i64 eC1]))(hP1:∀W,Tb W->CL 9 #[.agg #[S t1,S t2,S t3,S t4,S t5,S t6,S kaA,S t8,S t9,S t10,S t11,S WD,S t13,S t14],.int .i64 (1+(bA c 4)),.int .i64 p] W (aC W λv _=>v=.tuple #[.agg #[S p11,S p12,S p13,S p14],.int .i64 eP1]))(rP1:∀W,Tb W->CL 10 #[.agg #[S t1,S t2,S t3,S t4,S t5,S t6,S kaA,S t8,S t9,S t10,S t11,S WD,S t13,S t14],.int .i64 (1+(bA c 4)),.int .i64 p] W (aC W λv _=>v=.tuple #[.agg #[S p11,S p12,S p13,S p14],.int .i64 eP1]))(ht:Tb w):
 CL 3 #[.agg #[.int .i64 x0,.int .i64 x1,.int .i64 x2,.int .i64 x3,.int .i64 x4,.int .i64 x5,.int .i64 x6],.int .i64 cells,.int .i64 places] w (aC w λv w'=>v=.bool true):=by
 have ZJ:=fQ cells 4 dc;have ZM:=fQ places 3 dc;have ZP:=fQ p 3 dc;have ZO:=fQ c 4 dc;refine aE func3 Z (I ?_);refine bx (λ_ F5 qr=>?_);have Am:=F5.2;refine I ?_;refine cl QA (hSa _ (ht.ext Am)) ?_;rintro _ _ Z7 rfl;have⟨qr,Am⟩:=bD Z7.2 qr Am;refine I ?_;refine ac (ar (cs:=[.int .i64 x0,.int .i64 x1,.int .i64 x2,.int .i64 x3,.int .i64 x4,.int .i64 x5,.int .i64 x6]) (b:=w.heap.size) (o:=0) rI Z P3 Z (aa1 qr (i:=0) Z) ?_);refine cl QB (hMd _ (ht.ext Am)) ?_;rintro _ Aq F6 rfl;have⟨qr,Am⟩:=bD F6.2 qr Am;refine al kj (λ_ Jx Ix=>?_);have⟨qr,Am⟩:=bD Jx.2 qr Am;refine ac (bg (b:=Aq.heap.size) (o:=0) (vs:=[S t1,S t2,S t3,S t4,S t5,S t6,S kaA,S t8,S t9,S t10,S t11,S WD,S t13,S t14]) cD Z Z MT Ix (qa3 Z) (λZ3 Z1 O=>?_));have O:=ab8 O (cs:=#[S t1,S t2,S t3,S t4,S t5,S t6,S kaA,S t8,S t9,S t10,S t11,S WD,S t13,S t14]) lZ;have⟨qr,Am,_⟩:=ks Z1 qr Am;refine gx ?_;refine nK ?_
 refine Ig [(1,1),(22,30)] (λe W=>(e 1=.int .i64 c)/\(bF w W)/\(Z3.heap.size<=W.heap.size)/\(au W w.heap.size 22 #[.int .i64 x0,.int .i64 x1,.int .i64 x2,.int .i64 x3,.int .i64 x4,.int .i64 x5,.int .i64 x6])/\(au W Aq.heap.size 27 #[S t1,S t2,S t3,S t4,S t5,S t6,S kaA,S t8,S t9,S t10,S t11,S WD,S t13,S t14])) ?_ ?_;refine I ?_;by_cases w8:4<cells;refine I ?_;by_cases ao9:cells<=64;refine I ?_;refine clb xy (hc:=lQ cells 4 _ hx U) (hk:=?_);rintro _ _ Z5 rfl;have⟨qr,O,Am⟩:=bC Z5.2 qr O Am;refine wl (I ?_);exact sw ⟨(by rw[<-hcT U];exact Z),Am,U,qr,O⟩;refine I ?_;exact sw ⟨(by rw[<-hcF U];exact Z),Am,U,qr,O⟩;refine I ?_;exact sw ⟨(by rw[<-hcF U];exact Z),Am,U,qr,O⟩;rintro _ R1 ⟨ZK,Ax,ZN,qr,O⟩;refine nK ?_;refine Ig [(2,2),(31,39)] (λe W=>(e 2=.int .i64 p)/\(bF w W)/\(R1.heap.size<=W.heap.size)/\(au W w.heap.size 22 #[.int .i64 x0,.int .i64 x1,.int .i64 x2,.int .i64 x3,.int .i64 x4,.int .i64 x5,.int .i64 x6])/\(au W Aq.heap.size 27 #[S t1,S t2,S t3,S t4,S t5,S t6,S kaA,S t8,S t9,S t10,S t11,S WD,S t13,S t14])) ?_ ?_;refine I ?_;by_cases aol:3<places;refine I ?_;by_cases apb:places<=12;refine I ?_;refine clb xy (hc:=lQ places 3 _ hy U) (hk:=?_);rintro _ _ W1 rfl
 have⟨qr,O,Ax⟩:=bC W1.2 qr O Ax;refine wl (I ?_);exact sw ⟨(by rw[<-hpT U];exact Z),Ax,U,qr,O⟩;refine I ?_;exact sw ⟨(by rw[<-hpF U];exact Z),Ax,U,qr,O⟩;refine I ?_;exact sw ⟨(by rw[<-hpF U];exact Z),Ax,U,qr,O⟩;rintro _ _ ⟨ZQ,qn,ZL,qr,O⟩;refine I ?_;refine clb xy (hc:=lQ p 3 _ hp64 U) (hk:=?_);rintro _ _ Z8 rfl;have⟨qr,O,qn⟩:=bC Z8.2 qr O qn;refine wl ?_;refine ac (vA (vs:=[(0,.int .i64 c),(1,.int .i64 (1+(bA p 3)))]) (cells:=#[.int .i64 c,.int .i64 (1+(bA p 3))]) y5 zc mf Z lZ ?_);refine I ?_;refine clb xy (hc:=lQ c 4 _ hc64 U) (hk:=?_);rintro _ Ay F4 rfl;have⟨qr,O,qn⟩:=bC F4.2 qr O qn;refine wl (I ?_);refine ac (vA (vs:=[(0,.int .i64 (1+(bA c 4))),(1,.int .i64 p)]) (cells:=#[.int .i64 (1+(bA c 4)),.int .i64 p]) y5 zc mf Z lZ ?_);refine ac (je (vs:=[(0,.agg #[.int .i64 c,.int .i64 (1+(bA p 3))]),(1,.agg #[.int .i64 (1+(bA c 4)),.int .i64 p])]) (cells:=#[.int .i64 c,.int .i64 (1+(bA p 3)),.int .i64 (1+(bA c 4)),.int .i64 p]) Ha zc Z dc dc lZ (λAr ZG A1=>?_));have⟨qr,O,qn⟩:=bC ZG.2 qr O qn;refine I ?_;refine Gr 3 (I ?_)
 refine ac (ah (A:=some ⟨Ay.heap.size,0,none⟩) (bk:=Ay.heap.size) (o:=0) (m:=2) (c:=2) (i:=0) (oo:=0) Ha Md Z Z Z U Z ?_);refine I ?_;refine al zc (λ_ Z6 Z9=>?_);have⟨qr,O,A1,qn⟩:=bW Z6.2 qr O A1 qn;refine ac (bg (b:=Ar.heap.size) (o:=0) (vs:=[.int .i64 c,.int .i64 (1+(bA p 3))]) Md Z Z MT Z9 (qa3 Z) (λ_ T3 A2=>?_));have⟨qr,O,A1,qn,_⟩:=l7 T3 qr O A1 qn;refine I ?_;refine ac (ar (cs:=[S t1,S t2,S t3,S t4,S t5,S t6,S kaA,S t8,S t9,S t10,S t11,S WD,S t13,S t14]) (b:=Aq.heap.size) (o:=0) aP Z cD Z (aa1 O (i:=0) lZ) ?_);refine ac (cM (m:=2) (b:=Ar.heap.size) (o:=0) (i:=0) (oo:=0) y5 eP Z Z dc Z ?_);refine I ?_;refine ac (cM (m:=2) (b:=Ar.heap.size) (o:=0) (i:=1) (oo:=1) y5 eP Z Z dc Z ?_);refine I ?_;refine cl xz (hC0 _ (ht.ext qn)) ?_;rintro _ T4 Wa rfl;have⟨qr,O,A1,A2,qn⟩:=eE Wa.2 qr O A1 A2 qn;refine I ?_;refine al ap (λ_ Kp ZB=>?_);have⟨qr,O,A1,A2,qn⟩:=eE Kp.2 qr O A1 A2 qn;refine SA ZB (λ_ ZH Af=>?_);have⟨qr,O,A1,A2,qn,_⟩:=vK ZH qr O A1 A2 qn;refine I ?_
 refine ac (ar (cs:=[S t1,S t2,S t3,S t4,S t5,S t6,S kaA,S t8,S t9,S t10,S t11,S WD,S t13,S t14]) (b:=Aq.heap.size) (o:=0) aP Z cD Z (aa1 O (i:=0) lZ) ?_);refine ac (cM (m:=2) (b:=Ar.heap.size) (o:=0) (i:=0) (oo:=0) y5 eP Z Z dc Z ?_);refine I ?_;refine ac (cM (m:=2) (b:=Ar.heap.size) (o:=0) (i:=1) (oo:=1) y5 eP Z Z dc Z ?_);refine I ?_;refine cl HK (rC0 _ (ht.ext qn)) ?_;rintro _ Z2 TT rfl;have⟨qr,O,A1,A2,Af,qn⟩:=kW TT.2 qr O A1 A2 Af qn;refine I ?_;refine al ap (λ_ ZF S1=>?_);have⟨qr,O,A1,A2,Af,qn⟩:=kW ZF.2 qr O A1 A2 Af qn;refine SA S1 (λ_ N1 Ao=>?_);have⟨qr,O,A1,A2,Af,qn,_⟩:=Ck N1 qr O A1 A2 Af qn;refine I ?_;refine ac (ar (cs:=[S t1,S t2,S t3,S t4,S t5,S t6,S kaA,S t8,S t9,S t10,S t11,S WD,S t13,S t14]) (b:=Aq.heap.size) (o:=0) aP Z cD Z (aa1 O (i:=0) lZ) ?_);refine ac (cM (m:=2) (b:=Ar.heap.size) (o:=0) (i:=0) (oo:=0) y5 eP Z Z dc Z ?_);refine I ?_;refine ac (cM (m:=2) (b:=Ar.heap.size) (o:=0) (i:=1) (oo:=1) y5 eP Z Z dc Z ?_);refine I ?_;refine cl BR (hP0 _ (ht.ext qn)) ?_;rintro _ T2 Ek rfl;have⟨qr,O,A1,A2,Af⟩:=dY Ek.2 qr O A1 A2 Af;have⟨Ao,qn⟩:=bD Ek.2 Ao qn;refine I ?_;refine al ap (λ_ E4 F2=>?_)
 have⟨qr,O,A1,A2,Af⟩:=dY E4.2 qr O A1 A2 Af;have⟨Ao,qn⟩:=bD E4.2 Ao qn;refine SA F2 (λ_ EE Aw=>?_);have⟨qr,O,A1,A2,Af⟩:=jv EE qr O A1 A2 Af;have⟨Ao,qn,_⟩:=ks EE Ao qn;refine I ?_;refine ac (ar (cs:=[S t1,S t2,S t3,S t4,S t5,S t6,S kaA,S t8,S t9,S t10,S t11,S WD,S t13,S t14]) (b:=Aq.heap.size) (o:=0) aP Z cD Z (aa1 O (i:=0) lZ) ?_);refine ac (cM (m:=2) (b:=Ar.heap.size) (o:=0) (i:=0) (oo:=0) y5 eP Z Z dc Z ?_);refine I ?_;refine ac (cM (m:=2) (b:=Ar.heap.size) (o:=0) (i:=1) (oo:=1) y5 eP Z Z dc Z ?_);refine I ?_;refine cl HL (rP0 _ (ht.ext qn)) ?_;rintro _ W0 EW rfl;have⟨qr,O,A1,A2,Af⟩:=dY EW.2 qr O A1 A2 Af;have⟨Ao,Aw,qn⟩:=bC EW.2 Ao Aw qn;refine I ?_;refine al ap (λ_ F1 F8=>?_);have⟨qr,O,A1,A2,Af⟩:=dY F1.2 qr O A1 A2 Af;have⟨Ao,Aw,qn⟩:=bC F1.2 Ao Aw qn;refine SA F8 (λAs E9 W2=>?_);have⟨qr,O,A1,A2,Af⟩:=jv E9 qr O A1 A2 Af;have⟨Ao,Aw,qn,_⟩:=mD E9 Ao Aw qn;refine I ?_;(try refine ac (ar (cs:=[S c01,S c02,S c03,S c04]) (b:=T4.heap.size) (o:=0) aJ Z ay Z (aa1 Af (i:=0) Z) ?_));(try refine ac (ar (cs:=[S c01,S c02,S c03,S c04]) (b:=Z2.heap.size) (o:=0) aJ Z ay Z (aa1 Ao (i:=0) Z) ?_))
 refine ac (yw (a:=((c01,c02),(c03,c04))) (b:=((c01,c02),(c03,c04))) (q:=false) Z Z kc9 ?_);refine I ?_;(try refine ac (ar (cs:=[S p01,S p02,S p03,S p04]) (b:=T2.heap.size) (o:=0) aJ Z ay Z (aa1 Aw (i:=0) Z) ?_));refine I ?_;(try refine ac (ar (cs:=[S p01,S p02,S p03,S p04]) (b:=W0.heap.size) (o:=0) aJ Z ay Z (aa1 W2 (i:=0) Z) ?_));refine I ?_;refine ac (yw (a:=((p01,p02),(p03,p04))) (b:=((p01,p02),(p03,p04))) (q:=false) Z Z kc9 ?_);refine I ?_;refine ac (bb (a:=0) (b:=1) (c:=1) Z Z L7 Z ?_);refine I ?_;refine l6 (I ?_);refine ac (ah (A:=some ⟨Ay.heap.size,0,none⟩) (bk:=Ay.heap.size) (o:=0) (m:=2) (c:=2) (i:=1) (oo:=2) Ha Md Z Z Z U Z ?_);refine I ?_;refine al zc (λ_ ZI ZA=>?_);have⟨qr,O,A1,qn⟩:=bW ZI.2 qr O A1 qn;refine ac (bg (b:=As.heap.size) (o:=0) (vs:=[.int .i64 (1+(bA c 4)),.int .i64 p]) Md Z Z MT ZA (qa3 Z) (λ_ Wb Ab=>?_));have⟨qr,O,A1,qn,_⟩:=l7 Wb qr O A1 qn;refine I ?_
 refine ac (ar (cs:=[S t1,S t2,S t3,S t4,S t5,S t6,S kaA,S t8,S t9,S t10,S t11,S WD,S t13,S t14]) (b:=Aq.heap.size) (o:=0) aP Z cD Z (aa1 O (i:=0) lZ) ?_);refine ac (cM (m:=2) (b:=As.heap.size) (o:=0) (i:=0) (oo:=0) y5 eP Z Z dc Z ?_);refine I ?_;refine ac (cM (m:=2) (b:=As.heap.size) (o:=0) (i:=1) (oo:=1) y5 eP Z Z dc Z ?_);refine I ?_;refine cl xz (hC1 _ (ht.ext qn)) ?_;rintro _ G4 W3 rfl;have⟨qr,O,A1,Ab,qn⟩:=eE W3.2 qr O A1 Ab qn;refine I ?_;refine al ap (λ_ F3 L2=>?_);have⟨qr,O,A1,Ab,qn⟩:=eE F3.2 qr O A1 Ab qn;refine SA L2 (λ_ ZE Ad=>?_);have⟨qr,O,A1,Ab,qn,_⟩:=vK ZE qr O A1 Ab qn;refine I ?_;refine ac (ar (cs:=[S t1,S t2,S t3,S t4,S t5,S t6,S kaA,S t8,S t9,S t10,S t11,S WD,S t13,S t14]) (b:=Aq.heap.size) (o:=0) aP Z cD Z (aa1 O (i:=0) lZ) ?_);refine ac (cM (m:=2) (b:=As.heap.size) (o:=0) (i:=0) (oo:=0) y5 eP Z Z dc Z ?_);refine I ?_;refine ac (cM (m:=2) (b:=As.heap.size) (o:=0) (i:=1) (oo:=1) y5 eP Z Z dc Z ?_);refine I ?_;refine cl HK (rC1 _ (ht.ext qn)) ?_;rintro _ F7 K2 rfl;have⟨qr,O,A1,Ab,Ad,qn⟩:=kW K2.2 qr O A1 Ab Ad qn;refine I ?_;refine al ap (λ_ Ne No=>?_)
 have⟨qr,O,A1,Ab,Ad,qn⟩:=kW Ne.2 qr O A1 Ab Ad qn;refine SA No (λ_ wr Ap=>?_);have⟨qr,O,A1,Ab,Ad,qn,_⟩:=Ck wr qr O A1 Ab Ad qn;refine I ?_;refine ac (ar (cs:=[S t1,S t2,S t3,S t4,S t5,S t6,S kaA,S t8,S t9,S t10,S t11,S WD,S t13,S t14]) (b:=Aq.heap.size) (o:=0) aP Z cD Z (aa1 O (i:=0) lZ) ?_);refine ac (cM (m:=2) (b:=As.heap.size) (o:=0) (i:=0) (oo:=0) y5 eP Z Z dc Z ?_);refine I ?_;refine ac (cM (m:=2) (b:=As.heap.size) (o:=0) (i:=1) (oo:=1) y5 eP Z Z dc Z ?_);refine I ?_;refine cl BR (hP1 _ (ht.ext qn)) ?_;rintro _ ZD E1 rfl;have⟨qr,O,A1,Ab,Ad⟩:=dY E1.2 qr O A1 Ab Ad;have⟨Ap,qn⟩:=bD E1.2 Ap qn;refine I ?_;refine al ap (λ_ E7 Z0=>?_);have⟨qr,O,A1,Ab,Ad⟩:=dY E7.2 qr O A1 Ab Ad;have⟨Ap,qn⟩:=bD E7.2 Ap qn;refine SA Z0 (λ_ EP Av=>?_);have⟨qr,O,A1,Ab,Ad⟩:=jv EP qr O A1 Ab Ad;have⟨Ap,qn,_⟩:=ks EP Ap qn;refine I ?_;refine ac (ar (cs:=[S t1,S t2,S t3,S t4,S t5,S t6,S kaA,S t8,S t9,S t10,S t11,S WD,S t13,S t14]) (b:=Aq.heap.size) (o:=0) aP Z cD Z (aa1 O (i:=0) lZ) ?_);refine ac (cM (m:=2) (b:=As.heap.size) (o:=0) (i:=0) (oo:=0) y5 eP Z Z dc Z ?_);refine I ?_;refine ac (cM (m:=2) (b:=As.heap.size) (o:=0) (i:=1) (oo:=1) y5 eP Z Z dc Z ?_)
 refine I ?_;refine cl HL (rP1 _ (ht.ext qn)) ?_;rintro _ ZC ny rfl;have⟨qr,O,A1,Ab,Ad⟩:=dY ny.2 qr O A1 Ab Ad;have⟨Ap,Av,qn⟩:=bC ny.2 Ap Av qn;refine I ?_;refine al ap (λ_ od X2=>?_);have⟨qr,O,A1,Ab,Ad⟩:=dY od.2 qr O A1 Ab Ad;have⟨Ap,Av,qn⟩:=bC od.2 Ap Av qn;refine SA X2 (λ_ E0 G3=>?_);have⟨qr,O,A1,Ab,Ad⟩:=jv E0 qr O A1 Ab Ad;have⟨Ap,Av⟩:=eR E0 Ap Av;have qn:=bB E0 qn;refine I ?_;(try refine ac (ar (cs:=[S c11,S c12,S c13,S c14]) (b:=G4.heap.size) (o:=0) aJ Z ay Z (aa1 Ad (i:=0) Z) ?_));(try refine ac (ar (cs:=[S c11,S c12,S c13,S c14]) (b:=F7.heap.size) (o:=0) aJ Z ay Z (aa1 Ap (i:=0) Z) ?_));refine ac (yw (a:=((c11,c12),(c13,c14))) (b:=((c11,c12),(c13,c14))) (q:=false) Z Z kc9 ?_);refine I ?_;(try refine ac (ar (cs:=[S p11,S p12,S p13,S p14]) (b:=ZD.heap.size) (o:=0) aJ Z ay Z (aa1 Av (i:=0) Z) ?_));refine I ?_;(try refine ac (ar (cs:=[S p11,S p12,S p13,S p14]) (b:=ZC.heap.size) (o:=0) aJ Z ay Z (aa1 G3 (i:=0) Z) ?_));refine I ?_;refine ac (yw (a:=((p11,p12),(p13,p14))) (b:=((p11,p12),(p13,p14))) (q:=false) Z Z kc9 ?_);refine I ?_;refine ac (bb (a:=1) (b:=1) (c:=2) Z Z L7 Z ?_);refine I ?_
 refine l6 (I ?_);exact ax (t:=6) (v:=.bool true) Z qn Z Z
set_option maxRecDepth 100000
def sq (h1:1<=p)(h12:p<=12):
 CL 29 #[.int .i64 p] w (aC w λv w'=>v=.bool true):=by
 refine aE func29 Z (I ?_);exact ax (t:=2) (v:=.bool (decide (p<=12))) Z (aa2 _) (by rw[decide_eq_true (show p<=12 by omega)]) Z
def Bu (hb:¬(1<=p/\p<=12)):
 CL 29 #[.int .i64 p] w (aC w λv w'=>v=.bool false):=by
 refine aE func29 Z (I ?_);by_cases cf:1<=p;refine I ?_;exact ax (t:=2) (v:=.bool (decide (p<=12))) Z (aa2 _) kd2 Z;refine I ?_;exact ax (t:=2) (v:=.bool false) Z (aa2 _) kd2 Z
def GJ {kaA WD:List UInt8}(hR:CR 29 #[.int .i64 p] (.bool false)):
 CL 22 #[.agg #[S t1,S t2,S t3,S t4,S t5,S t6,S kaA,S t8,S t9,S t10,S t11,S WD,S t13,S t14],.int .i64 c,.int .i64 p,.func (.func gp) #[] #[],.func (.func gc) #[] #[]] w (aC w λv w'=>v=.tuple #[.agg #[S [],S [],S [],S []],.int .i64 150]):=by
 refine aE func22 Z (I ?_);refine bx (λ_ Ax qr=>?_);have O:=Ax.2;refine bx (v:=.func (.func gp) #[] #[]) (hx:=rfl) (λ_ Ao W=>?_);have⟨qr,O⟩:=bD Ao.2 qr O;refine bx (v:=.func (.func gc) #[] #[]) (hx:=rfl) (λAv Ap qn=>?_);have⟨qr,W,O⟩:=bC Ap.2 qr W O;refine al ap (λAr Aq A1=>?_);have⟨qr,W,qn,O⟩:=bW Aq.2 qr W qn O;refine al lT (λ_ Am A2=>?_);have⟨qr,W,qn,A1,O⟩:=eE Am.2 qr W qn A1 O;refine I ?_;refine cl lB (hR _) ?_;rintro _ _ Aw rfl;have⟨qr,W,qn,A1,A2,O⟩:=kW Aw.2 qr W qn A1 A2 O;refine I ?_;refine SA A1 (λ_ Ad Ab=>?_);have⟨qr,W,qn,A2⟩:=wm Ad qr W qn A2;have O:=bB Ad O;refine SO A2 (λ_ Af As=>?_);have⟨qr,W,qn,Ab⟩:=wm Af qr W qn Ab;have O:=bB Af O;refine I ?_;refine aI (v:=.tuple #[.agg #[S [],S [],S [],S []],.int .i64 150]) (cn (r1:=.cell 10 33) (r2:=.cell 11 34) Z ?_ ?_) O Z;refine ag (t:=10) (cs:=[S [],S [],S [],S []]) (b:=Av.heap.size) (o:=0) aJ Z ay ?_ ?_;exact Z;exact aa1 Ab (i:=0) Z;refine dh (t:=11) (b:=Ar.heap.size) (o:=0) G9 Z ?_ ?_;exact Z;exact aa9 As Z
def GK {kaA WD:List UInt8}(hR:CR 29 #[.int .i64 p] (.bool true))(hc:c<1):
 CL 22 #[.agg #[S t1,S t2,S t3,S t4,S t5,S t6,S kaA,S t8,S t9,S t10,S t11,S WD,S t13,S t14],.int .i64 c,.int .i64 p,.func (.func gp) #[] #[],.func (.func gc) #[] #[]] w (aC w λv w'=>v=.tuple #[.agg #[S [],S [],S [],S []],.int .i64 150]):=by
 refine aE func22 Z (I ?_);refine bx (λ_ Ax qr=>?_);have O:=Ax.2;refine bx (v:=.func (.func gp) #[] #[]) (hx:=rfl) (λ_ Ao W=>?_);have⟨qr,O⟩:=bD Ao.2 qr O;refine bx (v:=.func (.func gc) #[] #[]) (hx:=rfl) (λAv Ap qn=>?_);have⟨qr,W,O⟩:=bC Ap.2 qr W O;refine al ap (λAr Aq A1=>?_);have⟨qr,W,qn,O⟩:=bW Aq.2 qr W qn O;refine al lT (λ_ Am A2=>?_);have⟨qr,W,qn,A1,O⟩:=eE Am.2 qr W qn A1 O;refine I ?_;refine cl lB (hR _) ?_;rintro _ _ Aw rfl;have⟨qr,W,qn,A1,A2,O⟩:=kW Aw.2 qr W qn A1 A2 O;refine I ?_;refine SA A1 (λ_ Ad Ab=>?_);have⟨qr,W,qn,A2⟩:=wm Ad qr W qn A2;have O:=bB Ad O;refine SO A2 (λ_ Af As=>?_);have⟨qr,W,qn,Ab⟩:=wm Af qr W qn Ab;have O:=bB Af O;refine I ?_;refine aI (v:=.tuple #[.agg #[S [],S [],S [],S []],.int .i64 150]) (cn (r1:=.cell 10 33) (r2:=.cell 11 34) Z ?_ ?_) O Z;refine ag (t:=10) (cs:=[S [],S [],S [],S []]) (b:=Av.heap.size) (o:=0) aJ Z ay ?_ ?_;exact Z;exact aa1 Ab (i:=0) Z;refine dh (t:=11) (b:=Ar.heap.size) (o:=0) G9 Z ?_ ?_;exact Z;exact aa9 As Z
def GL {kaA WD:List UInt8}(hR:CR 29 #[.int .i64 p] (.bool true))(hc:64<c):
 CL 22 #[.agg #[S t1,S t2,S t3,S t4,S t5,S t6,S kaA,S t8,S t9,S t10,S t11,S WD,S t13,S t14],.int .i64 c,.int .i64 p,.func (.func gp) #[] #[],.func (.func gc) #[] #[]] w (aC w λv w'=>v=.tuple #[.agg #[S [],S [],S [],S []],.int .i64 150]):=by
 refine aE func22 Z (I ?_);refine bx (λ_ Ax qr=>?_);have O:=Ax.2;refine bx (v:=.func (.func gp) #[] #[]) (hx:=rfl) (λ_ Ao W=>?_);have⟨qr,O⟩:=bD Ao.2 qr O;refine bx (v:=.func (.func gc) #[] #[]) (hx:=rfl) (λAv Ap qn=>?_);have⟨qr,W,O⟩:=bC Ap.2 qr W O;refine al ap (λAr Aq A1=>?_);have⟨qr,W,qn,O⟩:=bW Aq.2 qr W qn O;refine al lT (λ_ Am A2=>?_);have⟨qr,W,qn,A1,O⟩:=eE Am.2 qr W qn A1 O;refine I ?_;refine cl lB (hR _) ?_;rintro _ _ Aw rfl;have⟨qr,W,qn,A1,A2,O⟩:=kW Aw.2 qr W qn A1 A2 O;refine I ?_;refine SA A1 (λ_ Ad Ab=>?_);have⟨qr,W,qn,A2⟩:=wm Ad qr W qn A2;have O:=bB Ad O;refine SO A2 (λ_ Af As=>?_);have⟨qr,W,qn,Ab⟩:=wm Af qr W qn Ab;have O:=bB Af O;refine I ?_;refine aI (v:=.tuple #[.agg #[S [],S [],S [],S []],.int .i64 150]) (cn (r1:=.cell 10 33) (r2:=.cell 11 34) Z ?_ ?_) O Z;refine ag (t:=10) (cs:=[S [],S [],S [],S []]) (b:=Av.heap.size) (o:=0) aJ Z ay ?_ ?_;exact Z;exact aa1 Ab (i:=0) Z;refine dh (t:=11) (b:=Ar.heap.size) (o:=0) G9 Z ?_ ?_;exact Z;exact aa9 As Z
def GM {kaA WD:List UInt8}{e:Int}(hT:∀W,CL 22 #[.agg #[S t1,S t2,S t3,S t4,S t5,S t6,S kaA,S t8,S t9,S t10,S t11,S WD,S t13,S t14],.int .i64 c,.int .i64 p,.func (.func 23) #[] #[],.func (.func 24) #[] #[]] W (aC W λv _=>v=.tuple #[.agg #[S v1,S v2,S v3,S v4],.int .i64 e])):
 CL 7 #[.agg #[S t1,S t2,S t3,S t4,S t5,S t6,S kaA,S t8,S t9,S t10,S t11,S WD,S t13,S t14],.int .i64 c,.int .i64 p] w (aC w λv w'=>v=.tuple #[.agg #[S v1,S v2,S v3,S v4],.int .i64 e]):=by
 refine aE func7 Z (I ?_);refine bx (λAb Am O=>?_);have qr:=Am.2;refine al ap (λ_ Af qn=>?_);have⟨O,qr⟩:=bD Af.2 O qr;refine I ?_;refine ac (ar (cs:=[S t1,S t2,S t3,S t4,S t5,S t6,S kaA,S t8,S t9,S t10,S t11,S WD,S t13,S t14]) (b:=w.heap.size) (o:=0) aP Z cD Z (aa1 O (i:=0) GS) ?_);refine I ?_;refine cl tU (hT _) ?_;rintro _ _ Ad rfl;have⟨O,qn,qr⟩:=bC Ad.2 O qn qr;refine I ?_;refine SA qn (λ_ A1 A2=>?_);have O:=pb A1 O;have qr:=bB A1 qr;refine I ?_;refine aI (v:=.tuple #[.agg #[S v1,S v2,S v3,S v4],.int .i64 e]) (cn (r1:=.cell 6 33) (r2:=.tmp 7) Z ?_ ?_) qr Z;refine ag (t:=6) (cs:=[S v1,S v2,S v3,S v4]) (b:=Ab.heap.size) (o:=0) aJ Z ay ?_ ?_;exact Z;exact aa1 A2 (i:=0) Z;exact aD (t:=7) Rd _
def GN {kaA WD:List UInt8}{e:Int}(hT:∀W,CL 22 #[.agg #[S t1,S t2,S t3,S t4,S t5,S t6,S kaA,S t8,S t9,S t10,S t11,S WD,S t13,S t14],.int .i64 c,.int .i64 p,.func (.func 26) #[] #[],.func (.func 27) #[] #[]] W (aC W λv _=>v=.tuple #[.agg #[S v1,S v2,S v3,S v4],.int .i64 e])):
 CL 9 #[.agg #[S t1,S t2,S t3,S t4,S t5,S t6,S kaA,S t8,S t9,S t10,S t11,S WD,S t13,S t14],.int .i64 c,.int .i64 p] w (aC w λv w'=>v=.tuple #[.agg #[S v1,S v2,S v3,S v4],.int .i64 e]):=by
 refine aE func9 Z (I ?_);refine bx (λAb Am O=>?_);have qr:=Am.2;refine al ap (λ_ Af qn=>?_);have⟨O,qr⟩:=bD Af.2 O qr;refine I ?_;refine ac (ar (cs:=[S t1,S t2,S t3,S t4,S t5,S t6,S kaA,S t8,S t9,S t10,S t11,S WD,S t13,S t14]) (b:=w.heap.size) (o:=0) aP Z cD Z (aa1 O (i:=0) GS) ?_);refine I ?_;refine cl tU (hT _) ?_;rintro _ _ Ad rfl;have⟨O,qn,qr⟩:=bC Ad.2 O qn qr;refine I ?_;refine SA qn (λ_ A1 A2=>?_);have O:=pb A1 O;have qr:=bB A1 qr;refine I ?_;refine aI (v:=.tuple #[.agg #[S v1,S v2,S v3,S v4],.int .i64 e]) (cn (r1:=.cell 6 33) (r2:=.tmp 7) Z ?_ ?_) qr Z;refine ag (t:=6) (cs:=[S v1,S v2,S v3,S v4]) (b:=Ab.heap.size) (o:=0) aJ Z ay ?_ ?_;exact Z;exact aa1 A2 (i:=0) Z;exact aD (t:=7) Rd _
end
section
structure Y4 (m s e l h lo up:Int):Prop where
 m1:-20<=m
 m2:m<=20
 s1:1<=s
 s2:s<=20
 e1:1<=e
 e2:e<=20
 l1:-30<=l
 l2:l<=10
 h1:l<h
 h2:h<=l+40
 o1:-64<=lo
 o2:lo<up
 o3:up<=184
 o4:(lo+up)%2=0
def TG (hx0:In64 x0)(hx1:In64 x1)(hx2:In64 x2)(hx3:In64 x3)(hx4:In64 x4)(hx5:In64 x5)(hx6:In64 x6):
 ∃m s e l h lo up:Int,Y4 m s e l h lo up/\∀w:World,CL 5 #[.agg #[.int .i64 x0,.int .i64 x1,.int .i64 x2,.int .i64 x3,.int .i64 x4,.int .i64 x5,.int .i64 x6]] w (aC w λv _=>v=.agg (kaA m 10 s 10 e 20 l 10 h 10 lo 20 up 20)):=by
 have b0:=fQ x0 41 dc
 have b1:=fQ x1 20 dc
 have b2:=fQ x2 20 dc
 have b3:=fQ x3 41 dc
 have b4:=fQ x4 40 dc
 have b5:=fQ x5 9 dc
 have key:∀(bo:Bool) (ra sa za:Int),(bo=decide (2*(bA x3 41-30)+(bA x5 9-4)<2*(bA x3 41-30+(1+bA x4 40))-(bA x5 9-4)))->(bo=true->ra=2*(bA x3 41-30)+(bA x5 9-4)/\sa=2*(bA x3 41-30+(1+bA x4 40))-(bA x5 9-4))->(bo=false->ra=2*(bA x3 41-30)/\sa=2*(bA x3 41-30+(1+bA x4 40)))->(bA x6 4=0->za=sa+2*(1+bA x4 40))->(¬bA x6 4=0->za=sa)->-200<=sa->sa<=200->
  ∀w:World,CL 5 #[.agg #[.int .i64 x0,.int .i64 x1,.int .i64 x2,.int .i64 x3,.int .i64 x4,.int .i64 x5,.int .i64 x6]] w (aC w λv _=>v=.agg (kaA (bA x0 41-20) 10 (1+bA x1 20) 10 (1+bA x2 20) 20 (bA x3 41-30) 10 (bA x3 41-30+(1+bA x4 40)) 10 ra 20 za 20)):=by
  intro bo ra sa za qr hT hF hZ hN _ _ w
  refine Gz (w:=w) (bo:=bo) (ha:=bA x3 41-30+(1+bA x4 40)) (hb:=10) (la:=2*(bA x3 41-30)+(bA x5 9-4)) (lb:=20) (ua:=2*(bA x3 41-30+(1+bA x4 40))-(bA x5 9-4)) (ub:=20) (ra:=ra) (rb:=20) (sa:=sa) (sb:=20) (za:=za) (zb:=20) hx0 hx1 hx2 hx3 hx4 hx5 hx6 Z Z Z Z Z Z Z b0 b1 b2 b3 b4 b5
   (dK U dc dc) (dK U dc dc) (dK U dc dc) (dK U dc dc) (dK U dc dc) (dK U dc dc) (dK U dc dc)
   (aU dc dc U) (aU dc dc U) (aU dc dc U) ?_ ?_ ?_ ?_ ?_
  · rw[qr];exact decide_eq_decide.2 ⟨λh=>by have:=dy.1 h;omega,λh=>dy.2 U⟩
  · intro h;obtain⟨h1,h2⟩:=hT h;subst h1;subst h2;exact⟨rfl,rfl⟩
  · intro h;obtain⟨h1,h2⟩:=hF h;subst h1;subst h2;exact⟨aU dc dc U,aU dc dc U⟩
  · intro h;rw[hZ h];exact aU dc dc U
  · intro h;rw[hN h]
 obtain⟨sp,hsp,_,_,_⟩:∃sp:Int,(if bA x6 4=0 then 2*(1+bA x4 40)else 0)=sp/\0<=sp/\sp<=80/\sp%2=0:=by
  refine⟨_,rfl,?_,?_,?_⟩ <;>split <;>omega
 have z1:∀sa:Int,bA x6 4=0->sa+sp=sa+2*(1+bA x4 40):=λsa h=>by rw[if_pos h]at hsp;omega
 have O:∀sa:Int,¬bA x6 4=0->sa+sp=sa:=λsa h=>by rw[if_neg h]at hsp;omega
 by_cases h:2*(bA x3 41-30)+(bA x5 9-4)<2*(bA x3 41-30+(1+bA x4 40))-(bA x5 9-4)
 · exact⟨_,_,_,_,_,_,_,⟨by omega,by omega,by omega,by omega,by omega,by omega,by omega,by omega,by omega,by omega,by omega,by omega,by omega,by omega⟩,
    key true _ _ _ (qa1 h).symm (λ_=>⟨rfl,rfl⟩) (λh=>by cases h) (z1 _) (O _) U U⟩
 · exact⟨_,_,_,_,_,_,_,⟨by omega,by omega,by omega,by omega,by omega,by omega,by omega,by omega,by omega,by omega,by omega,by omega,by omega,by omega⟩,
    key false _ _ _ (qa2 h).symm (λh=>by cases h) (λ_=>⟨rfl,rfl⟩) (z1 _) (O _) U U⟩
section
variable {a b:Int}
def GC.congr (hb:0<b)(hd:0<d)(e:a*d=c*b)(h:GC pl a b f g):GC pl c d f g:=λW=>by
 have h1:=h W
 rw[Bn (aU hb hd e)]at h1;exact h1
def LV (hd:0<d):-9000000<=dp (eu n d).1 (eu n d).2 (aa 6)/\dp (eu n d).1 (eu n d).2 (aa 6)<=dz (eu n d).1 (eu n d).2 (aa 6)/\dz (eu n d).1 (eu n d).2 (aa 6)<=9000000:=by
 have p1:=iq (n:=n) hd
 obtain⟨O,qr⟩:=yD (n:=n) hd
 obtain⟨_,_⟩:=ED (k:=9) p1 (aZ 6) O qr
 have t5:=lg (a:=(eu n d).1) (b:=(eu n d).2) (t:=aa 6)
 have t6:=kK
 omega
def Wz (p1:1<=pl)(hp:pl<=12)(m:Sz n d)(h:8*d<=n):GC pl n d (aa pl-1) (aa pl):=by
 have hd:=m.2.1
 have c0:=iq (n:=n) hd
 have O:=J1 hd h
 have h1:8*aa 6<=dp (eu n d).1 (eu n d).2 (aa 6):=by
  unfold dp
  refine Int.le_ediv_of_mul_le c0 ?_
  rw[show 8*aa 6*(eu n d).2=8*(eu n d).2*aa 6 by grind]
  exact Int.mul_le_mul_of_nonneg_right O (Int.le_of_lt (aZ 6))
 have h2:=LV (n:=n) hd
 have t6:=kK
 exact vE m (E6 U U p1 hp) (E6 U U p1 hp)
def WA (p1:1<=pl)(hp:pl<=12)(m:Sz n d)(h:n<=-8*d):GC pl n d 0 1:=by
 have hd:=m.2.1
 have c0:=iq (n:=n) hd
 have O:=J2 hd h
 have h1:dz (eu n d).1 (eu n d).2 (aa 6)<=-8*aa 6:=by
  have e:dz (eu n d).1 (eu n d).2 (aa 6)=-dp (-(eu n d).1) (eu n d).2 (aa 6):=by rw[j9 c0];omega
  rw[e]
  have:8*aa 6<=dp (-(eu n d).1) (eu n d).2 (aa 6):=by
   unfold dp
   refine Int.le_ediv_of_mul_le c0 ?_
   rw[show 8*aa 6*(eu n d).2=8*(eu n d).2*aa 6 by grind]
   exact Int.mul_le_mul_of_nonneg_right U (Int.le_of_lt (aZ 6))
  omega
 have h2:=LV (n:=n) hd
 have t6:=kK
 exact vE m (E8 U U p1 hp) (E8 U U p1 hp)
def OA (p1:1<=pl)(hp:pl<=12)(m:Sz 0 d):GC pl 0 d ((10^pl/2:Nat):Int) ((10^pl/2:Nat):Int):=by
 have hd:=m.2.1
 obtain⟨O,qr⟩:=uZ p1
 have c2:eu 0 d=(0,d):=by unfold eu;rw[if_pos U,if_pos U]
 have z:dp 0 d (aa 6)=0/\dz 0 d (aa 6)=0:=by
  unfold dp dz
  rw[Int.zero_mul,Int.zero_emod,if_pos Z,Int.zero_ediv]
  exact⟨rfl,rfl⟩
 have h:=S7 (a:=0) Z p1 hp
 rw[O,qr]at h
 refine vE m (y:=((10^pl/2:Nat):Int)) (x:=((10^pl/2:Nat):Int)) ?_ ?_
 · rw[c2];simp only;rw[z.1];exact h
 · rw[c2];simp only;rw[z.2];exact h
def ShT (pl:Nat)(n d f c:Int):Prop:=Sh pl n d f c/\GC pl n d f c
def ShT.congr (hb:0<b)(hd:0<d)(e:a*d=c*b)(h:ShT pl a b f g):ShT pl c d f g:=⟨h.1.congr hb hd e,h.2.congr hb hd e⟩
def Fj :dp (K:Int) ((2*e:Nat):Int) (aa 6)=((K*500000/e:Nat):Int):=by
 unfold dp
 rw[kK,show(K:Int)*1000000=((2*(K*500000):Nat):Int)by omega,<-Int.natCast_ediv,Nat.mul_div_mul_left _ _ dc]
def OB (he:0<e):dz (K:Int) ((2*e:Nat):Int) (aa 6)=(((K*500000+(e-1))/e:Nat):Int):=by
 have h1:=Fj (K:=K) (e:=e)
 unfold dp at h1
 unfold dz
 rw[h1,Sq he,kK,show(K:Int)*1000000=((2*(K*500000):Nat):Int)by omega,<-Int.natCast_emod,Nat.mul_mod_mul_left]
 by_cases h:K*500000%e=0
 · rw[if_pos h,if_pos U]
 · rw[if_neg h,if_neg U];rfl
def OC {dn up:Nat}(h1:11<=e)(h2:e<=20)(k1:1<=K)(k2:K<16*e)(p1:1<=pl)(p3:pl<=3)(t1:GH dn=true)(t2:GH up=true)(t3:Yy dn up)(hd0:0<dn)(hle:dn<=up)(hup:up<8000000)(e1:dp (K:Int) ((2*e:Nat):Int) (aa 6)=(dn:Int))(e2:dz (K:Int) ((2*e:Nat):Int) (aa 6)=(up:Int)):∃f c,ShT pl (K:Int) ((2*e:Nat):Int) f c/\ShT pl (-(K:Int)) ((2*e:Nat):Int) (aa pl-c) (aa pl-f):=by
 obtain⟨f,O,a,a1,a2⟩:=Lj hd0 U t1 pl p1 p3
 obtain⟨qr,c,b,b1,b2⟩:=Lj U hup t2 pl p1 p3
 have W:f<=c:=by
  rcases t3 with e0|t3
  · rw[<-e0]at b
    have:=b.1.uniq a.1
    have:=a.le
    omega
  · exact Tu hd0 U t3 p1 p3 a b
 have m:Sz (K:Int) ((2*e:Nat):Int):=⟨by omega,by omega,by omega⟩
 have m':Sz (-(K:Int)) ((2*e:Nat):Int):=⟨by omega,by omega,by omega⟩
 have c1:eu (K:Int) ((2*e:Nat):Int)=((K:Int),((2*e:Nat):Int)):=by
  unfold eu;rw[if_pos U,if_pos U]
 have c2:eu (-(K:Int)) ((2*e:Nat):Int)=(-(K:Int),((2*e:Nat):Int)):=by
  unfold eu;rw[if_pos U,if_pos U]
 have hT:((10^pl:Nat):Int)=aa pl:=rfl
 have qn:=a.2.2.1
 have b4:=b.2.2.2
 refine⟨f,c,⟨⟨qr,O,?_,?_,by omega,by omega,by omega⟩,vE m (y:=O) (x:=qr) ?_ ?_⟩,⟨aa pl-O,aa pl-qr,?_,?_,by omega,by omega,by omega⟩,vE m' (y:=aa pl-qr) (x:=aa pl-O) ?_ ?_⟩
 · rw[c1];simp only;rw[e1];exact a.nmc hd0 U
 · rw[c1];simp only;rw[e2];exact b.nmc U hup
 · rw[c1];simp only;rw[e1];exact a1
 · rw[c1];simp only;rw[e2];exact b1
 · rw[c2];simp only;rw[j9 U,e2];exact b.nmn U hup
 · rw[c2];simp only;rw[pB U,e1];exact a.nmn hd0 U
 · rw[c2];simp only;rw[j9 U,e2];exact b2
 · rw[c2];simp only;rw[pB U,e1];exact a2
def TH (h:0<e)(h1:e<=K*500000):0<K*500000/e:=Nat.div_pos h1 h
def TI {a b:Nat}(he:0<e)(h:a+(e-1)<b*e):(a+(e-1))/e<b:=(Nat.div_lt_iff_lt_mul he).2 h
def Fl (h1:11<=e)(h2:e<=20)(k1:1<=K)(k2:K<16*e)(p1:1<=pl)(p3:pl<=3):∃f c,ShT pl (K:Int) ((2*e:Nat):Int) f c/\ShT pl (-(K:Int)) ((2*e:Nat):Int) (aa pl-c) (aa pl-f):=by
 obtain⟨t1,t2⟩:=Tt e h1 h2 K k1 k2
 have t3:=TF e h1 h2 K k1 k2
 exact OC h1 h2 k1 k2 p1 p3 t1 t2 t3 (TH U U) (Nat.div_le_div_right (Nat.le_add_right _ _)) (TI U U) Fj (OB U)
def OD {K:Int}(h1:11<=e)(h2:e<=20)(hK:-1000000<=K/\K<=1000000)(p1:1<=pl)(p3:pl<=3):∃f c,ShT pl K ((2*e:Nat):Int) f c:=by
 have m:Sz K ((2*e:Nat):Int):=⟨by omega,by omega,by omega⟩
 rcases Int.lt_or_le K (16*e)with x|x
 · rcases Int.lt_or_le (-(16*(e:Int))) K with y|y
   · rcases Int.lt_trichotomy K 0 with z|z|z
     · obtain⟨k,rfl⟩:∃k:Nat,K=-(k:Int):=⟨K.natAbs,by omega⟩
       obtain⟨f,c,_,h⟩:=Fl (K:=k) h1 h2 U U p1 p3
       exact⟨_,_,h⟩
     · subst z
       exact⟨_,_,(pW U p1).1,OA p1 U m⟩
     · obtain⟨k,rfl⟩:∃k:Nat,K=(k:Int):=⟨K.natAbs,by omega⟩
       obtain⟨f,c,h,_⟩:=Fl (K:=k) h1 h2 U U p1 p3
       exact⟨_,_,h⟩
   · exact⟨_,_,E2 U U,WA p1 U m U⟩
 · exact⟨_,_,KJ U U,Wz p1 U m U⟩
def qp {K e:Int}(h1:1<=e)(h2:e<=20)(hK:-40000<=K/\K<=40000)(p1:1<=pl)(p3:pl<=3):∃f c,ShT pl K (2*e) f c:=by
 obtain⟨j,_,_,_⟩:∃j:Nat,1<=j/\j<=20/\11<=e*j/\e*j<=20:=by
  rcases(by omega:e=1\/e=2\/e=3\/e=4\/e=5\/e=6\/e=7\/e=8\/e=9\/e=10\/11<=e)with rfl|rfl|rfl|rfl|rfl|rfl|rfl|rfl|rfl|rfl|h
  · exact⟨20,by decide,by decide,by decide⟩
  · exact⟨10,by decide,by decide,by decide⟩
  · exact⟨6,by decide,by decide,by decide⟩
  · exact⟨5,by decide,by decide,by decide⟩
  · exact⟨4,by decide,by decide,by decide⟩
  · exact⟨3,by decide,by decide,by decide⟩
  · exact⟨2,by decide,by decide,by decide⟩
  · exact⟨2,by decide,by decide,by decide⟩
  · exact⟨2,by decide,by decide,by decide⟩
  · exact⟨2,by decide,by decide,by decide⟩
  · exact⟨1,by decide,by decide,by omega⟩
 obtain⟨g,hg⟩:∃g:Nat,(g:Int)=e*j:=⟨(e*j).toNat,by omega⟩
 have hKj:=jq (a:=K) (b:=(j:Int)) (p:=40000) (q:=20) U U
 obtain⟨f,c,h⟩:=OD (pl:=pl) (K:=K*j) (e:=g) U U U p1 p3
 exact⟨f,c,h.congr U U (by rw[show((2*g:Nat):Int)=2*(g:Int)by omega,hg];grind)⟩
end
def Y5:Fr 1 0 40:=⟨by decide,by decide,by decide,by decide,by decide,by decide⟩
def xf (h:∃f c,ShT pl n d f c):Sh pl n d (sJ pl n d).1 (sJ pl n d).2/\GC pl n d (sJ pl n d).1 (sJ pl n d).2:=by
 obtain⟨f,c,h⟩:=h
 rw[y0 h.1];exact h
section
variable {cells places:Int}
def Fo {ma mb sa sb ea eb la lb ha hb oa ob ga gb:Int}(h:¬(1<=c/\c<=64/\1<=p/\p<=12))(W:World):
 CL 22 #[.agg (kaA ma mb sa sb ea eb la lb ha hb oa ob ga gb),.int .i64 c,.int .i64 p,.func (.func gp) #[] #[],.func (.func gc) #[] #[]] W (aC W λv _=>v=.tuple #[.agg #[S [],S [],S [],S []],.int .i64 150]):=by
 by_cases hp:1<=p/\p<=12
 · rcases Int.lt_or_le c 1 with x|x
   · exact GK (λW=>sq hp.1 hp.2) x
   · exact GL (λW=>sq hp.1 hp.2) U
 · exact GJ (λW=>Bu hp)
def Bv {m s e l h lo up:Int}(t:Y4 m s e l h lo up)(c p:Int)(hg:¬(1<=c/\c<=64/\1<=p/\p<=12)\/(1<=c/\c<=4/\1<=p/\p<=3)):∃q1 q2:R×R,∃e1 e2:Int,
 (∀W,Tb W->CL 7 #[vC 1 0 40 (4*m) (4*s) (2*e) (4*l) (4*h) (2*lo) (2*up),.int .i64 c,.int .i64 p] W (aC W λv _=>v=.tuple #[.agg #[S q1.1.1,S q1.1.2,S q1.2.1,S q1.2.2],.int .i64 e1]))/\
 (∀W,CL 8 #[vC 1 0 40 (4*m) (4*s) (2*e) (4*l) (4*h) (2*lo) (2*up),.int .i64 c,.int .i64 p] W (aC W λv _=>v=.tuple #[.agg #[S q1.1.1,S q1.1.2,S q1.2.1,S q1.2.2],.int .i64 e1]))/\
 (∀W,Tb W->CL 9 #[vC 1 0 40 (4*m) (4*s) (2*e) (4*l) (4*h) (2*lo) (2*up),.int .i64 c,.int .i64 p] W (aC W λv _=>v=.tuple #[.agg #[S q2.1.1,S q2.1.2,S q2.2.1,S q2.2.2],.int .i64 e2]))/\
 (∀W,CL 10 #[vC 1 0 40 (4*m) (4*s) (2*e) (4*l) (4*h) (2*lo) (2*up),.int .i64 c,.int .i64 p] W (aC W λv _=>v=.tuple #[.agg #[S q2.1.1,S q2.1.2,S q2.2.1,S q2.2.2],.int .i64 e2])):=by
 rcases hg with hb|⟨c1,c4,p1,p3⟩
 · refine⟨(([],[]),([],[])),(([],[]),([],[])),150,150,?_,?_,?_,?_⟩
   · exact λW _=>GM (λW=>Fo hb W)
   · exact λW=>xd (λW=>sn (λW=>si U))
   · exact λW _=>GN (λW=>Fo hb W)
   · exact λW=>xe (λW=>sn (λW=>si U))
 · obtain⟨pl,rfl⟩:∃pl:Nat,p=(pl:Int):=⟨p.toNat,by omega⟩
   obtain⟨n,rfl⟩:∃n:Nat,c=(n:Int):=⟨c.toNat,by omega⟩
   obtain⟨dq,hdq⟩:∃dq:Int,dq*(n:Int)=12/\1<=dq/\dq<=12:=by
    rcases(by omega:n=1\/n=2\/n=3\/n=4)with rfl|rfl|rfl|rfl
    · exact⟨12,by decide,by decide,by decide⟩
    · exact⟨6,by decide,by decide,by decide⟩
    · exact⟨4,by decide,by decide,by decide⟩
    · exact⟨3,by decide,by decide,by decide⟩
   have Ad:=t.m1;have Af:=t.m2;have Ap:=t.s1;have Aq:=t.s2;have As:=t.e1;have Ao:=t.e2;have Ar:=t.l1;have Am:=t.l2;have th:=t.h1;have Av:=t.h2;have o1:=t.o1;have o2:=t.o2;have o3:=t.o3
   have tst:GY (4*m) (4*s) (2*e) (4*l) (4*h) (2*lo) (2*up):=⟨by omega,by omega,by omega,by omega,by omega⟩
   obtain⟨P,hP⟩:∃P:Int->Prop,P=λX=>X%4=0/\-2000<=X/\X<=2000:=⟨_,rfl⟩
   have q:∀X,X%4=0/\-2000<=X/\X<=2000->P X:=λX h=>by rw[hP];exact h
   have q':∀X,P X->X%4=0/\-2000<=X/\X<=2000:=λX h=>by rw[hP]at h;exact h
   have hs:∀X,P X->∃f c,ShT pl (X-4*m) (4*s) f c:=λX hX=>by
    have:=q' X hX
    obtain⟨f,c,k⟩:=qp (pl:=pl) (K:=(X-4*m)/2) (e:=s) U U U U U
    exact⟨f,c,k.congr U U (by rw[show X-4*m=2*((X-4*m)/2)by omega];rw[show 2*((X-4*m)/2)/2=(X-4*m)/2 by omega];grind)⟩
   have hu:∀X,P X\/X=lo+up->∃f c,ShT pl (2*up-X) (2*e) f c:=λX hX=>by
    refine qp U U ?_ U U
    rcases hX with x|x
    · have:=q' X x;omega
    · omega
   have hl:∀X,P X\/X=lo+up->∃f c,ShT pl (2*lo-X) (2*e) f c:=λX hX=>by
    refine qp U U ?_ U U
    rcases hX with x|x
    · have:=q' X x;omega
    · omega
   obtain⟨sd,hsd⟩:∃sd,sd=L3 pl (4*m) (4*s) (2*e) (2*lo) (2*up) (lo+up):=⟨_,rfl⟩
   have pb:∀X,P X->Pb X:=λX h=>by have:=q' X h;unfold Pb;omega
   have qn:Bm pl sd P 1 0 40 (4*m) (4*s) (2*e) (4*l) (4*h) (2*lo) (2*up):=by
    rw[hsd]
    exact⟨Y5,tst,pb,λX h=>(xf (hs X h)).1,λX h=>(xf (hu X h)).1,λX h=>(xf (hl X h)).1,by show 2*(lo+up)=_;omega,Dq,by omega,by omega⟩
   have qr:Dj pl sd P 1 0 40 (4*m) (4*s) (2*e) (4*l) (4*h) (2*lo) (2*up):=by
    rw[hsd]
    exact⟨Y5,tst,pb,λX h=>(xf (hs X h)).2,λX h=>(xf (hu X h)).2,λX h=>(xf (hl X h)).2,by show 2*(lo+up)=_;omega,Dq,by omega,by omega⟩
   obtain⟨E,hE⟩:∃E:Nat->Int,E=λk=>4*m+4*(s*(dq*((min k n:Nat):Int)-6)):=⟨_,rfl⟩
   have A1:∀k:Nat,-6<=dq*((min k n:Nat):Int)-6/\dq*((min k n:Nat):Int)-6<=6:=λk=>by
    have a1:=Int.mul_nonneg (show 0<=dq by omega) (show(0:Int)<=((min k n:Nat):Int)by omega)
    have a2:=Int.mul_le_mul_of_nonneg_left (show((min k n:Nat):Int)<=(n:Int)by omega) (show 0<=dq by omega)
    omega
   have EP:∀k,P (E k):=λk=>by
    have a:=A1 k
    have b:=jq (a:=s) (b:=dq*((min k n:Nat):Int)-6) (p:=20) (q:=6) U U
    refine q _ ?_
    rw[hE];dsimp only;omega
   have EE:∀k,k<=n->E k*(n:Int)=4*m*(n:Int)+4*s*(12*(k:Int)-6*(n:Int)):=λk _=>by
    rw[hE];dsimp only
    rw[show min k n=k by omega,<-hdq.1];grind
   have pL:P (4*l):=q _ U
   have pH:P (4*h):=q _ U
   obtain⟨_,_,A2⟩:=qp (pl:=pl) (K:=-12) (e:=1) dc dc dc U U
   obtain⟨_,_,Ab⟩:=qp (pl:=pl) (K:=12) (e:=1) dc dc dc U U
   have z1:=A2.congr (c:=-6) (d:=1) dc dc dc
   have O:=Ab.congr (c:=6) (d:=1) dc dc dc
   exact⟨(qR _ _,qR _ _),(qR _ _,qR _ _),0,0,λW hW=>qn.consumer (n:=n) U U z1.1 O.1 EE EP pL pH hW,λW=>qr.consumer (n:=n) U U ⟨z1.2,z1.1.bd⟩ ⟨O.2,O.1.bd⟩ EE EP pL pH W,
    λW hW=>qn.producer (n:=n) U U z1.1 O.1 EE EP pL pH hW,λW=>qr.producer (n:=n) U U ⟨z1.2,z1.1.bd⟩ ⟨O.2,O.1.bd⟩ EE EP pL pH W⟩
def iy (hx0:In64 x0)(hx1:In64 x1)(hx2:In64 x2)(hx3:In64 x3)(hx4:In64 x4)(hx5:In64 x5)(hx6:In64 x6)(hc:In64 cells)(hp:In64 places)(ht:Tb w):
 CL 3 #[.agg #[.int .i64 x0,.int .i64 x1,.int .i64 x2,.int .i64 x3,.int .i64 x4,.int .i64 x5,.int .i64 x6],.int .i64 cells,.int .i64 places] w (aC w λv _=>v=.bool true):=by
 obtain⟨m,s,e,l,h,lo,up,t,hM⟩:=TG hx0 hx1 hx2 hx3 hx4 hx5 hx6
 have A1:vC 1 0 40 (4*m) (4*s) (2*e) (4*l) (4*h) (2*lo) (2*up)=.agg (kaA m 10 s 10 e 20 l 10 h 10 lo 20 up 20):=
  Lc dc dc U U U U U U U
 have hM':∀W,Tb W->CL 5 #[.agg #[.int .i64 x0,.int .i64 x1,.int .i64 x2,.int .i64 x3,.int .i64 x4,.int .i64 x5,.int .i64 x6]] W (aC W λv _=>v=vC 1 0 40 (4*m) (4*s) (2*e) (4*l) (4*h) (2*lo) (2*up)):=λW _=>by rw[A1];exact hM W
 have b4:=fQ cells 4 dc
 have b3:=fQ places 3 dc
 obtain⟨c,hcT,hcF⟩:∃c:Int,(4<cells/\cells<=64->1+bA cells 4=c)/\(¬(4<cells/\cells<=64)->cells=c):=by
  by_cases x:4<cells/\cells<=64
  · exact⟨_,λ_=>rfl,λy=>absurd x y⟩
  · exact⟨_,λy=>absurd y x,λ_=>rfl⟩
 obtain⟨p,hpT,hpF⟩:∃p:Int,(3<places/\places<=12->1+bA places 3=p)/\(¬(3<places/\places<=12)->places=p):=by
  by_cases x:3<places/\places<=12
  · exact⟨_,λ_=>rfl,λy=>absurd x y⟩
  · exact⟨_,λy=>absurd y x,λ_=>rfl⟩
 unfold In64 at hc hp
 have gc:¬(1<=c/\c<=64)\/(1<=c/\c<=4):=J
 have gp:¬(1<=p/\p<=12)\/(1<=p/\p<=3):=J
 have b5:=fQ p 3 dc
 have Ab:=fQ c 4 dc
 obtain⟨_,_,_,_,a1,a2,qn,O⟩:=Bv t c (1+bA p 3) U
 obtain⟨_,_,_,_,d1,d2,qr,A2⟩:=Bv t (1+bA c 4) p U
 exact GI L7 L7 L7 L7 hcT hcF hpT hpF Tg hM' a1 (λW _=>a2 W) qn (λW _=>O W) d1 (λW _=>d2 W) qr (λW _=>A2 W) ht
end
end
end Go.Proofs.YthpinljhfnodeaaGreatDoor
