/- Part of the proof of a statement about risks. -/
import Derived.Test.YthpinljhfnodeaaGreatDoorRj3ToRj7
set_option linter.all false
namespace Go.Proofs.YthpinljhfnodeaaGreatDoor
variable {x y T a c d m1 m2 c1 c2 e lb n f ma mb sa sb ea eb la ha oa ob ga gb ra rb ua ub m ka kb za k:Int}{bs ps:List Nat}{cp lo pl b1 b2 N M:Nat}{p q:Prop}{w A W W' w' B:World}
section
set_option maxRecDepth 100000
open Go Go.Eng Go.RowKit Proofs.Tryz
attribute [local irreducible] wpListIn Code.wpIn Oper.wpIn Exit.then Exit.inBlock Exit.noGoto
set_option maxHeartbeats 40000000
def g6 :bF w w:=aa2 _
def PI (hT:0<T):aG (x*T) (y*T)=aG x y:=
 uM ⟨λh=>Int.lt_of_mul_lt_mul_right h (Int.le_of_lt hT),λh=>Int.mul_lt_mul_of_pos_right h hT⟩ ⟨λh=>Int.eq_of_mul_eq_mul_right U h,λh=>by rw[h]⟩
def YZ (a b c d:Int)(i:Nat):Int:=if i<=1 then a else if i=2 then b else if i=3 then max b c else d
def C5 {z:Int}(h:z=max x y):qR z T=sB (decide (0<aG y x)) (qR x T) (qR y T):=by
 by_cases k:x<y
 · rw[ri (decide_eq_true (ip k)),h,show max x y=y by omega]
 · rw[rj (decide_eq_false (ja k)),h,show max x y=x by omega]
def KW {A:Option Addr}{b:Int}(hr:Rw w lo A (eX [qR a T,qR b T,qR c T,qR d T]))(h1:a<=b)(h2:a<=c)(h3:b<=d)(h4:c<=d)(qa:Q9 a T)(qb:Q9 b T)(qc:Q9 c T)(qd:Q9 d T)(ht:Tb w):
 CL 149 #[.slice A 4 cp] w (aC w λv _=>v=IV a T d T):=by
 have hT:=qa.2.1
 have A1:Q9 (max b c) T:=by rcases(by omega:max b c=b\/max b c=c)with e|e <;>rw[e] <;>assumption
 have key:∀i,1<=i->i<4->(i=1\/i=2\/i=3):=λi h _=>by omega
 refine KV (ka:=a) (kb:=T) (ua:=d) (ub:=T) (λW e=>?_) (λW e=>?_)
 · refine Bb (l:=[qR a T,qR b T,qR c T,qR d T]) (M:=λ_=>qR a T) (k:=λi=>aG (if i=1 then b else if i=2 then c else d) a) (hr.ext e) Z dc dc Z (λi qr O=>?_) (λi qr O W' e'=>?_)
   · rcases key i qr O with rfl|rfl|rfl <;>exact(rj (qa2 (by rw[dy];simp;omega))).symm
   · have h:=λx (q:Q9 x T)=>pF q qa ((ht.ext e).ext e')
     simp only[PI hT]at h
     rcases key i qr O with rfl|rfl|rfl
     · exact h b qb
     · exact h c qc
     · exact h d qd
 · refine Bc (l:=[qR a T,qR b T,qR c T,qR d T]) (M:=λi=>qR (YZ a b c d i) T) (k:=λi=>aG (if i=1 then b else if i=2 then c else d) (YZ a b c d i)) (hr.ext e) Z dc dc Z (λi qr O=>?_) (λi qr O W' e'=>?_)
   · rcases key i qr O with rfl|rfl|rfl
     · exact C5 (by show b=max a b;omega)
     · exact C5 (by show max b c=max b c;rfl)
     · exact C5 (by show d=max (max b c) d;omega)
   · have h:=λx y (q:Q9 x T) (qn:Q9 y T)=>pF q qn ((ht.ext e).ext e')
     simp only[PI hT]at h
     rcases key i qr O with rfl|rfl|rfl
     · exact h b a qb qa
     · exact h c b qc qb
     · exact h d (max b c) qd A1
def Od (qm1:Q9 m1 (aa pl))(qm2:Q9 m2 (aa pl))(qc1:Q9 c1 (aa pl))(qc2:Q9 c2 (aa pl))(p11:Q9 (m1*c1) (aa pl*aa pl))(p12:Q9 (m1*c2) (aa pl*aa pl))(p21:Q9 (m2*c1) (aa pl*aa pl))(p22:Q9 (m2*c2) (aa pl*aa pl))(l1:m1*c1<=m1*c2)(l2:m1*c1<=m2*c1)(l3:m1*c2<=m2*c2)(l4:m2*c1<=m2*c2)(ht:Tb w):
 CL 101 #[.func (.func 98) #[] #[],IV m1 (aa pl) m2 (aa pl),IV c1 (aa pl) c2 (aa pl)] w (aC w λv w'=>v=IV (m1*c1) (aa pl*aa pl) (m2*c2) (aa pl*aa pl)):=by
 refine aE func101 Z (I ?_);refine bx (λAp ZR qr=>?_);have Ab:=ZR.2;refine bx (λZ6 wr Ad=>?_);have⟨qr,Ab⟩:=bD wr.2 qr Ab;refine al ap (λAv aB F3=>?_);have⟨qr,Ad,Ab⟩:=bC aB.2 qr Ad Ab;refine I ?_;refine kJ g8 23 [7,8,9,10,11,12,13,14,15,16,17,18,19,20,21,22,23,24,25,26,27,28,29] [some (7,.func (.func 98) #[] #[]),some (8,pT w.heap.size),some (9,QV m1 (aa pl)),some (10,pT Ap.heap.size),some (11,QV c1 (aa pl)),some (12,QV (m1*c1) (aa pl*aa pl)),some (13,.func (.func 98) #[] #[]),some (14,pT w.heap.size),some (15,QV m1 (aa pl)),some (16,.pointer (some ⟨Ap.heap.size,2,none⟩)),some (17,QV c2 (aa pl)),some (18,QV (m1*c2) (aa pl*aa pl)),some (19,.func (.func 98) #[] #[]),some (20,.pointer (some ⟨w.heap.size,2,none⟩)),some (21,QV m2 (aa pl)),some (22,pT Ap.heap.size),some (23,QV c1 (aa pl)),some (24,QV (m2*c1) (aa pl*aa pl)),some (25,.func (.func 98) #[] #[]),some (26,.pointer (some ⟨w.heap.size,2,none⟩)),some (27,QV m2 (aa pl)),some (28,.pointer (some ⟨Ap.heap.size,2,none⟩)),some (29,QV c2 (aa pl))] (XE Av) (aa8 Av) GS GS GS ?_ ?_;refine⟨λT3 _ _ Zw _ ab _ _ _=>?_,?_⟩;obtain⟨T3,rfl⟩:=aT Zw;refine I ?_;exact dX Z ab g6;refine⟨λNe _ _ Zm _ Zr _ _ _=>?_,?_⟩;obtain⟨Ne,rfl⟩:=aT Zm;refine I ?_
 exact dX Z Zr g6;refine⟨λZK _ _ Z1 Zy E4 _ _ _=>?_,?_⟩;obtain⟨ZK,rfl⟩:=aT Z1;have an:=ba (Zy 1 _ _ Z Z);have c9:=(be E4 qr);refine I ?_;exact dX Z E4 g6;refine⟨λZJ _ _ Zx _ F5 _ _ _=>?_,?_⟩;obtain⟨ZJ,rfl⟩:=aT Zx;refine I ?_;exact dX Z F5 g6;refine⟨λN1 _ _ Zn Kp Aw _ _ _=>?_,?_⟩;obtain⟨N1,rfl⟩:=aT Zn;have bT:=ba (Kp 3 _ _ Z Z);have bd:=(be Aw Ad);refine I ?_;exact dX Z Aw g6;refine⟨λaL _ _ Z8 As E0 _ _ _=>?_,?_⟩;obtain⟨aL,rfl⟩:=aT Z8;have a6:=ba (As 0 _ _ Z Z);have Z2:=ba (As 2 _ _ Z Z);have Zo:=ba (As 4 _ _ Z Z);have ny:=xt Ab E0;refine cl qI (pX qm1 qc1 (ht.ext ny)) ?_ (ai a6 (ai Z2 (ai Zo Z)));rintro _ _ W0 rfl;refine I ?_;exact dX Z E0 W0.2;refine⟨λZ5 _ _ Wb _ ZE _ _ _=>?_,?_⟩;obtain⟨Z5,rfl⟩:=aT Wb;refine I ?_;exact dX Z ZE g6;refine⟨λZD _ _ Jx _ F6 _ _ _=>?_,?_⟩;obtain⟨ZD,rfl⟩:=aT Jx;refine I ?_;exact dX Z F6 g6;refine⟨λa7 _ _ Z7 a5 E9 _ _ _=>?_,?_⟩;obtain⟨a7,rfl⟩:=aT Z7;have b7:=ba (a5 7 _ _ Z Z);have bH:=(be E9 qr);refine I ?_;exact dX Z E9 g6;refine⟨λK2 _ _ Zq _ W3 _ _ _=>?_,?_⟩;obtain⟨K2,rfl⟩:=aT Zq;refine I ?_;exact dX Z W3 g6
 refine⟨λZz _ _ Zk a4 EW _ _ _=>?_,?_⟩;obtain⟨Zz,rfl⟩:=aT Zk;have bc:=ba (a4 9 _ _ Z Z);have ad:=(be EW Ad);refine I ?_;exact dX Z EW g6;refine⟨λod _ _ Wa Ar E7 _ _ _=>?_,?_⟩;obtain⟨od,rfl⟩:=aT Wa;have G4:=ba (Ar 6 _ _ Z Z);have ZL:=ba (Ar 8 _ _ Z Z);have a0:=ba (Ar 10 _ _ Z Z);have T4:=xt Ab E7;refine cl qI (pX qm1 qc2 (ht.ext T4)) ?_ (ai G4 (ai ZL (ai a0 Z)));rintro _ _ a9 rfl;refine I ?_;exact dX Z E7 a9.2;refine⟨λZQ _ _ No _ W1 _ _ _=>?_,?_⟩;obtain⟨ZQ,rfl⟩:=aT No;refine I ?_;exact dX Z W1 g6;refine⟨λR1 _ _ ZY _ ZW _ _ _=>?_,?_⟩;obtain⟨R1,rfl⟩:=aT ZY;refine I ?_;exact dX Z ZW g6;refine⟨λIx _ _ L2 ZZ EP _ _ _=>?_,?_⟩;obtain⟨Ix,rfl⟩:=aT L2;have bq:=ba (ZZ 13 _ _ Z Z);have b9:=(be EP qr);refine I ?_;exact dX Z EP g6;refine⟨λZu _ _ TT _ S1 _ _ _=>?_,?_⟩;obtain⟨Zu,rfl⟩:=aT TT;refine I ?_;exact dX Z S1 g6;refine⟨λZ9 _ _ at8 X2 Ax _ _ _=>?_,?_⟩;obtain⟨Z9,rfl⟩:=aT at8;have bm:=ba (X2 15 _ _ Z Z);have bL:=(be Ax Ad);refine I ?_;exact dX Z Ax g6;refine⟨λaH _ _ ZS Aq E1 _ _ _=>?_,?_⟩;obtain⟨aH,rfl⟩:=aT ZS;have ZO:=ba (Aq 12 _ _ Z Z);have F2:=ba (Aq 14 _ _ Z Z)
 have Zt:=ba (Aq 16 _ _ Z Z);have ZT:=xt Ab E1;refine cl qI (pX qm2 qc1 (ht.ext ZT)) ?_ (ai ZO (ai F2 (ai Zt Z)));rintro _ _ Z0 rfl;refine I ?_;exact dX Z E1 Z0.2;refine⟨λZv _ _ ZM _ ZU _ _ _=>?_,?_⟩;obtain⟨Zv,rfl⟩:=aT ZM;refine I ?_;exact dX Z ZU g6;refine⟨λa3 _ _ ZV _ ZC _ _ _=>?_,?_⟩;obtain⟨a3,rfl⟩:=aT ZV;refine I ?_;exact dX Z ZC g6;refine⟨λZA _ _ Zp ZN EE _ _ _=>?_,?_⟩;obtain⟨ZA,rfl⟩:=aT Zp;have bn:=ba (ZN 19 _ _ Z Z);have b6:=(be EE qr);refine I ?_;exact dX Z EE g6;refine⟨λZF _ _ ZH _ ZX _ _ _=>?_,?_⟩;obtain⟨ZF,rfl⟩:=aT ZH;refine I ?_;exact dX Z ZX g6;refine⟨λF1 _ _ F4 F7 Ay _ _ _=>?_,?_⟩;obtain⟨F1,rfl⟩:=aT F4;have c8:=ba (F7 21 _ _ Z Z);have bf:=(be Ay Ad);refine I ?_;exact dX Z Ay g6;exact trivial;intro ZB _ _ _ Zs Af Ao;obtain⟨ZB,rfl⟩:=aT Zs;have A2:=(be Ao qr);have qn:=(be Ao Ad);have A1:=(be Ao F3);have bp:=bt A1;have O:=xt Ab Ao;have Zl:=ba (Af 18 _ _ Z Z);have F8:=ba (Af 20 _ _ Z Z);have a8:=ba (Af 22 _ _ Z Z);refine cl qI (pX qm2 qc2 (ht.ext O)) ?_ (ai Zl (ai F8 (ai a8 Z)));rintro _ _ Z3 rfl;have⟨A2,qn,A1,O⟩:=bW Z3.2 A2 qn A1 O;have ZI:=ba (Af 5 _ _ Z Z)
 have T2:=ba (Af 11 _ _ Z Z);have G3:=ba (Af 17 _ _ Z Z);refine ac (je (vs:=[(0,QV (m1*c1) (aa pl*aa pl)),(1,QV (m1*c2) (aa pl*aa pl)),(2,QV (m2*c1) (aa pl*aa pl)),(3,QV (m2*c2) (aa pl*aa pl))]) (cells:=#[S ((qR (m1*c1) (aa pl*aa pl)).1),S ((qR (m1*c1) (aa pl*aa pl)).2),S ((qR (m1*c2) (aa pl*aa pl)).1),S ((qR (m1*c2) (aa pl*aa pl)).2),S ((qR (m2*c1) (aa pl*aa pl)).1),S ((qR (m2*c1) (aa pl*aa pl)).2),S ((qR (m2*c2) (aa pl*aa pl)).1),S ((qR (m2*c2) (aa pl*aa pl)).2)]) kS aQ (aK ZI (aK T2 (aK G3 (aK Z Z)))) dc dc GS (λ_ ZP Am=>?_));have⟨A2,qn,A1,O⟩:=bW ZP.2 A2 qn A1 O;refine cl Qw (KW (aa4 (jV (m:=4) Am Z)) l1 l2 l3 l4 p11 p12 p21 p22 (ht.ext O)) ?_;rintro _ _ W2 rfl;have⟨A2,qn,A1,Am,O⟩:=eE W2.2 A2 qn A1 Am O;refine SA A1 (λ_ Ek ZG=>?_);have⟨A2,qn,Am⟩:=kt Ek A2 qn Am;have O:=bB Ek O;refine I ?_;refine aI (v:=IV (m1*c1) (aa pl*aa pl) (m2*c2) (aa pl*aa pl)) (cF  rfl ?_) O Z;refine ag (t:=6) (cs:=[S ((qR (m1*c1) (aa pl*aa pl)).1),S ((qR (m1*c1) (aa pl*aa pl)).2),S ((qR (m2*c2) (aa pl*aa pl)).1),S ((qR (m2*c2) (aa pl*aa pl)).2)]) (b:=Z6.heap.size) (o:=0) aJ Z ay ?_ ?_;exact Z;exact aa1 ZG (i:=0) Z
def Oe (qm1:Q9 m1 (aa pl))(qm2:Q9 m2 (aa pl))(qc1:Q9 c1 (aa pl))(qc2:Q9 c2 (aa pl))(p11:Q9 (m1*c1) (aa pl*aa pl))(p12:Q9 (m1*c2) (aa pl*aa pl))(p21:Q9 (m2*c1) (aa pl*aa pl))(p22:Q9 (m2*c2) (aa pl*aa pl))(l1:m1*c1<=m1*c2)(l2:m1*c1<=m2*c1)(l3:m1*c2<=m2*c2)(l4:m2*c1<=m2*c2)(hb1:au w b1 33 #[S ((qR m1 (aa pl)).1),S ((qR m1 (aa pl)).2),S ((qR m2 (aa pl)).1),S ((qR m2 (aa pl)).2)])(hb2:au w b2 33 #[S ((qR c1 (aa pl)).1),S ((qR c1 (aa pl)).2),S ((qR c2 (aa pl)).1),S ((qR c2 (aa pl)).2)])(ht:Tb w):
 CL 100 #[pT b1,pT b2] w (aC w λv w'=>v=IV (m1*c1) (aa pl*aa pl) (m2*c2) (aa pl*aa pl)):=by
 have Af:=bt hb1;have Ad:=bt hb2;refine aE func100 Z (I ?_);refine al ap (λ_ A1 qr=>?_);have⟨hb1,hb2⟩:=jk A1.2 hb1 hb2;have O:=A1.2;refine I ?_;(try refine ac (ar (cs:=[S ((qR m1 (aa pl)).1),S ((qR m1 (aa pl)).2),S ((qR m2 (aa pl)).1),S ((qR m2 (aa pl)).2)]) (b:=b1) (o:=0) aJ Z ay Z (aa1 hb1 (i:=0) Z) ?_));(try refine ac (ar (cs:=[S ((qR c1 (aa pl)).1),S ((qR c1 (aa pl)).2),S ((qR c2 (aa pl)).1),S ((qR c2 (aa pl)).2)]) (b:=b2) (o:=0) aJ Z ay Z (aa1 hb2 (i:=0) Z) ?_));refine cl Qu (Od qm1 qm2 qc1 qc2 p11 p12 p21 p22 l1 l2 l3 l4 (ht.ext O)) ?_;rintro _ _ Ab rfl;have⟨hb1,hb2,qr,O⟩:=bW Ab.2 hb1 hb2 qr O;refine SA qr (λ_ qn A2=>?_);have⟨hb1,hb2⟩:=eR qn hb1 hb2;have O:=bB qn O;refine I ?_;refine aI (v:=IV (m1*c1) (aa pl*aa pl) (m2*c2) (aa pl*aa pl)) (cF  rfl ?_) O Z;refine ag (t:=2) (cs:=[S ((qR (m1*c1) (aa pl*aa pl)).1),S ((qR (m1*c1) (aa pl*aa pl)).2),S ((qR (m2*c2) (aa pl*aa pl)).1),S ((qR (m2*c2) (aa pl*aa pl)).2)]) (b:=w.heap.size) (o:=0) aJ Z ay ?_ ?_;exact Z;exact aa1 A2 (i:=0) Z
def Gy (qm1:Q9 m1 (aa pl))(qm2:Q9 m2 (aa pl))(qc1:Q9 c1 (aa pl))(qc2:Q9 c2 (aa pl))(p11:Q9 (m1*c1) (aa pl*aa pl))(p12:Q9 (m1*c2) (aa pl*aa pl))(p21:Q9 (m2*c1) (aa pl*aa pl))(p22:Q9 (m2*c2) (aa pl*aa pl))(l1:m1*c1<=m1*c2)(l2:m1*c1<=m2*c1)(l3:m1*c2<=m2*c2)(l4:m2*c1<=m2*c2)(hx:y7 (qR m1 (aa pl),qR m2 (aa pl)))(hy:y7 (qR c1 (aa pl),qR c2 (aa pl)))(ht:Tb w):
 CL 52 #[IV m1 (aa pl) m2 (aa pl),IV c1 (aa pl) c2 (aa pl)] w (aC w λv w'=>v=.tuple #[IV (m1*c1) (aa pl*aa pl) (m2*c2) (aa pl*aa pl),.int .i64 0]):=by
 refine aE func52 Z (I ?_);refine bx (λAb Af qr=>?_);have O:=Af.2;refine bx (λAo Ap qn=>?_);have⟨qr,O⟩:=bD Ap.2 qr O;refine al ap (λ_ Ad A1=>?_);have⟨qr,qn,O⟩:=bC Ad.2 qr qn O;refine I ?_;refine ac (cL (vf:=[]) (vc:=[pT w.heap.size,pT Ab.heap.size]) Z Z ?_);(try refine ac (ar (cs:=[S ((qR m1 (aa pl)).1),S ((qR m1 (aa pl)).2),S ((qR m2 (aa pl)).1),S ((qR m2 (aa pl)).2)]) (b:=w.heap.size) (o:=0) aJ Z ay Z (aa1 qr (i:=0) Z) ?_));(try refine ac (ar (cs:=[S ((qR c1 (aa pl)).1),S ((qR c1 (aa pl)).2),S ((qR c2 (aa pl)).1),S ((qR c2 (aa pl)).2)]) (b:=Ab.heap.size) (o:=0) aJ Z ay Z (aa1 qn (i:=0) Z) ?_));refine Ru (λ_ Av _ Am=>?_);have⟨qr,qn,A1,O⟩:=bW Av qr qn A1 O;refine clb BM (hc:=mN (l:=[(qR m1 (aa pl),qR m2 (aa pl)),(qR c1 (aa pl),qR c2 (aa pl))]) (x:=(qR (m1*c1) (aa pl*aa pl),qR (m2*c2) (aa pl*aa pl))) QJ (aa4 Am) Z RW (λz As=>by rcases List.mem_cons.1 As with h|h;exact h▸hx;rw[List.mem_singleton.1 h];exact hy) (λW e=>Oe qm1 qm2 qc1 qc2 p11 p12 p21 p22 l1 l2 l3 l4 (qr.ext e) (qn.ext e) ((ht.ext O).ext e)) (ht.ext O)) (hk:=?_);rintro _ _ Aq rfl;have⟨qr,qn,A1,O⟩:=bW Aq.2 qr qn A1 O;refine I ?_;refine SA A1 (λ_ A2 Ar=>?_);have⟨qr,qn⟩:=eR A2 qr qn;have O:=bB A2 O;refine I ?_
 refine aI (v:=.tuple #[IV (m1*c1) (aa pl*aa pl) (m2*c2) (aa pl*aa pl),.int .i64 0]) (cn (r1:=.cell 4 33) (r2:=.tmp 5) Z ?_ ?_) O Z;refine ag (t:=4) (cs:=[S ((qR (m1*c1) (aa pl*aa pl)).1),S ((qR (m1*c1) (aa pl*aa pl)).2),S ((qR (m2*c2) (aa pl*aa pl)).1),S ((qR (m2*c2) (aa pl*aa pl)).2)]) (b:=Ao.heap.size) (o:=0) aJ Z ay ?_ ?_;exact Z;exact aa1 Ar (i:=0) Z;exact aD (t:=5) Rd _
end
section
open Go Go.Eng Go.RowKit Proofs.Tryz
def PK (P:Program)(gf:Nat)(lb:List Value)(enc:Nat->List Value)(bs:List Nat)(Kq:World->Prop)(M:Nat)(w:World):Prop:=
 ∀ (l:Nat) (q5:Nat->World->Prop) (W:World),Below w.heap.size w W->(∀k,jP W.heap.size (q5 k))->
  (∀k W1,k<M->q5 k W1->Kq W1->YieldAt Fence.wide 7 P l (enc k).toArray W1 λe W'=>e=.returned (.bool true)/\q5 (k+1) W'/\oN bs W1 W'/\Kq W')->
  q5 0 W->Kq W->CallsIn Fence.wide 8 P gf (#[.func (.yield l) #[] #[]]++lb.toArray) W λe W'=>(∃v,e=.returned v)/\q5 M W'
structure w4 (W W':World):Prop where
 size:W.heap.size<=W'.heap.size
 loop:∀(i:Nat) (r:Loop),W.heap[i]?=some (.loop r)->W'.heap[i]?=some (.loop r)
 dfr:∀(i:Nat) (d:Option (List Deferred)),W.heap[i]?=some (.deferred d)->W'.heap[i]?=some (.deferred d)
def se (W:World)(b:Nat):Prop:=(∀r,W.heap[b]?≠some (.loop r))/\∀d,W.heap[b]?≠some (.deferred d)
def se.blk {b:Nat}{t:TypeId}{cs:Array Value}(h:au W b t cs):se W b:=by
 unfold au at h
 exact⟨λr e=>ke1,λd e=>ke1⟩
def w4.of (h:dN bs W W')(hb:∀b∈bs,se W b):w4 W W':=by
 refine⟨h.size,λi r hi=>?_,λi d hi=>?_⟩
 · exact(h.block i (Array.getElem?_eq_some_iff.1 hi).1 (λhm=>(hb i hm).1 r hi)).trans hi
 · exact(h.block i (Array.getElem?_eq_some_iff.1 hi).1 (λhm=>(hb i hm).2 d hi)).trans hi
def uK.keptL {b:Nat}{r:Loop}(h:uK W b r)(k:w4 W W'):uK W' b r:=⟨k.loop _ _ h.1,k.dfr _ _ h.2⟩
def X8 (bs:List Nat)(Kq:World->Prop)(q0:Nat->World->Prop)(k:Nat)(W:World):Exit->Act->World->Prop
 | .normal,_,W'=>w4 W W'/\oN bs W W'/\Kq W'/\q0 k W'
 |_,_,_=>False
def KX {P:Program}{e:Nat->Value}{ds:List Deferred}{Q:Exit->Act->World->Prop}{enc:Nat->List Value}{Kq:World->Prop}{gf:Nat}{lb:List Value}{g:Operand}{assign body:Code}(hg:ev N e g=.func (.func gf) #[] lb.toArray)(eg:Enters P gf)(hit:PK P gf lb enc bs Kq M w)(hKq:jP w.heap.size Kq)(hps:∀i,(enc i).length=ps.length)(q0:Nat->World->Prop)(hI:∀k,jP w.heap.size (q0 k))(h0:q0 0 w)(hq0:Kq w)(A:(Nat->Value)->Nat->(Nat->Value)->World->Prop)(hA:∀k e' W b r r',w.heap.size<=b->W.heap[b]?=some (.loop r)->A e k e' W->A e k e' (W.putObj b (.loop r')))(hassign:∀l k W K,k<M->q0 k W->(∀e' W',bF W W'->A e k e' W'->K (act N e' []) W')->assign.wpIn (Fw (some l)) 7 P (Exit.then K (λ_ _ _=>False)) (act N (jj e ps (enc k)) []) W)(hbody:∀l k e' W,k<M->Kq W->A e k e' W->body.wpIn (Fw (some l)) 7 P (X8 bs Kq q0 (k+1) W) (act N e' []) W)(hstop:∀D W,w.heap.size<=D->q0 M W->oV W D->Q .normal (act N e (⟨.collected D,#[]⟩::ds)) W):
 (Code.rangeFunc g ps.toArray assign body).wpIn (Fw none) 9 P Q (act N e ds) w:=by
 refine wpIn_rangeFunc (F:=Fence.wide) (n:=9) λfn A2=>?_
 obtain⟨R,hR⟩:∃R:LoopState->Option Code->Loop,R=λAo Ab=>{state:=Ao,pending:=Ab,fn,tmps:=(act N e ds).tmps,params:=ps.toArray,assign,body,defers:=w.heap.size}:=⟨_,rfl⟩
 obtain⟨V,hV⟩:∃V,(w.alloc (.deferred (some []))).alloc (.loop (R .ready none))=V:=⟨_,rfl⟩
 have hB:uK V w.heap.size (R .ready none):=by
  refine⟨?_,?_⟩ <;>rw[<-hV]
  · have h:=World.alloc_heap_new (w.alloc (.deferred (some []))) (.loop (R .ready none));rwa [World.size_alloc]at h
  · exact(Below.heap_alloc _ _ _ RW).trans (World.alloc_heap_new w _)
 have Ad:w.heap.size+1<V.heap.size:=by rw[<-hV];simp
 have qn:Below w.heap.size w V:=by rw[<-hV];exact((Below.refl _ w).alloc (qa0 _) _).alloc RW _
 have hI0:q0 0 V:=(hI 0).ext qn h0
 refine⟨w.heap.size+1,[⟨.collected w.heap.size,#[]⟩],V,⟨.fn (.func gf) lb.toArray,#[.func (.yield (w.heap.size+1)) #[] #[]]⟩,V,gf,#[.func (.yield (w.heap.size+1)) #[] #[]]++lb.toArray,V,?_,?_,?_,?_,λ_=>by omega,?_⟩
 · rw[<-hV,hR];exact run_enterLoop_outer _ _ _ _ _
 · have hg':(act N e ds).eval g=.func (.func gf) #[] lb.toArray:=by rw[dI];exact hg
   simp only[resolve,hg'];simp[go_sem]
 · intro Aq _;trivial
 · simp[invoke,go_sem];exact eg _ _
 refine(hit (w.heap.size+1) (λk W=>q0 k W/\uK W w.heap.size (R .ready none)) V qn
  (λk=>((hI k).mono J).and (uK.stab Ad)) ?_ ⟨hI0,hB⟩ (hKq.ext qn hq0)).mono ?_
 ·
  rintro k W hkM ⟨hi,hk⟩ hq
  have hy:=run_yield (P:=P) (args:=(enc k).toArray) hk.1 (by rw[hR];simpa using hps k)
  rw[hR]at hy
  refine⟨fn,_,assign,body,hy,roundIn_of_wpIn A2 ?_⟩
  have hfold:(⟨(ps.toArray.zip (enc k).toArray).foldl (λt (p,v)=>t.setIfInBounds p v) (act N e ds).tmps,[]⟩:Act)=act N (jj e ps (enc k)) []:=by
   have h:=oW N ps (enc k) e
   have h2:act N (jj e ps (enc k)) []=⟨(act N (jj e ps (enc k)) []).tmps,[]⟩:=rfl
   rw[h2,<-h]
   simp only[List.zip_toArray,List.foldl_toArray]
   rfl
  rw[hfold]
  refine hassign (w.heap.size+1) k W _ hkM hi λe' W' hx ha=>?_
  have hk:uK W' w.heap.size (R .ready none):=⟨hx.heap hk.1,hx.heap hk.2⟩
  refine⟨_,run_beginRound hk.1 (by rw[hR]),?_⟩
  have Af:=hk.put {R .ready none with state:=.busy}
  refine wpIn_mono (hbody (w.heap.size+1) k e' _ hkM (hKq.put (ec _ _ _) J (hKq.ext hx hq)) (hA k e' _ _ _ _ J hk.1 ha)) ?_
  have A1:oN bs W W':=⟨hx.size,λ_ h=>h.ext hx⟩
  have Am:∀(j:Option Code) (W3:World),w4 (W'.putObj (w.heap.size+1) (.loop {R .ready none with state:=.busy})) W3->
   uK W3 w.heap.size {R .ready none with state:=.busy}/\(Instr.endRound (w.heap.size+1) j).run P W3=.ok (.bool j.isNone) (W3.putObj (w.heap.size+1) (.loop (R (if j.isNone then .ready else .done) j))):=λj W3 h3=>by
   have h4:=Af.keptL h3
   refine⟨h4,?_⟩
   have qr:=run_endRound (P:=P) j h4.1
   rw[hR]at qr ⊢
   exact qr
  rintro x Ar W3 O
  cases x with
  | normal=>
    obtain⟨h1,Ap,h2,h3⟩:=O
    obtain⟨h4,qr⟩:=Am none W3 h1
    exact⟨_,_,qr,rfl,⟨(hI _).put (ec _ _ _) J h3,h4.put _⟩,A1.trans (((oN.putObj hk.1).trans Ap).trans (oN.putObj h4.1)),hKq.put (ec _ _ _) J h2⟩
  |ret=>exact O.elim
  |exit id=>exact O.elim
  |goto t=>exact O.elim
  |panic c=>exact O.elim
  |outgrown=>exact O.elim
 · rintro x W2 ⟨⟨v,rfl⟩,hi,hk⟩
   have h:=run_endLoop (P:=P) hk.1 (by rw[hR];simp)
   rw[hR]at h
   exact⟨none,_,h,hstop _ _ (qa0 _) ((hI M).put (ec _ _ _) J hi) (hk.put _).2⟩
end
section
set_option maxRecDepth 100000
open Go Go.Eng Go.RowKit Proofs.Tryz
attribute [local irreducible] wpListIn Code.wpIn Oper.wpIn Exit.then Exit.inBlock Exit.noGoto
set_option maxHeartbeats 40000000
def oN.refl (W:World):oN bs W W:=⟨qa0 _,λ_ h=>h⟩
def oN.ofExt (k:bF W W'):oN bs W W':=⟨bz k,λ_ h=>h.ext k⟩
def jP.tb {n:Nat}(h:Tb w)(hn:w.heap.size<=n):jP n Tb:=⟨λk x=>x.ext k,λk hb x=>h.low k (qa8 hn hb) x⟩
def Wq (n:Int)(ts:Array Value)(W:World)(b1 b2 bT:Nat):Prop:=au W b1 3 #[.int .i64 n]/\au W b2 70 #[.func (.func 97) #[] #[pT b1,pT bT]]/\au W bT 27 ts
section
variable {r:Option Nat}{n:Nat}{e:Nat->Value}{ds:List Deferred}{Q:Exit->Act->World->Prop}{K:Act->World->Prop}{d ty:Nat}{pos:String}{af:Array Edge}{g:Option (Nat×Bool)}{x:Operand}
def E3 {R:Value->World->Prop}{f:FuncId}{lb:List Value}{xs:Array Operand}{ats:Array TypeId}{vs:List Value}(hf:Enters prog f)(hx:ev N e x=.func (.func f) #[] lb.toArray)(hv:xs.toList.map (ev N e)=vs)(hc:CL f (vs++lb).toArray w (aC w R))(hk:∀v w',bF w w'->R v w'->K (act N (upd e d v) ds) w'):Oper.wpIn (Fw r) n prog ⟨some d,.call {callee:=.value x,args:=xs,argTypes:=ats},ty,pos,af,g⟩ (act N e ds) w K Q:=Du hf hx hv hc hk
end
def cells_ok {hb:Int}:
 CL 51 #[.agg (kaA ma mb sa sb ea eb la lb ha hb oa ob ga gb),.int .i64 n] w (aC w λv w'=>∃b1 b2 bT,v=.func (.func 99) #[] #[pT b1,pT b2]/\Wq n (kaA ma mb sa sb ea eb la lb ha hb oa ob ga gb) w' b1 b2 bT/\(w.heap.size<=b1/\w.heap.size<=b2/\w.heap.size<=bT)):=by
 refine aE func51 Z (I ?_);refine bx (λA1 Af O=>?_);have qr:=Af.2;refine bx (λAb Ap qn=>?_);have⟨O,qr⟩:=bD Ap.2 O qr;refine ac (bO (v:=.nilFunc) Z ?_);refine I ?_;refine ac (cL (vf:=[]) (vc:=[pT A1.heap.size,pT w.heap.size]) Z Z ?_);refine al Mc (λ_ Ao Ad=>?_);have⟨O,qn,qr⟩:=bC Ao.2 O qn qr;refine SO Ad (λ_ A2 Am=>?_) (hi:=P5);have⟨O,qn⟩:=eR A2 O qn;have qr:=bB A2 qr;refine I ?_;refine ac (cL (vf:=[]) (vc:=[pT A1.heap.size,pT Ab.heap.size]) Z Z ?_);refine I ?_;exact ax (t:=4) (v:=.func (.func 99) #[] #[pT A1.heap.size,pT Ab.heap.size]) Z qr ⟨_,_,_,rfl,⟨qn,Am,O⟩,by omega⟩ Z
def C6 {hb zb:Int}{za:Nat->Int}{n bT:Nat}(hS:Wq (n:Int) (kaA ma mb sa sb ea eb la lb ha hb oa ob ga gb) w b1 b2 bT)(hbs:∀b∈bs,w.heap.size<=b\/(b≠b1/\b≠b2/\b≠bT))(hn64:n<=1000)(hn:∀k,k<=n->∀W,au W b1 3 #[.int .i64 n]->au W bT 27 (kaA ma mb sa sb ea eb la lb ha hb oa ob ga gb)->Tb W->CL 97 #[.int .i64 k,pT b1,pT bT] W (aC W λv _=>v=QV (za k) zb)):
 PK prog 99 [pT b1,pT b2] (λk=>[IV (za k) zb (za (k+1)) zb]) bs Tb n w:=by
 intro l q5 Wa hW hJ0 hY Ne ht;obtain⟨h1,h2,h3⟩:=hS;have Z9:=bt h1;have l2:=bt h2;have Z8:=bt h3;have⟨h1,h2,h3⟩:=rQ hW h1 h2 h3;have E:oN bs Wa Wa:=oN.refl Wa;refine qM ?_;refine HV func99 Z (I ?_);refine JT [(4,4),(6,20)] (λT2 e W=>∃k:Nat,(n-k=T2)/\(e 6=.int .i64 k)/\(k<=n)/\(oN bs Wa W)/\(au W b1 3 #[.int .i64 n])/\(au W b2 70 #[.func (.func 97) #[] #[pT b1,pT bT]])/\(au W bT 27 (kaA ma mb sa sb ea eb la lb ha hb oa ob ga gb))/\(Tb W)/\(q5 k W)) (n-0) ⟨0,rfl,rfl,(qa7 _),E,h1,h2,h3,ht,Ne⟩ ?_;rintro _ _ Ab ⟨k,rfl,F6,ZB,qr,h1,h2,h3,ht,q1⟩;by_cases h0k:k<n;have E1:k<n:=h0k;refine I ?_;have F2:=aa2 Ab;refine kJ g8 9 [9,10,11,12,13,14,15,16,17] [some (9,.func (.yield l) #[] #[]),some (10,.func (.func 97) #[] #[pT b1,pT bT]),some (11,.int .i64 k),some (12,QV (za k) zb),some (13,.func (.func 97) #[] #[pT b1,pT bT]),some (14,.int .i64 k),some (15,.int .i64 ((k+1:Nat):Int)),some (16,QV (za (k+1)) zb),some (17,IV (za k) zb (za (k+1)) zb)] (XE Ab) (aa8 Ab) GS GS GS ?_ ?_;refine⟨λR1 _ _ E4 _ Ek _ _ _=>?_,?_⟩;obtain⟨R1,rfl⟩:=aT E4;refine I ?_;exact dX Z Ek (aa2 _);refine⟨λAy _ _ F1 _ Ar _ _ _=>?_,?_⟩;obtain⟨Ay,rfl⟩:=aT F1;have ZA:=(be Ar h2);refine I ?_;exact dX Z Ar (aa2 _)
 refine⟨λAv _ _ Z1 _ G3 _ _ _=>?_,?_⟩;obtain⟨Av,rfl⟩:=aT Z1;refine I ?_;exact dX Z G3 (aa2 _);refine⟨λny _ _ N1 od A1 _ _ _=>?_,?_⟩;obtain⟨ny,rfl⟩:=aT N1;have W3:=ba (od 1 _ _ Z Z);have W1:=ba (od 2 _ _ Z Z);have F3:=(aa7 A1 ht);have Z3:=(be A1 h1);have F7:=(be A1 h3);refine ac (E3 (vs:=[.int .i64 k]) (lb:=[pT b1,pT bT]) HG W3 (ai W1 Z) (hn k U _ Z3 F7 F3) ?_);rintro _ _ T4 rfl;refine I ?_;exact dX Z A1 T4;refine⟨λF4 _ _ EP _ Ap _ _ _=>?_,?_⟩;obtain⟨F4,rfl⟩:=aT EP;have Z7:=(be Ap h2);refine I ?_;exact dX Z Ap (aa2 _);refine⟨λL2 _ _ F5 _ K2 _ _ _=>?_,?_⟩;obtain⟨L2,rfl⟩:=aT F5;refine I ?_;exact dX Z K2 (aa2 _);refine⟨λEW _ _ As Kp Jx _ _ _=>?_,?_⟩;obtain⟨EW,rfl⟩:=aT As;have Aw:=ba (Kp 5 _ _ Z Z);refine ac (bb (a:=(k:Int)) (b:=1) (c:=((k+1:Nat):Int)) Aw Z L7 U ?_);refine I ?_;exact dX Z Jx (aa2 _);refine⟨λZ0 _ _ E0 Ao qn _ _ _=>?_,?_⟩;obtain⟨Z0,rfl⟩:=aT E0;have T3:=ba (Ao 4 _ _ Z Z);have Z5:=ba (Ao 6 _ _ Z Z);have Ix:=(aa7 qn ht);have F8:=(be qn h1);have Wb:=(be qn h3);refine ac (E3 (vs:=[.int .i64 ((k+1:Nat):Int)]) (lb:=[pT b1,pT bT]) HG T3 (ai Z5 Z) (hn (k+1) U _ F8 Wb Ix) ?_);rintro _ _ W2 rfl;refine I ?_
 exact dX Z qn W2;refine⟨λwr _ _ E9 Am No _ _ _=>?_,?_⟩;obtain⟨wr,rfl⟩:=aT E9;have S1:=ba (Am 3 _ _ Z Z);have G4:=ba (Am 7 _ _ Z Z);refine ac (aV (vs:=[(0,QV (za k) zb),(1,QV (za (k+1)) zb)]) (cells:=#[S ((qR (za k) zb).1),S ((qR (za k) zb).2),S ((qR (za (k+1)) zb).1),S ((qR (za (k+1)) zb).2)]) (pl:=[(0,2),(2,2)]) aJ ap GS (aK S1 (aK G4 Z)) GS ?_);refine I ?_;exact dX Z No (aa2 _);exact trivial;intro Z2 W0 _ _ Ax Aq O;obtain⟨Z2,rfl⟩:=aT Ax;have A2:=(be O h1);have Ad:=(be O h2);have Af:=(be O h3);have X2:=(aa7 O ht);have TT:=((hJ0 _).ext O q1);have Z6:=xt F2 O;have qr:=oN.trans qr (oN.ofExt O);have EE:=ba (Aq 0 _ _ Z Z);have E7:=ba (Aq 8 _ _ Z Z);refine ac (xJ (l:=l) (vs:=[IV (za k) zb (za (k+1)) zb]) EE (ai E7 Z) (hY k W0 E1 TT X2) ?_);rintro _ _ ⟨rfl,hJ,hC,hq⟩;have A2:=hC.blk (λh=>by have:=hbs _ h;omega) A2;have Ad:=hC.blk (λh=>by have:=hbs _ h;omega) Ad;have Af:=hC.blk (λh=>by have:=hbs _ h;omega) Af;have qr:=oN.trans qr hC;refine I ?_;refine ac (bb (a:=(k:Int)) (b:=1) (c:=((k+1:Nat):Int)) F6 Z L7 U ?_);refine I ?_;exact c6 ⟨k+1,rfl,rfl,U,qr,A2,Ad,Af,hq,hJ⟩;obtain rfl:k=n:=J
 refine I ?_;exact xK Z λv=>⟨⟨v,rfl⟩,q1⟩
def jW (h:p:=by kernel_rfl):p:=h
def fR :bF w w:=aa2 _
def Of {fn:Func}{g D:Nat}{e:Nat->Value}{R:Value->World->Prop}{v:Value}(hK:oV w' D)(hg:Enters prog g)(hc:Js g b1 b2)(hx:bF w w')(hD:w.heap.size<=D)(hr:(results fn (act N e [⟨.collected D,#[]⟩,TM g b1 b2]).tmps).run prog (w'.putObj D (.deferred none))=.ok v (w'.putObj D (.deferred none)))(hR:R v (w'.putObj D (.deferred none))):
 bodyPostM Fence.wide 9 prog fn (aC w R) .ret (act N e [⟨.collected D,#[]⟩,TM g b1 b2]) w':=by
 refine⟨by simp,.inl ⟨D,_,rfl,run_takeDeferred hK,by simp,.inr ⟨by simp[Fence.wide],.func g,#[],g,#[pT b1,pT b2],rfl,?_,λ_ _=>trivial,?_⟩⟩⟩
 · have h:=hg #[pT b1,pT b2] (w'.putObj D (.deferred none))
   simpa[invoke]using h
 · refine CallsDIn.mono (hc _ _) ?_
   rintro _ _ _ ⟨⟨O,rfl⟩,rfl,rfl⟩
   exact⟨v,hr,(fk w').low hx hD,hR⟩
def KpK.ext (k:bF A B)(h:dN bs W A):dN bs W B:=h.ext k
def KpK.put {b:Nat}(k:fU A B b)(hb:b∈bs\/W.heap.size<=b)(h:dN bs W A):dN bs W B:=h.put k hb
def KpK.gr {row:Option Nat}(k:A.grownBy B row)(hb:∀b,row=some b->b∈bs\/W.heap.size<=b)(h:dN bs W A):dN bs W B:=h.gr k hb
def se.map {b:Nat}{F:R->Value}(h:jb W b F):se W b:=by
 obtain⟨_,c,h,_⟩:=h
 exact⟨λr e=>ke1,λd e=>ke1⟩
set_option maxRecDepth 100000 in
def KY {hb zb f1 f2:Int}{n m gp gc:Nat}{za:Nat->Int}{xl xh mk mu bk bu ck cu SL SH:Nat->Nat->Int}{ne:Nat->Nat->Bool}{pA:Nat->Array Value}(h1:1<=pl)(h12:pl<=12)(hn1:1<=n)(hn64:n<=64)(hm:m<=2)(hVa:∀W,Tb W->CL 16 #[.agg (kaA ma mb sa sb ea eb la lb ha hb oa ob ga gb)] W (aC W λv _=>v=.bool true))(m1:Sz (-6) 1)(m2:Sz 6 1)(x1:Sh pl (-6) 1 f1 c1)(x2:Sh pl 6 1 f2 c2)(qc1:Q9 c1 (aa pl))(qf2:Q9 f2 (aa pl))(qA:Q9 (1*aa pl-f2*1) (1*aa pl))(hrest:Value.tuple #[QV (c1*(1*aa pl)+(1*aa pl-f2*1)*aa pl) (aa pl*(1*aa pl)),.int .i64 0]=.tuple #[QV (SH 0 0) (aa pl*aa pl),.int .i64 0])(h00:qR 0 1=qR (SL 0 0) (aa pl*aa pl))(hEn:∀k,k<=n->∀W b1 bT,au W b1 3 #[.int .i64 n]->au W bT 27 (kaA ma mb sa sb ea eb la lb ha hb oa ob ga gb)->Tb W->CL 97 #[.int .i64 k,pT b1,pT bT] W (aC W λv _=>v=QV (za k) zb))(egp:Enters prog gp)(egc:Enters prog gc)(hPt:∀k,k<n->∀W,Tb W->CL gp #[.agg (kaA ma mb sa sb ea eb la lb ha hb oa ob ga gb),IV (za k) zb (za (k+1)) zb] W (aC W λv W'=>∃c,v=.slice (some ⟨c,0,none⟩) m m/\au W' c 33 (pA k)/\W.heap.size<=c))(hPc:∀k j,k<n->j<m->∀{c:Nat} {W:World},au W c 33 (pA k)->∀i u,([S ((qR (xl k j) zb).1),S ((qR (xl k j) zb).2),S ((qR (xh k j) zb).1),S ((qR (xh k j) zb).2)]:List Value)[i]? =some u->W.cell? ⟨c,0+j*4+i,none⟩=some u)(hLs:∀k j W,Tb W->CL 36 #[QV (xl k j) zb,QV (xh k j) zb] W (aC W λv W'=>v=.bool (ne k j)))(hMs:∀k j,k<n->j<m->ne k j=true->∀W n0 b bm bp bn bf,cR W n0 b bm bp bn bf pl->n0<=W.heap.size->CL 32 #[vz pl bn bf,IV (xl k j) zb (xh k j) zb,QV ma mb,QV sa sb] W (fp λv W'=>W.grownBy W' (some b)/\cR W' n0 b bm bp bn bf pl/\v=IV (mk k j) (aa pl) (mu k j) (aa pl)))(hBn:∀k j,k<n->j<m->ne k j=true->∀W n0 b bm bp bn bf,cR W n0 b bm bp bn bf pl->n0<=W.heap.size->CL 53 #[vz pl bn bf,.agg (kaA ma mb sa sb ea eb la lb ha hb oa ob ga gb),IV (xl k j) zb (xh k j) zb] W (fp λv W'=>W.grownBy W' (some b)/\cR W' n0 b bm bp bn bf pl/\v=IV (bk k j) (aa pl) (bu k j) (aa pl)))(hCh:∀k j W,Tb W->CL gc #[IV (bk k j) (aa pl) (bu k j) (aa pl)] W (aC W λv W'=>v=IV (ck k j) (aa pl) (cu k j) (aa pl)))(hMu:∀k j,k<n->j<m->ne k j=true->∀W,Tb W->CL 52 #[IV (mk k j) (aa pl) (mu k j) (aa pl),IV (ck k j) (aa pl) (cu k j) (aa pl)] W (aC W λv W'=>v=.tuple #[IV (mk k j*ck k j) (aa pl*aa pl) (mu k j*cu k j) (aa pl*aa pl),.int .i64 0]))(hAd:∀k j,k<n->j<m->ne k j=true->∀W,Tb W->CL 38 #[IV (SL k j) (aa pl*aa pl) (SH k j) (aa pl*aa pl),IV (mk k j*ck k j) (aa pl*aa pl) (mu k j*cu k j) (aa pl*aa pl)] W (aC W λv W'=>v=.tuple #[IV (SL k (j+1)) (aa pl*aa pl) (SH k (j+1)) (aa pl*aa pl),.int .i64 0]))(hSk:∀k j,ne k j=false->SL k (j+1)=SL k j/\SH k (j+1)=SH k j)(hSe:∀k,SL (k+1) 0=SL k m/\SH (k+1) 0=SH k m)(hRd:∀W,Tb W->CL 54 #[IV (SL n 0) (aa pl*aa pl) (SH n 0) (aa pl*aa pl),.int .i64 pl] W (aC W λv W'=>v=.tuple #[IV ra rb ua ub,.int .i64 0]))(ht:Tb w):
 CL 22 #[.agg (kaA ma mb sa sb ea eb la lb ha hb oa ob ga gb),.int .i64 n,.int .i64 pl,.func (.func gp) #[] #[],.func (.func gc) #[] #[]] w (aC w λv w'=>v=.tuple #[IV ra rb ua ub,.int .i64 0]):=by
 refine uc func22 Z (I ?_);refine bx (λap1 atw cr=>?_);have cf:=atw.2;refine bx (v:=.func (.func gp) #[] #[]) (hx:=rfl) (λap2 ar5 cv=>?_);have⟨cr,cf⟩:=bD ar5.2 cr cf;refine bx (v:=.func (.func gc) #[] #[]) (hx:=rfl) (λapi aq9 cx=>?_);have⟨cr,cv,cf⟩:=bC aq9.2 cr cv cf;refine al ap (λapj aqu fy=>?_);have⟨cr,cv,cx,cf⟩:=bW aqu.2 cr cv cx cf;refine al lT (λ_ ap3 lq=>?_);have⟨cr,cv,cx,fy,cf⟩:=eE ap3.2 cr cv cx fy cf;refine I ?_;refine cl lB (gD h1 h12) ?_;rintro _ _ apv rfl;have⟨cr,cv,cx,fy,lq,cf⟩:=kW apv.2 cr cv cx fy lq cf;refine I ?_;refine ac (ar (cs:=[S (qR ma mb).1,S (qR ma mb).2,S (qR sa sb).1,S (qR sa sb).2,S (qR ea eb).1,S (qR ea eb).2,S (qR la lb).1,S (qR la lb).2,S (qR ha hb).1,S (qR ha hb).2,S (qR oa ob).1,S (qR oa ob).2,S (qR ga gb).1,S (qR ga gb).2]) (b:=w.heap.size) (o:=0) aP Z cD Z (aa1 cr (i:=0) jW) ?_);refine I ?_;refine cl qL (hVa _ (ht.ext cf)) ?_;rintro _ _ apw rfl;have⟨cr,cv,cx,fy,lq,cf⟩:=kW apw.2 cr cv cx fy lq cf;refine I ?_;refine ac (pK Z Z ?_);refine I ?_;refine cl xw (yR (ht.ext cf)) ?_;rintro _ nv apx ⟨ap4,w7,ap5,ap6,cy,fx,rfl,cm,axk,axl⟩;have⟨cr,cv,cx,fy,lq,cf⟩:=kW apx.2 cr cv cx fy lq cf;have zlt:=cm.lt;refine al sL (λ_ apk atx=>?_);have⟨cr,cv,cx,fy,lq⟩:=dY apk.2 cr cv cx fy lq;have cm:=aa5 apk.2 cm
 have cf:=xt cf apk.2;refine ac (bg (b:=nv.heap.size) (o:=0) (vs:=[.int .i64 pl,.func (.func 70) #[] #[pT cy,pT fx]]) xn Z Z MT atx (qa3 Z) (λap7 ape wr=>?_));have⟨cr,cv,cx,fy,lq⟩:=jv ape cr cv cx fy lq;have cm:=ab4 ape U cm;have cf:=bB ape cf;have axn:=mC ape;refine I ?_
 refine kJ g8 20 [13,38,39,40,41,42,43,44,45,46,47,48,49,50,51,52,53,54,55,56] [some (38,.pointer (some ⟨nv.heap.size,1,none⟩)),some (39,.func (.func 70) #[] #[pT cy,pT fx]),some (40,QV (-6) 1),some (41,IV f1 (aa pl) c1 (aa pl)),some (42,QV c1 (aa pl)),some (43,QV 1 1),some (44,.pointer (some ⟨nv.heap.size,1,none⟩)),some (45,.func (.func 70) #[] #[pT cy,pT fx]),some (46,QV 6 1),some (47,IV f2 (aa pl) c2 (aa pl)),some (48,QV f2 (aa pl)),some (49,.tuple #[QV (1*aa pl-f2*1) (1*aa pl),.int .i64 0]),some (50,QV (1*aa pl-f2*1) (1*aa pl)),some (51,.int .i64 0),some (52,QV (1*aa pl-f2*1) (1*aa pl)),some (53,.tuple #[QV (SH 0 0) (aa pl*aa pl),.int .i64 0]),some (54,QV (SH 0 0) (aa pl*aa pl)),some (55,.int .i64 0),some (56,QV (SH 0 0) (aa pl*aa pl)),none] (XH (λW=>ap7.grownBy W (some w7)/\cR W ap4 w7 ap5 ap6 cy fx pl) ap7.heap.size 19 13 25 #[S [],S []]) (XH.start ⟨aS (World.grownBy.refl ap7 _) (aa8 ap7),aa5 (aa8 ap7) cm⟩) jW jW jW ?_ ?_;refine⟨λaxo _ _ aty _ ar6 _ _ _=>?_,?_⟩;obtain⟨axo,rfl⟩:=aT aty;refine ac (ak (b:=nv.heap.size) (o:=0) (off:=1) (oo:=1) rJ Z Z oi Z Z ?_);refine I ?_;exact c7 Z ar6 ar6.1 fR;refine⟨λatz _ _ axx at0 ara _ _ _=>?_,?_⟩;obtain⟨atz,rfl⟩:=aT axx
 have at1:=ba (at0 0 _ _ Z Z);have at2:=(aa0 ara.1.1 Hx wr);refine I ?_;exact c7 Z ara ara.1 fR;refine⟨λax1 _ _ ax4 _ ap8 _ _ _=>?_,?_⟩;obtain⟨ax1,rfl⟩:=aT ax4;have cm:=ap8.1.2;refine clb gQ (hc:=eA (n:=(-6)) Rg (cR.tb cm)) (hk:=?_);rintro _ _ ap9 rfl;refine I ?_;exact c7 Z ap8 ⟨aS ap8.1.1 ap9.2,aa5 ap9.2 ap8.1.2⟩ ap9.2;refine⟨λar8 _ _ ayd ar9 w9 _ _ _=>?_,?_⟩;obtain⟨ar8,rfl⟩:=aT ayd;have at3:=ba (ar9 1 _ _ Z Z);have at4:=ba (ar9 2 _ _ Z Z);have cr:=(aa0 w9.1.1 Hx cr);have cv:=(aa0 w9.1.1 Hx cv);have cx:=(aa0 w9.1.1 Hx cx);have fy:=(aa0 w9.1.1 Hx fy);have lq:=(aa0 w9.1.1 Hx lq);have wr:=(aa0 w9.1.1 Hx wr);have cm:=w9.1.2;have at6:=bt cr;have at7:=bt cv;have at8:=bt cx;have at9:=bt fy;have aua:=bt lq;have aub:=bt wr;refine ac (jc (vs:=[QV (-6) 1]) (lb:=[pT cy,pT fx]) qK at3 (ai at4 Z) (nF h12 m1 x1 cm) ?_);rintro _ _ ⟨aos,auc,rfl⟩;refine I ?_;exact JR Z w9 ⟨aY w9.1.1 aos,auc⟩ aos (λg hgg=>by cases hgg;omega);refine⟨λaud _ _ ayn aue asa _ _ _=>?_,?_⟩;obtain⟨aud,rfl⟩:=aT ayn;have auf:=ba (aue 3 _ _ Z Z);refine ac (lk auf ?_);refine I ?_;exact c7 Z asa asa.1 fR
 refine⟨λayr _ _ ayu _ aqa _ _ _=>?_,?_⟩;obtain⟨ayr,rfl⟩:=aT ayu;have cm:=aqa.1.2;refine clb gQ (hc:=eA (n:=1) Rg (cR.tb cm)) (hk:=?_);rintro _ _ aqb rfl;refine I ?_;exact c7 Z aqa ⟨aS aqa.1.1 aqb.2,aa5 aqb.2 aqa.1.2⟩ aqb.2;refine⟨λay1 _ _ aug _ asc _ _ _=>?_,?_⟩;obtain⟨ay1,rfl⟩:=aT aug;refine ac (ak (b:=nv.heap.size) (o:=0) (off:=1) (oo:=1) rJ Z Z oi Z Z ?_);refine I ?_;exact c7 Z asc asc.1 fR;refine⟨λauh _ _ aza aui arc _ _ _=>?_,?_⟩;obtain⟨auh,rfl⟩:=aT aza;have auj:=ba (aui 6 _ _ Z Z);have auk:=(aa0 arc.1.1 Hx wr);refine I ?_;exact c7 Z arc arc.1 fR;refine⟨λaze _ _ azh _ aqc _ _ _=>?_,?_⟩;obtain⟨aze,rfl⟩:=aT azh;have cm:=aqc.1.2;refine clb gQ (hc:=eA (n:=6) Rg (cR.tb cm)) (hk:=?_);rintro _ _ aqd rfl;refine I ?_;exact c7 Z aqc ⟨aS aqc.1.1 aqd.2,aa5 aqd.2 aqc.1.2⟩ aqd.2;refine⟨λase _ _ azq asf aol _ _ _=>?_,?_⟩;obtain⟨ase,rfl⟩:=aT azq;have aul:=ba (asf 7 _ _ Z Z);have aum:=ba (asf 8 _ _ Z Z);have cr:=(aa0 aol.1.1 Hx cr);have cv:=(aa0 aol.1.1 Hx cv);have cx:=(aa0 aol.1.1 Hx cx);have fy:=(aa0 aol.1.1 Hx fy);have lq:=(aa0 aol.1.1 Hx lq)
 have wr:=(aa0 aol.1.1 Hx wr);have cm:=aol.1.2;have at6:=bt cr;have at7:=bt cv;have at8:=bt cx;have at9:=bt fy;have aua:=bt lq;have aub:=bt wr;refine ac (jc (vs:=[QV 6 1]) (lb:=[pT cy,pT fx]) qK aul (ai aum Z) (nF h12 m2 x2 cm) ?_);rintro _ _ ⟨aot,aun,rfl⟩;refine I ?_;exact JR Z aol ⟨aY aol.1.1 aot,aun⟩ aot (λg hgg=>by cases hgg;omega);refine⟨λauo _ _ az0 aup asg _ _ _=>?_,?_⟩;obtain⟨auo,rfl⟩:=aT az0;have auq:=ba (aup 9 _ _ Z Z);refine ac (rk auq ?_);refine I ?_;exact c7 Z asg asg.1 fR;refine⟨λash _ _ az6 asi aqe _ _ _=>?_,?_⟩;obtain⟨ash,rfl⟩:=aT az6;have aur:=ba (asi 5 _ _ Z Z);have aus:=ba (asi 10 _ _ Z Z);have cm:=aqe.1.2;refine cl oT (uV S0 qf2 (cR.tb cm)) ?_ (ai aur (ai aus Z));rintro _ _ aqf rfl;refine I ?_;exact c7 Z aqe ⟨aS aqe.1.1 aqf.2,aa5 aqf.2 aqe.1.2⟩ aqf.2;refine⟨λaut _ _ a0e auu ask _ _ _=>?_,?_⟩;obtain⟨aut,rfl⟩:=aT a0e;have auv:=ba (auu 11 _ _ Z Z);refine I ?_;exact c7 Z ask ask.1 fR;refine⟨λauw _ _ a0k aux asl _ _ _=>?_,?_⟩;obtain⟨auw,rfl⟩:=aT a0k;have auy:=ba (aux 11 _ _ Z Z);refine I ?_;exact c7 Z asl asl.1 fR;refine⟨λasm _ _ a0q aso aqg _ _ _=>?_,?_⟩;obtain⟨asm,rfl⟩:=aT a0q;have auz:=ba (aso 12 _ _ Z Z)
 have au0:=ba (aso 13 _ _ Z Z);have cm:=aqg.1.2;refine cl gd dU ?_ (ai auz (ai au0 Z));rintro _ _ aqh rfl;refine I ?_;exact c7 Z aqg ⟨aS aqg.1.1 aqh.2,aa5 aqh.2 aqg.1.2⟩ aqh.2;refine⟨λasq _ _ a0y asr aqi _ _ _=>?_,?_⟩;obtain⟨asq,rfl⟩:=aT a0y;have au1:=ba (asr 4 _ _ Z Z);have au2:=ba (asr 14 _ _ Z Z);have cm:=aqi.1.2;refine cl DF (fM (Y:=.tuple #[QV (SH 0 0) (aa pl*aa pl),.int .i64 0]) (JS qc1 qA (cR.tb cm)) hrest) ?_ (ai au1 (ai au2 Z));rintro _ _ aqj rfl;refine I ?_;exact c7 Z aqi ⟨aS aqi.1.1 aqj.2,aa5 aqj.2 aqi.1.2⟩ aqj.2;refine⟨λau3 _ _ a06 au4 ast _ _ _=>?_,?_⟩;obtain⟨au3,rfl⟩:=aT a06;have au5:=ba (au4 15 _ _ Z Z);refine I ?_;exact c7 Z ast ast.1 fR;refine⟨λau6 _ _ a1c au7 asu _ _ _=>?_,?_⟩;obtain⟨au6,rfl⟩:=aT a1c;have au8:=ba (au7 15 _ _ Z Z);refine I ?_;exact c7 Z asu asu.1 fR;refine⟨λasv _ _ a1i asw aqk _ _ _=>?_,?_⟩;obtain⟨asv,rfl⟩:=aT a1i;have au9:=ba (asw 16 _ _ Z Z);have ava:=ba (asw 17 _ _ Z Z);have cm:=aqk.1.2;refine cl gd dU ?_ (ai au9 (ai ava Z));rintro _ _ aql rfl;refine I ?_;exact c7 Z aqk ⟨aS aqk.1.1 aql.2,aa5 aql.2 aqk.1.2⟩ aql.2;refine⟨λa1o _ _ a1r _ aqv _ _ _=>?_,?_⟩;obtain⟨a1o,rfl⟩:=aT a1r
 have arf:=cI cf aqv.1.1 (bz cf) (λg hgg=>by cases hgg;omega);refine al aQ (λ_ aqw avb=>I ?_);exact Sl Z aqv ⟨aS aqv.1.1 aqw.2,aa5 aqw.2 aqv.1.2⟩ aqw.2 avb;exact trivial;intro asy _ _ avc apf avd aou;obtain⟨asy,rfl⟩:=aT apf;have aqx:=(aa0 aou.1.1 Hx cr);have aqy:=(aa0 aou.1.1 Hx cv);have aqz:=(aa0 aou.1.1 Hx cx);have aq0:=(aa0 aou.1.1 Hx fy);have aq1:=(aa0 aou.1.1 Hx lq);have a16:=bt aq1;have arh:=aou.1.2;have aq2:=(aa0 aou.1.1 Hx wr);have a17:=bt aq2;have apy:=cI cf aou.1.1 (bz cf) (λg hgg=>by cases hgg;omega);obtain⟨apz,ari,_,asz⟩:=aou.2.2 (avc 19 Z);have ari:=ba ari;have a2b:=bt asz;have as0:asy 13=pT apz:=(ari);have ave:=ba (avd 18 _ _ Z Z);refine SA asz (λavf ao9 as1=>?_);have⟨aqx,aqy,aqz,aq0,aq1⟩:=jv ao9 aqx aqy aqz aq0 aq1;have arh:=ab4 ao9 U arh;have⟨aq2,apy,_⟩:=ks ao9 aq2 apy;refine I ?_;refine kJ g8 4 [14,57,58,59] [some (57,QV (SL 0 0) (aa pl*aa pl)),some (58,QV (SH 0 0) (aa pl*aa pl)),some (59,IV (SL 0 0) (aa pl*aa pl) (SH 0 0) (aa pl*aa pl)),none] (XA avf 3 999 14 33 #[S [],S [],S [],S []] #[S [],S [],S [],S []]) XA.start jW jW jW ?_ ?_;refine⟨λa2d _ _ a2g _ as2 _ _ _=>?_,?_⟩;obtain⟨a2d,rfl⟩:=aT a2g
 have arj:=xt apy as2.1;refine clb gQ (hc:=fM (Y:=QV (SL 0 0) (aa pl*aa pl)) (eA (n:=0) Rg (ht.ext arj)) (qb1 (λr:R=>Value.agg #[S r.1,S r.2]) h00)) (hk:=?_);rintro _ _ as3 rfl;refine I ?_;exact r6 Z as2 as3.2;refine⟨λa2n _ _ avg _ as4 _ _ _=>?_,?_⟩;obtain⟨a2n,rfl⟩:=aT avg;have avh:=(be as4.1 as1);refine I ?_;exact r6 Z as4 fR;refine⟨λas5 _ _ a2w as6 avi _ _ _=>?_,?_⟩;obtain⟨as5,rfl⟩:=aT a2w;have avj:=ba (as6 0 _ _ Z Z);have avk:=ba (as6 1 _ _ Z Z);refine ac (aV (vs:=[(0,QV (SL 0 0) (aa pl*aa pl)),(1,QV (SH 0 0) (aa pl*aa pl))]) (cells:=#[S ((qR (SL 0 0) (aa pl*aa pl)).1),S ((qR (SL 0 0) (aa pl*aa pl)).2),S ((qR (SH 0 0) (aa pl*aa pl)).1),S ((qR (SH 0 0) (aa pl*aa pl)).2)]) (pl:=[(0,2),(2,2)]) aJ ap jW (aK avj (aK avk Z)) jW ?_);refine I ?_;exact r6 Z avi fR;refine⟨λa22 _ _ a25 _ as7 _ _ _=>?_,?_⟩;obtain⟨a22,rfl⟩:=aT a25;have ark:=xt apy as7.1;refine al ap (λ_ as8 avl=>I ?_);exact VP Z as7 as8.2 avl;exact trivial;intro aov _ _ avm apg avn aom;obtain⟨aov,rfl⟩:=aT apg;have aph:=(be aom.1 aqx);have apl:=(be aom.1 aqy);have apm:=(be aom.1 aqz);have apn:=(be aom.1 aq0);have apo:=(be aom.1 aq1);have ap0:=(aa5 aom.1 arh)
 have apq:=(be aom.1 aq2);have apr:=(be aom.1 as1);have aps:=xt apy aom.1;obtain⟨r8,arl,_,as9⟩:=XA.fin aom (avm 3 Z) (.inr Z);have arl:=ba arl;have a3o:=bt as9;have arm:aov 14=pT r8:=(arl);have avo:=ba (avn 2 _ _ Z Z);refine SA as9 (λ_ aow aq3=>?_);have⟨aph,apl,apm,apn,apo⟩:=jv aow aph apl apm apn apo;have ap0:=ab4 aow U ap0;have⟨apq,apr,aps,_⟩:=mD aow apq apr aps;refine I ?_;refine ac (ar (cs:=[S (qR ma mb).1,S (qR ma mb).2,S (qR sa sb).1,S (qR sa sb).2,S (qR ea eb).1,S (qR ea eb).2,S (qR la lb).1,S (qR la lb).2,S (qR ha hb).1,S (qR ha hb).2,S (qR oa ob).1,S (qR oa ob).2,S (qR ga gb).1,S (qR ga gb).2]) (b:=w.heap.size) (o:=0) aP Z cD Z (aa1 aph (i:=0) jW) ?_);refine I ?_;refine cl QG cells_ok ?_;rintro _ arn aox ⟨avq,avr,a3s,rfl,avs,a3t⟩;have⟨aph,apl,apm,apn,apo⟩:=dY aox.2 aph apl apm apn apo;have ap0:=aa5 aox.2 ap0;have⟨apq,apr,aq3,aps⟩:=bW aox.2 apq apr aq3 aps;refine I ?_;have a3y:=bt apo;have a3z:=bt apq;have a30:=bt apr;have a31:=bt aq3;have hTb:=ap0.tb
 refine KX (M:=n) (enc:=λk=>[IV (za k) zb (za (k+1)) zb]) (bs:=[r8,w7]) (Kq:=Tb) (gf:=99) (lb:=[pT avq,pT avr]) (ps:=[63]) Z QI (C6 (za:=za) (zb:=zb) avs ?hbs U (λk hk W hb1 hbT hW=>hEn k hk W _ _ hb1 hbT hW)) (jP.tb hTb (qa0 _)) (λ_=>rfl) (λk W=>k<=n/\arn.heap.size<=W.heap.size/\bF w W/\(au W w.heap.size 27 (kaA ma mb sa sb ea eb la lb ha hb oa ob ga gb))/\(au W ap1.heap.size 50 #[.func (.func gp) #[] #[]])/\(au W ap2.heap.size 51 #[.func (.func gc) #[] #[]])/\(au W api.heap.size 33 #[S [],S [],S [],S []])/\(au W apj.heap.size 34 #[.int .i64 0])/\(cR W ap4 w7 ap5 ap6 cy fx pl)/\(au W nv.heap.size 59 #[.int .i64 pl,.func (.func 70) #[] #[pT cy,pT fx]])/\(au W apz 25 #[S ((qR (SH 0 0) (aa pl*aa pl)).1),S ((qR (SH 0 0) (aa pl*aa pl)).2)])/\(au W r8 33 #[S ((qR (SL k 0) (aa pl*aa pl)).1),S ((qR (SL k 0) (aa pl*aa pl)).2),S ((qR (SH k 0) (aa pl*aa pl)).1),S ((qR (SH k 0) (aa pl*aa pl)).2)])) (λk=>⟨λkx ⟨q1,zl,E,h0,h1,h2,h3,h4,h5,h6,h7,h8⟩=>⟨q1,qa8 zl (bz kx),xt E kx,be kx h0,be kx h1,be kx h2,be kx h3,be kx h4,aa5 kx h5,be kx h6,be kx h7,be kx h8⟩,λkx hb ⟨q1,zl,E,h0,h1,h2,h3,h4,h5,h6,h7,h8⟩=>⟨q1,(by rw[kx.size];exact zl),bB kx E,pb kx h0,pb kx h1,pb kx h2,pb kx h3,pb kx h4,ab4 kx U h5,pb kx h6,pb kx h7,pb kx h8⟩⟩) ?h0 hTb (λe k e' W=>∃nb:Nat,e'=upd (jj e [63] [IV (za k) zb (za (k+1)) zb]) 15 (pT nb)/\arn.heap.size<=nb/\au W nb 33 #[S ((qR (za k) zb).1),S ((qR (za k) zb).2),S ((qR (za (k+1)) zb).1),S ((qR (za (k+1)) zb).2)]/\(λk W=>k<=n/\arn.heap.size<=W.heap.size/\bF w W/\(au W w.heap.size 27 (kaA ma mb sa sb ea eb la lb ha hb oa ob ga gb))/\(au W ap1.heap.size 50 #[.func (.func gp) #[] #[]])/\(au W ap2.heap.size 51 #[.func (.func gc) #[] #[]])/\(au W api.heap.size 33 #[S [],S [],S [],S []])/\(au W apj.heap.size 34 #[.int .i64 0])/\(cR W ap4 w7 ap5 ap6 cy fx pl)/\(au W nv.heap.size 59 #[.int .i64 pl,.func (.func 70) #[] #[pT cy,pT fx]])/\(au W apz 25 #[S ((qR (SH 0 0) (aa pl*aa pl)).1),S ((qR (SH 0 0) (aa pl*aa pl)).2)])/\(au W r8 33 #[S ((qR (SL k 0) (aa pl*aa pl)).1),S ((qR (SL k 0) (aa pl*aa pl)).2),S ((qR (SH k 0) (aa pl*aa pl)).1),S ((qR (SH k 0) (aa pl*aa pl)).2)])) k W) ?hA ?asn ?body ?stop
 case hbs=>
  intro b hb;simp only[List.mem_cons,List.not_mem_nil,or_false]at hb;rcases hb with rfl|rfl <;>exact Or.inr U
 case h0=>
  exact⟨qa7 _,qa0 _,aps,aph,apl,apm,apn,apo,ap0,apq,apr,aq3⟩
 case hA=>
  rintro k e' W b r r' hb hl ⟨nb,he,hnb,hbn,q1,zl,E,h0,h1,h2,h3,h4,h5,h6,h7,h8⟩;have kx:=ec W b (.loop r');have hne:∀{c t cs},au W c t cs->c≠b:=λh e=>by subst e;unfold au at h;rw[hl]at h;cases h
  exact⟨nb,he,hnb,aa6 kx (hne hbn) hbn,q1,(by rw[kx.size];exact zl),bB kx E,aa6 kx (hne h0) h0,aa6 kx (hne h1) h1,aa6 kx (hne h2) h2,aa6 kx (hne h3) h3,aa6 kx (hne h4) h4,ab4 kx U h5,aa6 kx (hne h6) h6,aa6 kx (hne h7) h7,aa6 kx (hne h8) h8⟩
 case asn=>
  rintro l k W K hkM ⟨q1,zl,E,h0,h1,h2,h3,h4,h5,h6,h7,h8⟩ hK;have EW:=aa2 W;refine I ?_;refine al ap (λ_ aon avt=>?_);have h0:=be aon.2 h0;have h1:=be aon.2 h1;have h2:=be aon.2 h2;have h3:=be aon.2 h3;have h4:=be aon.2 h4;have h5:=aa5 aon.2 h5;have h6:=be aon.2 h6;have h7:=be aon.2 h7;have h8:=be aon.2 h8;have E:=xt E aon.2;have EW:=xt EW aon.2;refine SA avt (λ_ w8 avu=>?_);have h0:=pb w8 h0;have h1:=pb w8 h1;have h2:=pb w8 h2;have h3:=pb w8 h3;have h4:=pb w8 h4;have h5:=ab4 w8 U h5;have h6:=pb w8 h6;have h7:=pb w8 h7;have h8:=pb w8 h8;have E:=bB w8 E;have a34:=mC w8;have EW:=bB w8 EW;refine I ?_;exact hK _ _ EW ⟨_,rfl,U,avu,q1,(by have:=bz EW;omega),E,h0,h1,h2,h3,h4,h5,h6,h7,h8⟩
 case body=>
  rintro l k e' W hkM hq ⟨nb,rfl,hnb,hbn,q1,zl,E,h0,h1,h2,h3,h4,h5,h6,h7,h8⟩;have zW:=bz E;have znb:=bt hbn;have hL:∀b∈[r8,w7],se W b:=by intro b hb;simp only[List.mem_cons,List.not_mem_nil,or_false]at hb;rcases hb with rfl|rfl;exact se.blk h8;exact se.map h5.mp
  have Kp:=dN.refl [r8,w7] W;obtain⟨Wb,hWb⟩:∃x,x=W:=⟨_,rfl⟩;have zWb:Wb.heap.size=W.heap.size:=by rw[hWb]
  rw[<-hWb]at hL;have Kp:dN [r8,w7] Wb W:=hWb▸Kp;refine I ?_;refine ac (ar (cs:=[S (qR ma mb).1,S (qR ma mb).2,S (qR sa sb).1,S (qR sa sb).2,S (qR ea eb).1,S (qR ea eb).2,S (qR la lb).1,S (qR la lb).2,S (qR ha hb).1,S (qR ha hb).2,S (qR oa ob).1,S (qR oa ob).2,S (qR ga gb).1,S (qR ga gb).2]) (b:=w.heap.size) (o:=0) aP Z cD Z (aa1 h0 (i:=0) jW) ?_);(try refine ac (ar (cs:=[S ((qR (za k) zb).1),S ((qR (za k) zb).2),S ((qR (za (k+1)) zb).1),S ((qR (za (k+1)) zb).2)]) (b:=nb) (o:=0) aJ Z ay Z (aa1 hbn (i:=0) Z) ?_));refine ac (E3 (vs:=[.agg (kaA ma mb sa sb ea eb la lb ha hb oa ob ga gb),IV (za k) zb (za (k+1)) zb]) (lb:=[]) egp Z Z (hPt k hkM _ (cR.tb h5)) ?_);rintro _ avw wz ⟨aqn,rfl,cw,a36⟩;have h0:=be wz h0;have h1:=be wz h1;have h2:=be wz h2;have h3:=be wz h3;have h4:=be wz h4;have h5:=aa5 wz h5;have h6:=be wz h6;have h7:=be wz h7;have h8:=be wz h8;have Kp:=KpK.ext wz Kp;have hbn:=be wz hbn;have E:=xt E wz
  have aro:=bt cw;refine I ?_;refine JT [(17,18),(69,101)] (λkk e W=>∃j:Nat,(m-j=kk)/\(e 69=.int .i64 j)/\(j<=m)/\(avw.heap.size<=W.heap.size)/\(bF w W)/\(au W w.heap.size 27 (kaA ma mb sa sb ea eb la lb ha hb oa ob ga gb))/\(au W ap1.heap.size 50 #[.func (.func gp) #[] #[]])/\(au W ap2.heap.size 51 #[.func (.func gc) #[] #[]])/\(au W api.heap.size 33 #[S [],S [],S [],S []])/\(au W apj.heap.size 34 #[.int .i64 0])/\(cR W ap4 w7 ap5 ap6 cy fx pl)/\(au W nv.heap.size 59 #[.int .i64 pl,.func (.func 70) #[] #[pT cy,pT fx]])/\(au W apz 25 #[S ((qR (SH 0 0) (aa pl*aa pl)).1),S ((qR (SH 0 0) (aa pl*aa pl)).2)])/\(dN [r8,w7] Wb W)/\(au W nb 33 #[S ((qR (za k) zb).1),S ((qR (za k) zb).2),S ((qR (za (k+1)) zb).1),S ((qR (za (k+1)) zb).2)])/\(au W aqn 33 (pA k))/\(au W r8 33 #[S ((qR (SL k j) (aa pl*aa pl)).1),S ((qR (SL k j) (aa pl*aa pl)).2),S ((qR (SH k j) (aa pl*aa pl)).1),S ((qR (SH k j) (aa pl*aa pl)).2)])) (m-0) ⟨0,rfl,rfl,(qa7 _),(qa0 _),E,h0,h1,h2,h3,h4,h5,h6,h7,Kp,hbn,cw,h8⟩ ?_;rintro _ _ apt ⟨j,rfl,aqo,hj,hz0,lm,h0,h1,h2,h3,h4,h5,h6,h7,Kp,hbn,cw,h8⟩
  have a4b:=bz lm;by_cases h0j:j<m;refine I ?_;refine ac (ah (A:=some ⟨aqn,0,none⟩) (bk:=aqn) (o:=0) (m:=m) (c:=m) (i:=j) (oo:=0+j*4) gE ay Z Z aqo U Z ?_);(try refine ac (ar (cs:=[S ((qR (xl k j) zb).1),S ((qR (xl k j) zb).2),S ((qR (xh k j) zb).1),S ((qR (xh k j) zb).2)]) (b:=aqn) (o:=0+j*4) aJ Z ay Z (λi u hi=>hPc k j hkM h0j cw i u hi) ?_));refine al ap (λ_ w5 avx=>?_);have h0:=be w5.2 h0;have h1:=be w5.2 h1;have h2:=be w5.2 h2;have h3:=be w5.2 h3;have h4:=be w5.2 h4;have h5:=aa5 w5.2 h5;have h6:=be w5.2 h6;have h7:=be w5.2 h7;have Kp:=KpK.ext w5.2 Kp;have hbn:=be w5.2 hbn;have cw:=be w5.2 cw;have h8:=be w5.2 h8;have lm:=xt lm w5.2;refine SA avx (λ_ sc lp=>?_);have h0:=pb sc h0;have h1:=pb sc h1;have h2:=pb sc h2;have h3:=pb sc h3;have h4:=pb sc h4;have h5:=ab4 sc U h5;have h6:=pb sc h6;have h7:=pb sc h7;have Kp:=KpK.put sc RM Kp;have hbn:=pb sc hbn;have cw:=pb sc cw;have h8:=pb sc h8;have lm:=bB sc lm;have a4e:=mC sc;refine I ?_;refine cl ol (hLs k j _ (cR.tb h5)) ?_
  rintro _ aqp v7 rfl;have h0:=be v7.2 h0;have h1:=be v7.2 h1;have h2:=be v7.2 h2;have h3:=be v7.2 h3;have h4:=be v7.2 h4;have h5:=aa5 v7.2 h5;have h6:=be v7.2 h6;have h7:=be v7.2 h7;have Kp:=KpK.ext v7.2 Kp;have hbn:=be v7.2 hbn;have cw:=be v7.2 cw;have h8:=be v7.2 h8;have lp:=be v7.2 lp;have lm:=xt lm v7.2;refine I ?_;rcases qa4 (ne k j)with apa|apa;refine I ?_;refine kJ g8 18 [18,78,79,80,81,82,83,84,85,86,87,88,89,90,91,92,93,94] [some (78,.agg #[.int .i64 pl,.func (.func 70) #[] #[pT cy,pT fx]]),some (79,IV (xl k j) zb (xh k j) zb),some (80,pT w.heap.size),some (81,QV ma mb),some (82,.pointer (some ⟨w.heap.size,2,none⟩)),some (83,QV sa sb),some (84,IV (mk k j) (aa pl) (mu k j) (aa pl)),some (85,.func (.func gc) #[] #[]),some (86,.agg #[.int .i64 pl,.func (.func 70) #[] #[pT cy,pT fx]]),some (87,.agg (kaA ma mb sa sb ea eb la lb ha hb oa ob ga gb)),some (88,IV (xl k j) zb (xh k j) zb),some (89,IV (bk k j) (aa pl) (bu k j) (aa pl)),some (90,IV (ck k j) (aa pl) (cu k j) (aa pl)),some (91,.tuple #[IV (mk k j*ck k j) (aa pl*aa pl) (mu k j*cu k j) (aa pl*aa pl),.int .i64 0]),some (92,IV (mk k j*ck k j) (aa pl*aa pl) (mu k j*cu k j) (aa pl*aa pl)),some (93,.int .i64 0),some (94,IV (mk k j*ck k j) (aa pl*aa pl) (mu k j*cu k j) (aa pl*aa pl)),none] (XH (λW=>aqp.grownBy W (some w7)/\cR W ap4 w7 ap5 ap6 cy fx pl) aqp.heap.size 17 18 33 #[S [],S [],S [],S []]) (XH.start ⟨aS (World.grownBy.refl aqp _) (aa8 aqp),aa5 (aa8 aqp) h5⟩) jW jW jW ?_ ?_
  refine⟨λa4g _ _ avz _ arp _ _ _=>?_,?_⟩;obtain⟨a4g,rfl⟩:=aT avz;have av0:=(aa0 arp.1.1 Hx h6);refine I ?_;exact c7 Z arp arp.1 fR;refine⟨λa4n _ _ av1 _ arq _ _ _=>?_,?_⟩;obtain⟨a4n,rfl⟩:=aT av1;have av2:=(aa0 arq.1.1 Hx lp);(try refine ac (ar (cs:=[S ((qR (xl k j) zb).1),S ((qR (xl k j) zb).2),S ((qR (xh k j) zb).1),S ((qR (xh k j) zb).2)]) (b:=apt.heap.size) (o:=0) aJ Z ay Z (aa1 av2 (i:=0) Z) ?_));refine I ?_;exact c7 Z arq arq.1 fR;refine⟨λa4u _ _ av3 _ atb _ _ _=>?_,?_⟩;obtain⟨a4u,rfl⟩:=aT av3;refine ac (ak (b:=w.heap.size) (o:=0) (off:=0) (oo:=0) aP Z Z aM Z Z ?_);refine I ?_;exact c7 Z atb atb.1 fR;refine⟨λav4 _ _ a43 av5 arr _ _ _=>?_,?_⟩;obtain⟨av4,rfl⟩:=aT a43;have av6:=ba (av5 2 _ _ Z Z);have av7:=(aa0 arr.1.1 Hx h0);refine I ?_;exact c7 Z arr arr.1 fR;refine⟨λa48 _ _ av8 _ atc _ _ _=>?_,?_⟩;obtain⟨a48,rfl⟩:=aT av8;refine ac (ak (b:=w.heap.size) (o:=0) (off:=2) (oo:=2) aP Z Z aM Z Z ?_);refine I ?_;exact c7 Z atc atc.1 fR;refine⟨λav9 _ _ a5h awa ars _ _ _=>?_,?_⟩;obtain⟨av9,rfl⟩:=aT a5h;have awb:=ba (awa 4 _ _ Z Z);have awc:=(aa0 ars.1.1 Hx h0)
  refine I ?_;exact c7 Z ars ars.1 fR;refine⟨λaq4 _ _ a5n aq5 ly _ _ _=>?_,?_⟩;obtain⟨aq4,rfl⟩:=aT a5n;have awd:=ba (aq5 0 _ _ Z Z);have awe:=ba (aq5 1 _ _ Z Z);have awf:=ba (aq5 3 _ _ Z Z);have awg:=ba (aq5 5 _ _ Z Z);have h0:=(aa0 ly.1.1 Hx h0);have h1:=(aa0 ly.1.1 Hx h1);have h2:=(aa0 ly.1.1 Hx h2);have h3:=(aa0 ly.1.1 Hx h3);have h4:=(aa0 ly.1.1 Hx h4);have h6:=(aa0 ly.1.1 Hx h6);have h7:=(aa0 ly.1.1 Hx h7);have hbn:=(aa0 ly.1.1 Hx hbn);have cw:=(aa0 ly.1.1 Hx cw);have h8:=(aa0 ly.1.1 Hx h8);have lp:=(aa0 ly.1.1 Hx lp);have h5:=ly.1.2;have zlh0:=bt h0;have zlh1:=bt h1;have zlh2:=bt h2;have zlh3:=bt h3;have zlh4:=bt h4;have zlh6:=bt h6;have zlh7:=bt h7;have zlhbn:=bt hbn;have aro:=bt cw;have zlh8:=bt h8;have atd:=bt lp;refine ac (bU (vs:=[.agg #[.int .i64 pl,.func (.func 70) #[] #[pT cy,pT fx]],IV (xl k j) zb (xh k j) zb,QV ma mb,QV sa sb]) BU (ai awd (ai awe (ai awf (ai awg Z)))) (hMs k j hkM h0j apa _ _ _ _ _ _ _ h5 U) ?_)
  rintro _ _ ⟨np,awh,rfl⟩;refine I ?_;exact JR Z ly ⟨aY ly.1.1 np,awh⟩ np (λg hgg=>by cases hgg;omega);refine⟨λa5v _ _ awi _ aru _ _ _=>?_,?_⟩;obtain⟨a5v,rfl⟩:=aT awi;have awj:=(aa0 aru.1.1 Hx h2);refine I ?_;exact c7 Z aru aru.1 fR;refine⟨λa54 _ _ awk _ arv _ _ _=>?_,?_⟩;obtain⟨a54,rfl⟩:=aT awk;have awl:=(aa0 arv.1.1 Hx h6);refine I ?_;exact c7 Z arv arv.1 fR;refine⟨λa6b _ _ awm _ arw _ _ _=>?_,?_⟩;obtain⟨a6b,rfl⟩:=aT awm;have awn:=(aa0 arw.1.1 Hx h0);refine ac (ar (cs:=[S (qR ma mb).1,S (qR ma mb).2,S (qR sa sb).1,S (qR sa sb).2,S (qR ea eb).1,S (qR ea eb).2,S (qR la lb).1,S (qR la lb).2,S (qR ha hb).1,S (qR ha hb).2,S (qR oa ob).1,S (qR oa ob).2,S (qR ga gb).1,S (qR ga gb).2]) (b:=w.heap.size) (o:=0) aP Z cD Z (aa1 awn (i:=0) jW) ?_);refine I ?_;exact c7 Z arw arw.1 fR;refine⟨λa6i _ _ awo _ arx _ _ _=>?_,?_⟩;obtain⟨a6i,rfl⟩:=aT awo;have awp:=(aa0 arx.1.1 Hx lp);(try refine ac (ar (cs:=[S ((qR (xl k j) zb).1),S ((qR (xl k j) zb).2),S ((qR (xh k j) zb).1),S ((qR (xh k j) zb).2)]) (b:=apt.heap.size) (o:=0) aJ Z ay Z (aa1 awp (i:=0) Z) ?_));refine I ?_;exact c7 Z arx arx.1 fR
  refine⟨λary _ _ a6r arz mq _ _ _=>?_,?_⟩;obtain⟨ary,rfl⟩:=aT a6r;have awq:=ba (arz 8 _ _ Z Z);have awr:=ba (arz 9 _ _ Z Z);have aws:=ba (arz 10 _ _ Z Z);have h0:=(aa0 mq.1.1 Hx h0);have h1:=(aa0 mq.1.1 Hx h1);have h2:=(aa0 mq.1.1 Hx h2);have h3:=(aa0 mq.1.1 Hx h3);have h4:=(aa0 mq.1.1 Hx h4);have h6:=(aa0 mq.1.1 Hx h6);have h7:=(aa0 mq.1.1 Hx h7);have hbn:=(aa0 mq.1.1 Hx hbn);have cw:=(aa0 mq.1.1 Hx cw);have h8:=(aa0 mq.1.1 Hx h8);have lp:=(aa0 mq.1.1 Hx lp);have h5:=mq.1.2;have zlh0:=bt h0;have zlh1:=bt h1;have zlh2:=bt h2;have zlh3:=bt h3;have zlh4:=bt h4;have zlh6:=bt h6;have zlh7:=bt h7;have zlhbn:=bt hbn;have aro:=bt cw;have zlh8:=bt h8;have atd:=bt lp;refine ac (bU (vs:=[.agg #[.int .i64 pl,.func (.func 70) #[] #[pT cy,pT fx]],.agg (kaA ma mb sa sb ea eb la lb ha hb oa ob ga gb),IV (xl k j) zb (xh k j) zb]) Qz (ai awq (ai awr (ai aws Z))) (hBn k j hkM h0j apa _ _ _ _ _ _ _ h5 U) ?_)
  rintro _ _ ⟨nq,awt,rfl⟩;refine I ?_;exact JR Z mq ⟨aY mq.1.1 nq,awt⟩ nq (λg hgg=>by cases hgg;omega);refine⟨λate _ _ a61 atf lr _ _ _=>?_,?_⟩;obtain⟨ate,rfl⟩:=aT a61;have awu:=ba (atf 7 _ _ Z Z);have awv:=ba (atf 11 _ _ Z Z);have h0:=(aa0 lr.1.1 Hx h0);have h1:=(aa0 lr.1.1 Hx h1);have h2:=(aa0 lr.1.1 Hx h2);have h3:=(aa0 lr.1.1 Hx h3);have h4:=(aa0 lr.1.1 Hx h4);have h6:=(aa0 lr.1.1 Hx h6);have h7:=(aa0 lr.1.1 Hx h7);have hbn:=(aa0 lr.1.1 Hx hbn);have cw:=(aa0 lr.1.1 Hx cw);have h8:=(aa0 lr.1.1 Hx h8);have lp:=(aa0 lr.1.1 Hx lp);have h5:=lr.1.2;have zlh0:=bt h0;have zlh1:=bt h1;have zlh2:=bt h2;have zlh3:=bt h3;have zlh4:=bt h4;have zlh6:=bt h6;have zlh7:=bt h7;have zlhbn:=bt hbn;have aro:=bt cw;have zlh8:=bt h8;have atd:=bt lp;refine ac (E3 (vs:=[IV (bk k j) (aa pl) (bu k j) (aa pl)]) (lb:=[]) egc awu (ai awv Z) (hCh k j _ (cR.tb h5)) ?_);rintro _ _ nm rfl;refine I ?_;exact c7 Z lr ⟨aS lr.1.1 nm,aa5 nm lr.1.2⟩ nm;refine⟨λath _ _ a7a ati aqq _ _ _=>?_,?_⟩;obtain⟨ath,rfl⟩:=aT a7a
  have aww:=ba (ati 6 _ _ Z Z);have awx:=ba (ati 12 _ _ Z Z);have h5:=aqq.1.2;refine cl QH (hMu k j hkM h0j apa _ (cR.tb h5)) ?_ (ai aww (ai awx Z));rintro _ _ aqr rfl;refine I ?_;exact c7 Z aqq ⟨aS aqq.1.1 aqr.2,aa5 aqr.2 aqq.1.2⟩ aqr.2;refine⟨λawy _ _ a7i awz atk _ _ _=>?_,?_⟩;obtain⟨awy,rfl⟩:=aT a7i;have aw0:=ba (awz 13 _ _ Z Z);refine I ?_;exact c7 Z atk atk.1 fR;refine⟨λaw1 _ _ a7o aw2 atl _ _ _=>?_,?_⟩;obtain⟨aw1,rfl⟩:=aT a7o;have aw3:=ba (aw2 13 _ _ Z Z);refine I ?_;exact c7 Z atl atl.1 fR;refine⟨λatm _ _ a7u atn aqs _ _ _=>?_,?_⟩;obtain⟨atm,rfl⟩:=aT a7u;have aw4:=ba (atn 14 _ _ Z Z);have aw5:=ba (atn 15 _ _ Z Z);have h5:=aqs.1.2;refine cl tT (mU (x:=(qR (mk k j*ck k j) (aa pl*aa pl),qR (mu k j*cu k j) (aa pl*aa pl)))) ?_ (ai aw4 (ai aw5 Z));rintro _ _ aqt rfl;refine I ?_;exact c7 Z aqs ⟨aS aqs.1.1 aqt.2,aa5 aqt.2 aqs.1.2⟩ aqt.2;refine⟨λa71 _ _ a77 _ aq6 _ _ _=>?_,?_⟩;obtain⟨a71,rfl⟩:=aT a77;have ar1:=cI lm aq6.1.1 (bz lm) (λg hgg=>by cases hgg;omega);refine al ap (λ_ aq7 aw6=>I ?_);exact Sl Z aq6 ⟨aS aq6.1.1 aq7.2,aa5 aq7.2 aq6.1.2⟩ aq7.2 aw6;exact trivial;intro aq8 _ _ aw7 atp aw8 ns;obtain⟨aq8,rfl⟩:=aT atp;have aoy:=(aa0 ns.1.1 Hx h0)
  have aoz:=(aa0 ns.1.1 Hx h1);have ao0:=(aa0 ns.1.1 Hx h2);have ao1:=(aa0 ns.1.1 Hx h3);have ao2:=(aa0 ns.1.1 Hx h4);have ao3:=ns.1.2;have ao4:=(aa0 ns.1.1 Hx h6);have ao5:=(aa0 ns.1.1 Hx h7);have apb:=(KpK.gr ns.1.1 (λb hb=>by cases hb;exact Or.inl RW) Kp);have ao6:=(aa0 ns.1.1 Hx hbn);have ao7:=(aa0 ns.1.1 Hx cw);have apc:=(aa0 ns.1.1 Hx h8);have apd:=(aa0 ns.1.1 Hx lp);have ao8:=cI lm ns.1.1 (bz lm) (λg hgg=>by cases hgg;omega);obtain⟨ar2,ar3,_,atq⟩:=ns.2.2 (aw7 17 Z);have ar3:=ba ar3;have a8u:=bt atq;have atr:aq8 18=pT ar2:=(ar3);have aw9:=ba (aw8 16 _ _ Z Z);refine SA atq (λ_ ny apu=>?_);have aoy:=pb ny aoy;have aoz:=pb ny aoz;have ao0:=pb ny ao0;have ao1:=pb ny ao1;have ao2:=pb ny ao2;have ao3:=ab4 ny U ao3;have ao4:=pb ny ao4;have ao5:=pb ny ao5;have apb:=KpK.put ny RM apb
  have ao6:=pb ny ao6;have ao7:=pb ny ao7;have apc:=pb ny apc;have apd:=pb ny apd;have ao8:=bB ny ao8;have a8w:=mC ny;refine I ?_;(try refine ac (ar (cs:=[S ((qR (SL k j) (aa pl*aa pl)).1),S ((qR (SL k j) (aa pl*aa pl)).2),S ((qR (SH k j) (aa pl*aa pl)).1),S ((qR (SH k j) (aa pl*aa pl)).2)]) (b:=r8) (o:=0) aJ Z ay arm (aa1 apc (i:=0) Z) ?_));(try refine ac (ar (cs:=[S ((qR (mk k j*ck k j) (aa pl*aa pl)).1),S ((qR (mk k j*ck k j) (aa pl*aa pl)).2),S ((qR (mu k j*cu k j) (aa pl*aa pl)).1),S ((qR (mu k j*cu k j) (aa pl*aa pl)).2)]) (b:=ar2) (o:=0) aJ Z ay atr (aa1 apu (i:=0) Z) ?_));refine cl Hz (hAd k j hkM h0j apa _ (cR.tb ao3)) ?_;rintro _ _ od rfl;have aoy:=be od.2 aoy;have aoz:=be od.2 aoz;have ao0:=be od.2 ao0;have ao1:=be od.2 ao1;have ao2:=be od.2 ao2;have ao3:=aa5 od.2 ao3;have ao4:=be od.2 ao4;have ao5:=be od.2 ao5;have apb:=KpK.ext od.2 apb;have ao6:=be od.2 ao6;have ao7:=be od.2 ao7;have apc:=be od.2 apc;have apd:=be od.2 apd;have apu:=be od.2 apu;have ao8:=xt ao8 od.2;refine I ?_;refine cl tT (mU (x:=(qR (SL k (j+1)) (aa pl*aa pl),qR (SH k (j+1)) (aa pl*aa pl)))) ?_;rintro _ _ oq rfl
  have aoy:=be oq.2 aoy;have aoz:=be oq.2 aoz;have ao0:=be oq.2 ao0;have ao1:=be oq.2 ao1;have ao2:=be oq.2 ao2;have ao3:=aa5 oq.2 ao3;have ao4:=be oq.2 ao4;have ao5:=be oq.2 ao5;have apb:=KpK.ext oq.2 apb;have ao6:=be oq.2 ao6;have ao7:=be oq.2 ao7;have apc:=be oq.2 apc;have apd:=be oq.2 apd;have apu:=be oq.2 apu;have ao8:=xt ao8 oq.2;refine SA apc (λ_ p6 axa=>?_);have aoy:=pb p6 aoy;have aoz:=pb p6 aoz;have ao0:=pb p6 ao0;have ao1:=pb p6 ao1;have ao2:=pb p6 ao2;have ao3:=ab4 p6 U ao3;have ao4:=pb p6 ao4;have ao5:=pb p6 ao5;have apb:=KpK.put p6 RM apb;have ao6:=pb p6 ao6;have ao7:=pb p6 ao7;have apd:=pb p6 apd;have apu:=pb p6 apu;have ao8:=bB p6 ao8;have a82:=mC p6;refine I ?_;refine ac (bb (a:=(j:Int)) (b:=1) (c:=((j+1:Nat):Int)) aqo Z L7 U ?_);refine I ?_;exact c6 ⟨j+1,rfl,rfl,U,U,ao8,aoy,aoz,ao0,ao1,ao2,ao3,ao4,ao5,apb,ao6,ao7,axa⟩;refine I ?_;refine ac (bb (a:=(j:Int)) (b:=1) (c:=((j+1:Nat):Int)) aqo Z L7 U ?_);refine I ?_
  exact c6 ⟨j+1,rfl,rfl,U,U,lm,h0,h1,h2,h3,h4,h5,h6,h7,Kp,hbn,cw,(by rw[(hSk k j apa).1,(hSk k j apa).2];exact h8)⟩;obtain rfl:j=m:=J
  refine I ?_;exact⟨w4.of (hWb▸Kp) (hWb▸hL),oN.of (hWb▸Kp),h5.tb,U,(by have:=Kp.size;omega),lm,h0,h1,h2,h3,h4,h5,h6,h7,(by rw[(hSe k).1,(hSe k).2];exact h8)⟩
 case stop=>
  rintro D W hD ⟨q1,zl,E,h0,h1,h2,h3,h4,h5,h6,h7,h8⟩ hK;have zW:=bz E;refine I ?_;(try refine ac (ar (cs:=[S ((qR (SL n 0) (aa pl*aa pl)).1),S ((qR (SL n 0) (aa pl*aa pl)).2),S ((qR (SH n 0) (aa pl*aa pl)).1),S ((qR (SH n 0) (aa pl*aa pl)).2)]) (b:=r8) (o:=0) aJ Z ay arm (aa1 h8 (i:=0) Z) ?_));refine I ?_;refine cl tO (hRd _ (cR.tb h5)) ?_;rintro _ _ aoo rfl;have h0:=be aoo.2 h0;have h1:=be aoo.2 h1;have h2:=be aoo.2 h2;have h3:=be aoo.2 h3;have h4:=be aoo.2 h4;have h6:=be aoo.2 h6;have h7:=be aoo.2 h7;have h8:=be aoo.2 h8;have hK:=oV.ext aoo.2 hK;have E:=xt E aoo.2;refine I ?_;refine cl tT (mU (x:=(qR ra rb,qR ua ub))) ?_;rintro _ _ aop rfl;have h0:=be aop.2 h0;have h1:=be aop.2 h1;have h2:=be aop.2 h2;have h3:=be aop.2 h3;have h4:=be aop.2 h4;have h6:=be aop.2 h6;have h7:=be aop.2 h7;have h8:=be aop.2 h8;have hK:=oV.ext aop.2 hK;have E:=xt E aop.2;refine SA h3 (λ_ aoq ar4=>?_);have h0:=pb aoq h0;have h1:=pb aoq h1;have h2:=pb aoq h2;have h4:=pb aoq h4;have h6:=pb aoq h6;have h7:=pb aoq h7;have h8:=pb aoq h8;have hK:=ac3 aoq (hK.ne h3) hK;have E:=bB aoq E
  refine SO h4 (λ_ aor axd=>?_);have h0:=pb aor h0;have h1:=pb aor h1;have h2:=pb aor h2;have ar4:=pb aor ar4;have h6:=pb aor h6;have h7:=pb aor h7;have h8:=pb aor h8;have hK:=ac3 aor (hK.ne h4) hK;have E:=bB aor E;refine I ?_;refine Of (b1:=api.heap.size) (b2:=apj.heap.size) (v:=.tuple #[IV ra rb ua ub,.int .i64 0]) hK xv (λ_ _=>pJ) E (qa8 (bz aps) hD) (cn (r1:=.cell 10 33) (r2:=.cell 11 34) Z ?_ ?_) Z;refine ag (t:=10) (cs:=[S (qR ra rb).1,S (qR ra rb).2,S (qR ua ub).1,S (qR ua ub).2]) (b:=api.heap.size) (o:=0) aJ Z ay ?_ ?_;exact Z;exact aa1 (au.dfr hK ar4) (i:=0) Z;refine dh (t:=11) (b:=apj.heap.size) (o:=0) G9 Z ?_ ?_;exact Z;exact aa9 (au.dfr hK axd) Z
def vY {hb:Int}{n:Nat}(hTo:∀W,Tb W->CL 22 #[.agg (kaA ma mb sa sb ea eb la lb ha hb oa ob ga gb),.int .i64 n,.int .i64 pl,.func (.func 23) #[] #[],.func (.func 24) #[] #[]] W (aC W λv _=>v=.tuple #[IV ra rb ua ub,.int .i64 0]))(ht:Tb w):
 CL 7 #[.agg (kaA ma mb sa sb ea eb la lb ha hb oa ob ga gb),.int .i64 n,.int .i64 pl] w (aC w λv w'=>v=.tuple #[IV ra rb ua ub,.int .i64 0]):=by
 refine aE func7 Z (I ?_);refine bx (λAb Am qr=>?_);have O:=Am.2;refine al ap (λ_ Af qn=>?_);have⟨qr,O⟩:=bD Af.2 qr O;refine I ?_;refine ac (ar (cs:=[S (qR ma mb).1,S (qR ma mb).2,S (qR sa sb).1,S (qR sa sb).2,S (qR ea eb).1,S (qR ea eb).2,S (qR la lb).1,S (qR la lb).2,S (qR ha hb).1,S (qR ha hb).2,S (qR oa ob).1,S (qR oa ob).2,S (qR ga gb).1,S (qR ga gb).2]) (b:=w.heap.size) (o:=0) aP Z cD Z (aa1 qr (i:=0) GS) ?_);refine I ?_;refine cl tU (hTo _ (ht.ext O)) ?_;rintro _ _ Ad rfl;have⟨qr,qn,O⟩:=bC Ad.2 qr qn O;refine I ?_;refine SA qn (λ_ A1 A2=>?_);have qr:=pb A1 qr;have O:=bB A1 O;refine I ?_;refine aI (v:=.tuple #[IV ra rb ua ub,.int .i64 0]) (cn (r1:=.cell 6 33) (r2:=.tmp 7) Z ?_ ?_) O Z;refine ag (t:=6) (cs:=[S (qR ra rb).1,S (qR ra rb).2,S (qR ua ub).1,S (qR ua ub).2]) (b:=Ab.heap.size) (o:=0) aJ Z ay ?_ ?_;exact Z;exact aa1 A2 (i:=0) Z;exact aD (t:=7) Rd _
def vZ {hb:Int}{n:Nat}(hTo:∀W,Tb W->CL 22 #[.agg (kaA ma mb sa sb ea eb la lb ha hb oa ob ga gb),.int .i64 n,.int .i64 pl,.func (.func 26) #[] #[],.func (.func 27) #[] #[]] W (aC W λv _=>v=.tuple #[IV ra rb ua ub,.int .i64 0]))(ht:Tb w):
 CL 9 #[.agg (kaA ma mb sa sb ea eb la lb ha hb oa ob ga gb),.int .i64 n,.int .i64 pl] w (aC w λv w'=>v=.tuple #[IV ra rb ua ub,.int .i64 0]):=by
 refine aE func9 Z (I ?_);refine bx (λAb Am qr=>?_);have O:=Am.2;refine al ap (λ_ Af qn=>?_);have⟨qr,O⟩:=bD Af.2 qr O;refine I ?_;refine ac (ar (cs:=[S (qR ma mb).1,S (qR ma mb).2,S (qR sa sb).1,S (qR sa sb).2,S (qR ea eb).1,S (qR ea eb).2,S (qR la lb).1,S (qR la lb).2,S (qR ha hb).1,S (qR ha hb).2,S (qR oa ob).1,S (qR oa ob).2,S (qR ga gb).1,S (qR ga gb).2]) (b:=w.heap.size) (o:=0) aP Z cD Z (aa1 qr (i:=0) GS) ?_);refine I ?_;refine cl tU (hTo _ (ht.ext O)) ?_;rintro _ _ Ad rfl;have⟨qr,qn,O⟩:=bC Ad.2 qr qn O;refine I ?_;refine SA qn (λ_ A1 A2=>?_);have qr:=pb A1 qr;have O:=bB A1 O;refine I ?_;refine aI (v:=.tuple #[IV ra rb ua ub,.int .i64 0]) (cn (r1:=.cell 6 33) (r2:=.tmp 7) Z ?_ ?_) O Z;refine ag (t:=6) (cs:=[S (qR ra rb).1,S (qR ra rb).2,S (qR ua ub).1,S (qR ua ub).2]) (b:=Ab.heap.size) (o:=0) aJ Z ay ?_ ?_;exact Z;exact aa1 A2 (i:=0) Z;exact aD (t:=7) Rd _
end
section
open Go Go.Eng Go.RowKit Proofs.Tryz
section
variable {r:Option Nat}{n:Nat}{e:Nat->Value}{ds:List Deferred}{Q:Exit->Act->World->Prop}{K:Act->World->Prop}
variable {d t ty:Nat}{pos:String}{af:Array Edge}{g:Option (Nat×Bool)}{x y:Operand}
def vA {m:Nat}{el:TypeId}{z z2:Value}{size bytes sz bz:Nat}{parts:Array (Nat×Operand)}{vs:List (Nat×Value)}{cells:Array Value}(hu:prog.underlying t=some (.array m el))(hi:gK prog t z sz bz)(hi2:gK prog el z2 size bytes)(hp:(parts.toList.map fun(i,x)=>(i,ev N e x))=vs)(hf:Instr.fill (λi=>some (i*size,size)) z.cells vs=some cells)(hk:K (act N (upd e d (.agg cells)) ds) w):
 Oper.wpIn (Fw r) n prog ⟨some d,.build t parts,ty,pos,af,g⟩ (act N e ds) w K Q:=by
 obtain⟨i,qn,A1,_,_⟩:=hi.parts
 obtain⟨j,O,_,qr,_⟩:=hi2.parts
 refine dG (v:=.agg cells) (w':=w) Z ?_ Th
 have hp':(parts.map fun(i,x)=>(i,ev N e x)).toList=vs:=by rw[<-hp];simp
 subst hp'
 subst qr
 simp only[execOp,Instr.build,Sem.run_bind,run_underlying hu,Result.andThen_ok,zeroValue,typeInfo,run_program,qn,Sem.run_pure,A1,sizeOf,O,hf]
end
end
section
open Go Go.Eng Go.RowKit Proofs.Tryz
attribute [local irreducible] wpListIn Code.wpIn Oper.wpIn Exit.then Exit.inBlock Exit.noGoto
set_option maxHeartbeats 40000000
set_option maxRecDepth 100000 in
def pY {b:Int}(q1:Q9 a b)(q2:Q9 c d)(ht:Tb w):
 CL 83 #[IV a b c d] w (aC w λv w'=>v=.bool (decide (aG (a*d) (c*b)<=0))):=by
 have qn:((qR a b).1,(qR a b).2)=qR a b:=rfl;have Ab:((qR c d).1,(qR c d).2)=qR c d:=rfl;refine aE func83 Z (I ?_);refine bx (λ_ A2 qr=>?_);have O:=A2.2;refine I ?_;refine cl qF (cB (ep _ _ _ (ht.ext O)) (Ny qn q1)) ?_;rintro _ _ Af rfl;have⟨qr,O⟩:=bD Af.2 qr O;refine I ?_;refine cl qF (cB (ep _ _ _ (ht.ext O)) (Ny Ab q2)) ?_;rintro _ _ Ad rfl;have⟨qr,O⟩:=bD Ad.2 qr O;refine I ?_;refine cl ko (pF q1 q2 (ht.ext O)) ?_;rintro _ _ A1 rfl;have O:=xt O A1.2;refine I ?_;exact ax (t:=2) (v:=.bool (decide ((aG (a*d) (c*b))<=0))) Z O Z Z
def KZ [Decidable p][Decidable q](h:p):Value.bool (decide q)=Value.bool (decide p&&decide q):=by rw[decide_eq_true h];rfl
def K0 [Decidable p][Decidable q](h:¬p):Value.bool false=Value.bool (decide p&&decide q):=by rw[decide_eq_false h];rfl
set_option maxRecDepth 100000 in
def lY {b:Int}(q1:Q9 a b)(q2:Q9 c d)(q:Q9 m n)(hV:aG (a*d) (c*b)<=0)(ht:Tb w):
 CL 42 #[IV a b c d,QV m n] w (aC w λv w'=>v=.bool (decide (aG (a*n) (m*b)<=0)&&decide (aG (m*d) (c*n)<=0))):=by
 refine aE func42 Z (I ?_);refine bx (λ_ Af qr=>?_);have O:=Af.2;refine bx (λ_ Ao qn=>?_);have⟨qr,O⟩:=bD Ao.2 qr O;refine I ?_;by_cases cv:(aG (a*n) (m*b))<=0;refine I ?_;refine ac (ar (cs:=[S (qR a b).1,S (qR a b).2,S (qR c d).1,S (qR c d).2]) (b:=w.heap.size) (o:=0) aJ Z ay Z (aa1 qr (i:=0) Z) ?_);refine cl xr (cB (pY q1 q2 (ht.ext O)) (qa1 hV)) ?_;rintro _ _ Ad rfl;have⟨qr,qn,O⟩:=bC Ad.2 qr qn O;refine I ?_;refine cl qF (cB (ep _ _ _ (ht.ext O)) (Ny (show((qR m n).1,(qR m n).2)=qR m n from rfl) q)) ?_;rintro _ _ Ap rfl;have⟨qr,qn,O⟩:=bC Ap.2 qr qn O;refine I ?_;refine cl ko (pF q1 q (ht.ext O)) ?_;rintro _ _ Aq rfl;have⟨qr,qn,O⟩:=bC Aq.2 qr qn O;refine I ?_;refine cl ko (pF q q2 (ht.ext O)) ?_;rintro _ _ A2 rfl;have O:=xt O A2.2;refine I ?_;exact ax (t:=4) (v:=.bool (decide ((aG (m*d) (c*n))<=0))) Z O kc7 Z;refine I ?_;refine ac (ar (cs:=[S (qR a b).1,S (qR a b).2,S (qR c d).1,S (qR c d).2]) (b:=w.heap.size) (o:=0) aJ Z ay Z (aa1 qr (i:=0) Z) ?_);refine cl xr (cB (pY q1 q2 (ht.ext O)) (qa1 hV)) ?_;rintro _ _ A1 rfl;have⟨qr,qn,O⟩:=bC A1.2 qr qn O;refine I ?_
 refine cl qF (cB (ep _ _ _ (ht.ext O)) (Ny (show((qR m n).1,(qR m n).2)=qR m n from rfl) q)) ?_;rintro _ _ Ab rfl;have⟨qr,qn,O⟩:=bC Ab.2 qr qn O;refine I ?_;refine cl ko (pF q1 q (ht.ext O)) ?_;rintro _ _ Am rfl;have O:=xt O Am.2;refine I ?_;exact ax (t:=4) (v:=.bool false) Z O kc7 Z
def vB (h:-100000000<=n/\n<=100000000):fits n=true:=(Q9.fz (a:=n) (b:=1) ⟨Nat.lt_of_le_of_lt (show n.natAbs<=100000000 by omega) dc,by decide,by decide⟩).1.fits
def Wr (hn:-100000000<=n/\n<=100000000)(hm:0<m/\m<=100000000):kg (ae n) (ae m)=some (qR n m):=by
 unfold kg
 rw[bR (vB hn),bR (vB (n:=m) U),aO,aO]
 rw[show(true&&true)=true from rfl,if_pos Z]
 unfold k7 qR
 rw[if_neg (show¬m=0 by omega)]
def C7 (hn:-100000000<=n/\n<=100000000)(hm:0<m/\m<=100000000):CL 17 #[.int .i64 n,.int .i64 m] w (aC w λv _=>v=.tuple #[QV n m,.int .i64 0]):=by
 have h:=V7 n m w hn U
 rw[Wr hn hm]at h
 exact h
def gF {b:Int}(h:Q9 a b):(qR a b).1.length<=1000000/\(qR a b).2.length<=1000000:=by
 have h1:=nl h.red.fz.1.fits
 have h2:=nl h.red.fz.2.fits
 unfold qR
 exact⟨by dsimp only;omega,by dsimp only;omega⟩
def S4 {b:Int}(h1:Q9 a b)(h2:Q9 c d)(he:qR (a*d+c*b) (b*d)=qR e f):CL 45 #[.agg #[S (qR a b).1,S (qR a b).2],.agg #[S (qR c d).1,S (qR c d).2]] w (aC w λv _=>v=.tuple #[.agg #[S (qR e f).1,S (qR e f).2],.int .i64 0]):=by
 have h:=Km (qR a b).1 (qR a b).2 (qR c d).1 (qR c d).2 w (gF h1).1 (gF h1).2 (gF h2).1 (gF h2).2
 rw[show q8 ((qR a b).1,(qR a b).2) ((qR c d).1,(qR c d).2)=some (qR (a*d+c*b) (b*d))from Jj h1 h2,he]at h
 exact h
def S5 {b:Int}(h1:Q9 a b)(h2:Q9 c d)(he:q7 (qR a b) (qR c d)=some (qR e f)):CL 112 #[.agg #[S (qR a b).1,S (qR a b).2],.agg #[S (qR c d).1,S (qR c d).2]] w (aC w λv _=>v=.tuple #[.agg #[S (qR e f).1,S (qR e f).2],.int .i64 0]):=by
 have h:=Kk (qR a b).1 (qR a b).2 (qR c d).1 (qR c d).2 w (gF h1).1 (gF h1).2 (gF h2).1 (gF h2).2
 rw[show q7 ((qR a b).1,(qR a b).2) ((qR c d).1,(qR c d).2)=some (qR e f)from he]at h
 exact h
def C8 {f:FuncId}{a:Array Value}(h:CL f a w (aC w λv _=>v=.int .i64 x))(e:x=y):CL f a w (aC w λv _=>v=.int .i64 y):=e▸h
set_option maxRecDepth 100000
def K3 {b:Int}(h1:Q9 a b)(h2:Q9 c d)(he:qR (a*d-c*b) (b*d)=qR e f):CL 46 #[QV a b,QV c d] w (aC w λv _=>v=.tuple #[QV e f,.int .i64 0]):=by
 have h:=Kn (qR a b).1 (qR a b).2 (qR c d).1 (qR c d).2 w (gF h1).1 (gF h1).2 (gF h2).1 (gF h2).2
 rw[show re ((qR a b).1,(qR a b).2) ((qR c d).1,(qR c d).2)=some (qR (a*d-c*b) (b*d))from Jk h1 h2,he]at h
 exact h
def fS (hn:In64 n)(hm:In64 m)(h0:m≠0)(ht:Tb w):
 CL 11 #[.int .i64 n,.int .i64 m] w (aC w λv w'=>v=QV n m):=by
 refine aE func11 Z (I ?_);refine al aQ (λ_ Ab qr=>?_);have O:=Ab.2;refine I ?_;refine cl BI (yo hn hm h0 (ht.ext O)) ?_;rintro _ _ Af rfl;have⟨qr,O⟩:=bD Af.2 qr O;refine I ?_;refine al aQ (λ_ Ao A2=>?_);have⟨qr,O⟩:=bD Ao.2 qr O;refine SA A2 (λ_ Am A1=>?_);have⟨qr,O,_⟩:=ks Am qr O;refine I ?_;refine SA qr (λ_ qn Ad=>?_);have A1:=pb qn A1;have O:=bB qn O;refine I ?_;refine aI (v:=QV n m) (cF  rfl ?_) O Z;refine ag (t:=4) (cs:=[S (qR n m).1,S (qR n m).2]) (b:=w.heap.size) (o:=0) eB Z aM ?_ ?_;exact Z;exact aa1 Ad (i:=0) Z
def lv {zb:Int}(ha:Q9 ra rb)(hb:Q9 ka kb)(he:qR (ra*kb+ka*rb) (rb*kb)=qR za zb):
 CL 19 #[QV ra rb,QV ka kb] w (aC w λv w'=>v=QV za zb):=by
 refine aE func19 Z (I ?_);refine bx (λ_ Av qr=>?_);have O:=Av.2;refine bx (λAf Ar qn=>?_);have⟨qr,O⟩:=bD Ar.2 qr O;refine al aQ (λ_ Ad A1=>?_);have⟨qr,qn,O⟩:=bC Ad.2 qr qn O;refine I ?_;refine cl WV (S4 ha hb he) ?_;rintro _ _ As rfl;have⟨qr,qn,A1,O⟩:=bW As.2 qr qn A1 O;refine I ?_;refine al aQ (λ_ Ao Aq=>?_);have⟨qr,qn,A1,O⟩:=bW Ao.2 qr qn A1 O;refine SA Aq (λ_ Am Ab=>?_);have⟨qr,qn,A1,O,_⟩:=l7 Am qr qn A1 O;refine I ?_;refine SA A1 (λ_ A2 Ap=>?_);have⟨qr,qn,Ab⟩:=kt A2 qr qn Ab;have O:=bB A2 O;refine I ?_;refine aI (v:=QV za zb) (cF  rfl ?_) O Z;refine ag (t:=4) (cs:=[S (qR za zb).1,S (qR za zb).2]) (b:=Af.heap.size) (o:=0) eB Z aM ?_ ?_;exact Z;exact aa1 Ap (i:=0) Z
def lw {zb:Int}(ha:Q9 ra rb)(hb:Q9 ka kb)(he:qR (ra*kb-ka*rb) (rb*kb)=qR za zb):
 CL 20 #[QV ra rb,QV ka kb] w (aC w λv w'=>v=QV za zb):=by
 refine aE func20 Z (I ?_);refine bx (λ_ Av qr=>?_);have O:=Av.2;refine bx (λAf Ar qn=>?_);have⟨qr,O⟩:=bD Ar.2 qr O;refine al aQ (λ_ Ad A1=>?_);have⟨qr,qn,O⟩:=bC Ad.2 qr qn O;refine I ?_;refine cl T0 (K3 ha hb he) ?_;rintro _ _ As rfl;have⟨qr,qn,A1,O⟩:=bW As.2 qr qn A1 O;refine I ?_;refine al aQ (λ_ Ao Aq=>?_);have⟨qr,qn,A1,O⟩:=bW Ao.2 qr qn A1 O;refine SA Aq (λ_ Am Ab=>?_);have⟨qr,qn,A1,O,_⟩:=l7 Am qr qn A1 O;refine I ?_;refine SA A1 (λ_ A2 Ap=>?_);have⟨qr,qn,Ab⟩:=kt A2 qr qn Ab;have O:=bB A2 O;refine I ?_;refine aI (v:=QV za zb) (cF  rfl ?_) O Z;refine ag (t:=4) (cs:=[S (qR za zb).1,S (qR za zb).2]) (b:=Af.heap.size) (o:=0) eB Z aM ?_ ?_;exact Z;exact aa1 Ap (i:=0) Z
end
section
open Go Go.Eng Go.RowKit Proofs.Tryz
def Be (a:Int)(pl:Nat)(f c:Int):Prop:=∀W,CL 109 #[QV a (aa 6),.int .i64 ((pl:Nat):Int)] W (aC W λv _=>v=.tuple #[IV f (aa pl) c (aa pl),.int .i64 0])
def X9:([45]++nS (10^13):List UInt8)=ae (-10000000000000):=by decide +kernel
def Ya:nS (10^13)=ae 10000000000000:=by decide +kernel
def Yb:cc (ae (-10000000000000),ae 1)=true:=by decide +kernel
def Yc:cc (ae 10000000000000,ae 1)=true:=by decide +kernel
def Y0:Fz (-10000000000000)/\Fz 10000000000000:=by unfold Fz;decide
def Zc:([56]:List UInt8)=ae 8:=by decide +kernel
def Zd:([45,56]:List UInt8)=ae (-8):=by decide +kernel
def Ze:cc (ae 8,ae 1)=true:=by decide +kernel
def Zf:cc (ae (-8),ae 1)=true:=by decide +kernel
def Wf:Fz 8/\Fz (-8):=by unfold Fz;decide
def Y1:qR 0 1=([48],[49]):=by decide +kernel
def WN:qR 1 1=([49],[49]):=by decide +kernel
def Zg:qR 1 2=([49],[50]):=by decide +kernel
def PL {b:Int}(h:Q9 a b)(ha:a.natAbs<10^12)(hb:b<10^12):CX (qR a b)=true:=by
 have h1:=yr (l:=(qR a b).1) (m:=(qR a b).2) Z h ha
 have h2:=yt (l:=(qR a b).1) (m:=(qR a b).2) Z h hb
 unfold CX
 rw[h.ok,decide_eq_true h1,decide_eq_true h2];rfl
section
def q6 (ha:a.natAbs<=9000000):Q9 a (aa 6)/\a.natAbs<10^12/\aa 6<10^12:=by
 rw[kK]
 exact⟨dK U dc dc,by omega,by decide⟩
def nG (ha:a.natAbs<=9000000)(hp:pl<=12):
 (∀W,CL 151 #[QV a (aa 6),.agg #[S ([45]++nS (10^13)),S [49]],.agg #[S (nS (10^13)),S [49]],.int .i64 ((pl:Nat):Int)] W (aC W λv _=>v=.bool true))/\
 (∀W,CL 43 #[S [49],S (nS (10^pl))] W (aC W λv _=>v=.tuple #[QV 1 (aa pl),.int .i64 0]))/\
 (∀W,CL 47 #[QV a (aa 6),.agg #[S [56],S [49]]] W (aC W λv _=>v=.int .i64 (aG (cG a (aa 6)*1) (8*bK a (aa 6)))))/\
 (∀W,CL 47 #[QV a (aa 6),.agg #[S [45,56],S [49]]] W (aC W λv _=>v=.int .i64 (aG (cG a (aa 6)*1) (-8*bK a (aa 6))))):=by
 obtain⟨q,q1,q2⟩:=q6 ha
 have hs:=PL q q1 q2
 have O:=eY (n:=a) q.2.1
 have qr:=rh (n:=a) q.2.1
 have v1:aA (qR a (aa 6)).1=cG a (aa 6):=aO _
 have v2:aA (qR a (aa 6)).2=bK a (aa 6):=by show aA (ae (bK a (aa 6)))=_;exact aO _
 have hr:=nR q.2.1 q.fz.1
 have hd:=nT q.2.1 q.fz.2 (n:=a)
 refine⟨λW=>?_,λW=>Wg (b:=aa pl) loneD Z A6 (y8 (n:=pl) U).fi.z (by have:=aZ pl;omega),λW=>?_,λW=>?_⟩
 · have h:=A7 (x:=(qR a (aa 6)).1) (y:=(qR a (aa 6)).2) (pl:=((pl:Nat):Int)) (w:=W) X9 loneD Ya loneD Yb Yc Y0.1 A6 Y0.2 A6 (cX hr) (cX hd)
   rw [show CX ((qR a (aa 6)).1,(qR a (aa 6)).2)=true from hs,v1,v2,show A5 true (cG a (aa 6)) (bK a (aa 6)) (-10000000000000) 1 10000000000000 1 ((pl:Nat):Int)=true by
    unfold A5
    rw[decide_eq_true (show(0:Int)<=((pl:Nat):Int)by omega),decide_eq_true (show((pl:Nat):Int)<=12 by omega)]
    have h1:(0:Int)<=aG (cG a (aa 6)*1) (-10000000000000*bK a (aa 6)):=by
     rcases Int.lt_or_le (aG (cG a (aa 6)*1) (-10000000000000*bK a (aa 6))) 0 with x|x
     · have:=dy.1 x;omega
     · exact x
    have h2:aG (cG a (aa 6)*1) (10000000000000*bK a (aa 6))<=0:=bS.2 U
    rw[decide_eq_true h1,decide_eq_true h2];rfl]at h
   exact h
 · have h:=vx (x:=(qR a (aa 6)).1) (y:=(qR a (aa 6)).2) (w:=W) q.ok Zc loneD Ze Wf.1 A6
   rw[v1,v2]at h;exact h
 · have h:=vx (x:=(qR a (aa 6)).1) (y:=(qR a (aa 6)).2) (w:=W) q.ok Zd loneD Zf Wf.2 A6
   rw[v1,v2]at h;exact h
def Yd:cG a (aa 6)*aa 6=a*bK a (aa 6):=ez (aZ 6)
def C9 :k*bK a (aa 6)<=cG a (aa 6)*1↔k*aa 6<=a:=by
 have h:=Yd (a:=a)
 have O:=eY (n:=a) (aZ 6)
 rw[Int.mul_one]
 constructor
 · intro x
   refine Int.le_of_mul_le_mul_right (a:=bK a (aa 6)) ?_ O
   rw[<-h,show k*aa 6*bK a (aa 6)=k*bK a (aa 6)*aa 6 by grind]
   exact Int.mul_le_mul_of_nonneg_right x (Int.le_of_lt (aZ 6))
 · intro x
   refine Int.le_of_mul_le_mul_right (a:=aa 6) ?_ (aZ 6)
   rw[h,show k*bK a (aa 6)*aa 6=k*aa 6*bK a (aa 6)by grind]
   exact Int.mul_le_mul_of_nonneg_right x (Int.le_of_lt O)
def tn :cG a (aa 6)*1<=k*bK a (aa 6)↔a<=k*aa 6:=by
 have h:=Yd (a:=a)
 have O:=eY (n:=a) (aZ 6)
 rw[Int.mul_one]
 constructor
 · intro x
   refine Int.le_of_mul_le_mul_right (a:=bK a (aa 6)) ?_ O
   rw[<-h,show k*aa 6*bK a (aa 6)=k*bK a (aa 6)*aa 6 by grind]
   exact Int.mul_le_mul_of_nonneg_right x (Int.le_of_lt (aZ 6))
 · intro x
   refine Int.le_of_mul_le_mul_right (a:=aa 6) ?_ (aZ 6)
   rw[h,show k*bK a (aa 6)*aa 6=k*aa 6*bK a (aa 6)by grind]
   exact Int.mul_le_mul_of_nonneg_right x (Int.le_of_lt O)
def S6 (h:y<=x):0<=aG x y:=by
 rcases Int.lt_or_le (aG x y) 0 with z|z
 · have:=dy.1 z;omega
 · exact z
def yS (h:x<y):¬0<=aG x y:=by have:=dy.2 h;omega
def E5 (h:y<x):¬aG x y<=0:=λh2=>by have:=bS.1 h2;omega
theorem tq (hp:pl<=12):CR 46 #[.agg #[S [49],S [49]],QV 1 (aa pl)] (.tuple #[QV (aa pl-1) (aa pl),.int .i64 0]):=λW=>by
 have T:=aZ pl
 have h:=K3 (w:=W) (a:=1) (b:=1) (c:=1) (d:=aa pl) (e:=aa pl-1) (f:=aa pl) ⟨by decide,by decide,by decide⟩ (iR dc hp) (aU U T (by grind))
 unfold QV at h;rw[WN]at h;exact h
def E6 (ha:a.natAbs<=9000000)(h8:8000000<=a)(p1:1<=pl)(hp:pl<=12):Be a pl (aa pl-1) (aa pl):=by
 intro W
 obtain⟨c1,c2,c3,c4⟩:=nG (pl:=pl) ha hp
 have e:qR (aa pl) (aa pl)=([49],[49]):=(aU (aZ pl) dc U).trans WN
 have k:0<=aG (cG a (aa 6)*1) (8*bK a (aa 6)):=S6 (C9.2 ke2)
 exact kh (p1:=[]) (p2:=[]) (q1:=[]) (q2:=[]) hp c1 c2 c3 c4 (tq hp) (λh=>absurd k h) (λ_=>by unfold IV;rw[e]) (λh=>absurd k h) (λh=>absurd k h) (λh=>absurd k h) p1
def E8 (ha:a.natAbs<=9000000)(h8:a<=-8000000)(p1:1<=pl)(hp:pl<=12):Be a pl 0 1:=by
 intro W
 obtain⟨c1,c2,c3,c4⟩:=nG (pl:=pl) ha hp
 have e:qR 0 (aa pl)=([48],[49]):=(aU (aZ pl) dc U).trans Y1
 have qr:¬0<=aG (cG a (aa 6)*1) (8*bK a (aa 6)):=yS (by have:=(tn (a:=a) (k:=-8)).2 ke2;have:=eY (n:=a) (aZ 6);omega)
 have O:aG (cG a (aa 6)*1) (-8*bK a (aa 6))<=0:=bS.2 (tn.2 ke2)
 exact kh (p1:=[]) (p2:=[]) (q1:=[]) (q2:=[]) hp c1 c2 c3 c4 (tq hp) (λ_ h=>absurd O h) (λh=>absurd h qr) (λ_ _=>by unfold IV;rw[e]) (λ_ h=>absurd O h) (λ_ h=>absurd O h) p1
def S7 (h0:a=0)(p1:1<=pl)(hp:pl<=12):Be a pl (dp 1 2 (aa pl)) (dz 1 2 (aa pl)):=by
 subst h0
 intro W
 obtain⟨c1,c2,c3,c4⟩:=nG (a:=0) (pl:=pl) dc hp
 have T:=aZ pl
 have e0:qR 0 (aa 6)=z0:=(aU (aZ 6) dc dc).trans Y1
 have A2:(0:Int)<bK 0 (aa 6):=eY (aZ 6)
 have A1:=yS (x:=cG 0 (aa 6)*1) (y:=8*bK 0 (aa 6)) (by have:=(tn (a:=0) (k:=0)).2 dc;omega)
 have O:=E5 (x:=cG 0 (aa 6)*1) (y:=-8*bK 0 (aa 6)) (by have:=(C9 (a:=0) (k:=0)).2 dc;omega)
 obtain⟨qn,qr⟩:=uZ p1
 have hE:=rn p1
 have e:qR ((10^pl/2:Nat):Int) (aa pl)=([49],[50]):=(aU T dc U).trans Zg
 rw[qn,qr]
 exact kh (p1:=[]) (p2:=[]) (q1:=[]) (q2:=[]) hp c1 c2 c3 c4 (tq hp) (λ_ _ h=>absurd e0 h) (λh=>absurd h A1) (λ_ h=>absurd h O) (λ_ _ _=>by unfold IV;rw[e]) (λ_ _ h=>absurd e0 h) p1
def K4 {cA cB:N2}{lo hi:Int}(ha:a.natAbs<8000000)(h0:a≠0)(p1:1<=pl)(hp:pl<=12)(hA:mX (10^(pl+15)) cA)(hB:mX (10^(pl+40)) cB)(h:WM pl cA cB (cG a (aa 6)) (bK a (aa 6)).toNat lo hi):Be a pl lo hi:=by
 intro W
 obtain⟨c1,c2,c3,c4⟩:=nG (a:=a) (pl:=pl) U hp
 have Ad:0<bK a (aa 6):=eY (aZ 6)
 have d1:=Eu (n:=a) (aZ 6)
 have n1:=rh (n:=a) (aZ 6)
 have O:=Yd (a:=a)
 have t6:=kK
 have b1:(8000000:Nat)<10^95:=by decide
 have hC:CR 155 #[.int .i64 2,QV a (aa 6),.int .i64 0,.int .i64 ((pl:Nat):Int)] (.tuple #[IV lo (aa pl) hi (aa pl),.int .i64 0]):=λW=>by
  have h1:=KM (w:=W) hp U U U hA hB h
  unfold QV
  rw[JG (aZ 6)];exact h1
 have A2:¬0<=aG (cG a (aa 6)*1) (8*bK a (aa 6)):=yS (by have:=mt (C9 (a:=a) (k:=8)).1 ke2;omega)
 have qr:¬aG (cG a (aa 6)*1) (-8*bK a (aa 6))<=0:=E5 (by have:=mt (tn (a:=a) (k:=-8)).1 ke2;omega)
 have qn:¬qR a (aa 6)=z0:=λA1=>by
  have Ab:=cJ.1 (qb1 Prod.fst A1:ae (cG a (aa 6))=[48])
  rw[Ab,Int.zero_mul]at O
  rcases Int.mul_eq_zero.1 O.symm with x|x
  · exact h0 x
  · omega
 exact kh hp c1 c2 c3 c4 (tq hp) (λ_ _ _=>hC) (λh=>absurd h A2) (λ_ h=>absurd h qr) (λ_ _ h=>absurd h qn) (λ_ _ _=>rfl) p1
end
end
end Go.Proofs.YthpinljhfnodeaaGreatDoor
