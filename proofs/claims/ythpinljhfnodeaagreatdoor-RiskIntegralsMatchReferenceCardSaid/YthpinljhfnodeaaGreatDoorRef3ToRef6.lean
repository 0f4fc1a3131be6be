/- Part of the proof of a statement about risks. -/
import Derived.Test.YthpinljhfnodeaaGreatDoorRi8ToDec6
set_option linter.all false
namespace Go.Proofs.YthpinljhfnodeaaGreatDoor
variable {ng:Bool}{n:Int}{l:List UInt8}{a lo c i n1 n2 x c1 lo1 c2 lo2 d x0:Nat}{A A1 A2:Option Addr}{w w':World}
set_option maxRecDepth 100000
open Go Go.Eng Go.RowKit Proofs.Tryz
attribute [local irreducible] wpListIn Code.wpIn Oper.wpIn Exit.then Exit.inBlock Exit.noGoto
set_option maxHeartbeats 40000000
def cW {a:Int}(h:In64 a:=by unfold In64;omega):In64 a:=h
def jo (a i:Nat):(av 10 a).getD i 0<10:=gW (dH 10 U a) i
def fF (l:List Nat)(x:Nat):ints l++[Value.int .i64 x]=ints (l++[x]):=by simp[ints]
def oI (m:Nat):(madeCells (Value.int IntKind.i64 0).cells (m*1)).toList=ints (List.replicate m 0):=qQ m
def Dg.put {b n:Nat}(k:fU w w' b)(hb:b<lo)(h:Dg w lo A n c a):Dg w' lo A n c a:=⟨h.row.put k hb,h.len,h.cap⟩
def Dg.hi {n:Nat}(h:Dg w lo A n c a):∀ad,A=some ad->ad.block<w.heap.size:=h.row.hi
def QL (i:Nat)(T:List Nat):List Nat:=List.replicate i 0++T
def gt (i:Nat)(T:List Nat):(QL i T).length=i+T.length:=by simp[QL]
def EK (T:List Nat)(h:0<i):QL i T=QL (i-1) (0::T):=by
 obtain⟨j,rfl⟩:∃j,i=j+1:=⟨i-1,by omega⟩
 simp[QL,List.replicate_succ']
def vi (i c:Nat)(T:List Nat):(QL i (c::T)).getD i 0=c:=by simp[QL,List.getD]
def CK (i c d:Nat)(T:List Nat):(QL i (c::T)).set i d=QL i (d::T):=by
 induction i with
 |zero=>rfl
 |succ i ih=>unfold QL at *;rw[List.replicate_succ,List.cons_append,List.cons_append,List.set_cons_succ,ih]
def AK (n:Nat):QL n []=List.replicate n 0:=by simp[QL]
def Sv (r d:Nat)(hd:d<10):ei (d::av 10 r)=av 10 (r*10+d):=by
 rw[my 10 U (d::av 10 r) (λx hx=>by
  rcases List.mem_cons.1 hx with rfl|hx
  · exact hd
  · exact dH 10 U r x hx)]
 simp only[b8,dj 10 (show 2<=10 by omega)]
 congr 1;omega
def Ka {b:Nat}(h1:(av 10 a).length=n1)(h2:(av 10 b).length=n2)(h:a<b*10):n1<=n2+1:=by
 rw[<-h1,<-h2,aW 10 U,Nat.pow_succ]
 have:=oz (B:=10) U b
 omega
def NP {b:Nat}(h:b<=a):(0:Int)<=aG (a:Int) (b:Int):=by
 rcases Nat.eq_or_lt_of_le h with h1|h1
 · rw[fK U];omega
 · rw[dk U];omega
def NQ {b:Nat}(h:¬b<=a):¬(0:Int)<=aG (a:Int) (b:Int):=by
 rw[dE U];omega
def Kb {b r r2:Nat}(h:c*b+r2=r*10+x)(hr:r<b)(hx:x<10):c<10:=by
 rcases Nat.lt_or_ge c 10 with h1|h1
 · exact h1
 · have:=Nat.mul_le_mul_right b h1;omega
def wN (h1:Dg w lo1 A1 n1 c1 a)(s1:n1<=100000){b:Nat}(h2:Dg w lo2 A2 n2 c2 b)(s2:n2<=100000):
 CL 142 #[.slice A1 n1 c1,.slice A2 n2 c2] w (aC w λv w'=>∃A n c,v=.slice A n c/\Dg w' w.heap.size A n c (a+b)):=by
 have W1:=h1.len;have W0:=h2.len;refine aE func142 Z (I ?_);have T2:World.ownsRow w w.heap.size 3 1 (.slice none 0 0) 0 (ints []):=iO;have F6:=aa2 w;refine JT [(5,52)] (λKp e W=>∃k:Nat,∃qn:Value,((max n1 n2)+1-k=Kp)/\(e 6=.int .i64 (((gU (av 10 a) (av 10 b) k).1:Nat):Int))/\(e 7=.int .i64 k)/\(e 5=qn)/\(k<=(max n1 n2)\/k=(max n1 n2)+1/\0<(gU (av 10 a) (av 10 b) (max n1 n2)).1)/\(bF w W)/\(W.ownsRow w.heap.size 3 1 qn k (ints (gU (av 10 a) (av 10 b) k).2))) ((max n1 n2)+1-0) ⟨0,.slice none 0 0,rfl,rfl,rfl,rfl,(Or.inl (qa7 _)),F6,T2⟩ ?_;rintro _ _ _ ⟨k,qn,rfl,Wa,W3,Ab,q1,O,ho⟩;have W2:=bz O;by_cases hka:k<n1;by_cases hkb:k<n2;have Ap:(gU (av 10 a) (av 10 b) k).1<=1:=dZ (jo a) (jo b) k;have Aq:=jo a k;have Am:=jo b k;have Ad:n1<=k->(av 10 a).getD k 0=0:=λh=>dC U;have Af:n2<=k->(av 10 b).getD k 0=0:=λh=>dC U;refine I ?_;obtain⟨od,E4,T3,L2⟩:=((h1.row).ext O).cells k _ (bE (xs:=(av 10 a)) U);refine ac (ah (i:=(k)) (oo:=E4+k) ju eP Z T3 Z U BT ?_);refine ac (bP (v:=.int .i64 (((av 10 a).getD k 0:Nat):Int)) (b:=od) (o:=E4+k) U3 Z Z L2 ?_);refine ac (bb (a:=(((gU (av 10 a) (av 10 b) k).1:Nat):Int)) (b:=(((av 10 a).getD k 0:Nat):Int)) (c:=(((gU (av 10 a) (av 10 b) k).1+(av 10 a).getD k 0:Nat):Int)) Z Z cW U ?_)
 refine I ?_;obtain⟨N1,E0,EW,TT⟩:=((h2.row).ext O).cells k _ (bE (xs:=(av 10 b)) U);refine ac (ah (i:=(k)) (oo:=E0+k) ju eP Z EW Z U BT ?_);refine ac (bP (v:=.int .i64 (((av 10 b).getD k 0:Nat):Int)) (b:=N1) (o:=E0+k) U3 Z Z TT ?_);refine ac (bb (a:=(((gU (av 10 a) (av 10 b) k).1+(av 10 a).getD k 0:Nat):Int)) (b:=(((av 10 b).getD k 0:Nat):Int)) (c:=(((gU (av 10 a) (av 10 b) k).1+(av 10 a).getD k 0+(av 10 b).getD k 0:Nat):Int)) Z Z cW U ?_);refine I ?_;refine ac (di (v:=qn) Ab ?_);refine I ?_;refine ac (mc (a:=(((gU (av 10 a) (av 10 b) k).1+(av 10 a).getD k 0+(av 10 b).getD k 0:Nat):Int)) (b:=10) (c:=((((gU (av 10 a) (av 10 b) k).1+(av 10 a).getD k 0+(av 10 b).getD k 0)%10:Nat):Int)) Z Z U U U ?_);refine BS (λ_ Aw _ No=>?_);have ho:=aX Aw ho;have O:=xt O Aw;refine AP ho (aa4 No) (λAy _ Ne T4 _=>?_);have O:=dQ ho U U O T4;refine ac (bO (v:=Ay) Z ?_);refine I ?_;refine ac (oR (a:=(((gU (av 10 a) (av 10 b) k).1+(av 10 a).getD k 0+(av 10 b).getD k 0:Nat):Int)) (b:=10) (c:=(((gU (av 10 a) (av 10 b) (k+1)).1:Nat):Int)) Z Z U U cW kd8 ?_);refine I ?_
 refine ac (bb (a:=(k:Int)) (b:=1) (c:=((k+1:Nat):Int)) Z Z cW U ?_);refine I ?_;exact c6 (hk:=by first|omega|(rcases q1 with h|⟨h,-⟩;omega;exfalso;have qr:=kf (X:=(av 10 a)) (Y:=(av 10 b)) (k:=(max n1 n2)) U U (dZ (jo a) (jo b) _);rw[show(max n1 n2)+1=k by omega]at qr;omega)) ⟨k+1,Ay,rfl,rfl,rfl,rfl,(by rcases q1 with h|⟨h,-⟩ <;>first|(left;omega)|(right;refine⟨by omega,?_⟩;rw[show(max n1 n2)=k by omega];omega)|(exfalso;have qr:=kf (X:=(av 10 a)) (Y:=(av 10 b)) (k:=(max n1 n2)) U U (dZ (jo a) (jo b) _);rw[show(max n1 n2)+1=k by omega]at qr;omega)),O,(dT Ne Z (by rw[fF];rfl))⟩;have Ap:(gU (av 10 a) (av 10 b) k).1<=1:=dZ (jo a) (jo b) k;have Aq:=jo a k;have Am:=jo b k;have Ad:n1<=k->(av 10 a).getD k 0=0:=λh=>dC U;have Af:n2<=k->(av 10 b).getD k 0=0:=λh=>dC U;refine I ?_;obtain⟨F5,EE,F8,R1⟩:=((h1.row).ext O).cells k _ (bE (xs:=(av 10 a)) U);refine ac (ah (i:=(k)) (oo:=EE+k) ju eP Z F8 Z U BT ?_);refine ac (bP (v:=.int .i64 (((av 10 a).getD k 0:Nat):Int)) (b:=F5) (o:=EE+k) U3 Z Z R1 ?_);refine ac (bb (a:=(((gU (av 10 a) (av 10 b) k).1:Nat):Int)) (b:=(((av 10 a).getD k 0:Nat):Int)) (c:=(((gU (av 10 a) (av 10 b) k).1+(av 10 a).getD k 0:Nat):Int)) Z Z cW U ?_);refine I ?_;refine ac (di (v:=qn) Ab ?_);refine I ?_;refine ac (mc (a:=(((gU (av 10 a) (av 10 b) k).1+(av 10 a).getD k 0:Nat):Int)) (b:=10) (c:=((((gU (av 10 a) (av 10 b) k).1+(av 10 a).getD k 0+(av 10 b).getD k 0)%10:Nat):Int)) Z Z U U U ?_);refine BS (λ_ Ar _ K2=>?_);have ho:=aX Ar ho;have O:=xt O Ar;refine AP ho (aa4 K2) (λAv _ S1 wr _=>?_);have O:=dQ ho U U O wr;refine ac (bO (v:=Av) Z ?_)
 refine I ?_;refine ac (oR (a:=(((gU (av 10 a) (av 10 b) k).1+(av 10 a).getD k 0:Nat):Int)) (b:=10) (c:=(((gU (av 10 a) (av 10 b) (k+1)).1:Nat):Int)) Z Z U U cW kd8 ?_);refine I ?_;refine ac (bb (a:=(k:Int)) (b:=1) (c:=((k+1:Nat):Int)) Z Z cW U ?_);refine I ?_;exact c6 (hk:=by first|omega|(rcases q1 with h|⟨h,-⟩;omega;exfalso;have qr:=kf (X:=(av 10 a)) (Y:=(av 10 b)) (k:=(max n1 n2)) U U (dZ (jo a) (jo b) _);rw[show(max n1 n2)+1=k by omega]at qr;omega)) ⟨k+1,Av,rfl,rfl,rfl,rfl,(by rcases q1 with h|⟨h,-⟩ <;>first|(left;omega)|(right;refine⟨by omega,?_⟩;rw[show(max n1 n2)=k by omega];omega)|(exfalso;have qr:=kf (X:=(av 10 a)) (Y:=(av 10 b)) (k:=(max n1 n2)) U U (dZ (jo a) (jo b) _);rw[show(max n1 n2)+1=k by omega]at qr;omega)),O,(dT S1 Z (by rw[fF];rfl))⟩;by_cases hkb:k<n2;have Ap:(gU (av 10 a) (av 10 b) k).1<=1:=dZ (jo a) (jo b) k;have Aq:=jo a k;have Am:=jo b k;have Ad:n1<=k->(av 10 a).getD k 0=0:=λh=>dC U;have Af:n2<=k->(av 10 b).getD k 0=0:=λh=>dC U;refine I ?_;obtain⟨F2,E9,G3,EP⟩:=((h2.row).ext O).cells k _ (bE (xs:=(av 10 b)) U);refine ac (ah (i:=(k)) (oo:=E9+k) ju eP Z G3 Z U BT ?_);refine ac (bP (v:=.int .i64 (((av 10 b).getD k 0:Nat):Int)) (b:=F2) (o:=E9+k) U3 Z Z EP ?_);refine ac (bb (a:=(((gU (av 10 a) (av 10 b) k).1:Nat):Int)) (b:=(((av 10 b).getD k 0:Nat):Int)) (c:=(((gU (av 10 a) (av 10 b) k).1+(av 10 a).getD k 0+(av 10 b).getD k 0:Nat):Int)) Z Z cW U ?_);refine I ?_;refine ac (di (v:=qn) Ab ?_);refine I ?_;refine ac (mc (a:=(((gU (av 10 a) (av 10 b) k).1+(av 10 a).getD k 0+(av 10 b).getD k 0:Nat):Int)) (b:=10) (c:=((((gU (av 10 a) (av 10 b) k).1+(av 10 a).getD k 0+(av 10 b).getD k 0)%10:Nat):Int)) Z Z U U U ?_);refine BS (λ_ E1 _ G4=>?_);have ho:=aX E1 ho;have O:=xt O E1;refine AP ho (aa4 G4) (λE7 _ Ix F4 _=>?_);have O:=dQ ho U U O F4
 refine ac (bO (v:=E7) Z ?_);refine I ?_;refine ac (oR (a:=(((gU (av 10 a) (av 10 b) k).1+(av 10 a).getD k 0+(av 10 b).getD k 0:Nat):Int)) (b:=10) (c:=(((gU (av 10 a) (av 10 b) (k+1)).1:Nat):Int)) Z Z U U cW kd8 ?_);refine I ?_;refine ac (bb (a:=(k:Int)) (b:=1) (c:=((k+1:Nat):Int)) Z Z cW U ?_);refine I ?_;exact c6 (hk:=by first|omega|(rcases q1 with h|⟨h,-⟩;omega;exfalso;have qr:=kf (X:=(av 10 a)) (Y:=(av 10 b)) (k:=(max n1 n2)) U U (dZ (jo a) (jo b) _);rw[show(max n1 n2)+1=k by omega]at qr;omega)) ⟨k+1,E7,rfl,rfl,rfl,rfl,(by rcases q1 with h|⟨h,-⟩ <;>first|(left;omega)|(right;refine⟨by omega,?_⟩;rw[show(max n1 n2)=k by omega];omega)|(exfalso;have qr:=kf (X:=(av 10 a)) (Y:=(av 10 b)) (k:=(max n1 n2)) U U (dZ (jo a) (jo b) _);rw[show(max n1 n2)+1=k by omega]at qr;omega)),O,(dT Ix Z (by rw[fF];rfl))⟩;by_cases hcr:0<(gU (av 10 a) (av 10 b) k).1;have Ap:(gU (av 10 a) (av 10 b) k).1<=1:=dZ (jo a) (jo b) k;have Aq:=jo a k;have Am:=jo b k;have Ad:n1<=k->(av 10 a).getD k 0=0:=λh=>dC U;have Af:n2<=k->(av 10 b).getD k 0=0:=λh=>dC U;refine I ?_;refine ac (di (v:=qn) Ab ?_);refine I ?_;refine ac (mc (a:=(((gU (av 10 a) (av 10 b) k).1:Nat):Int)) (b:=10) (c:=((((gU (av 10 a) (av 10 b) k).1+(av 10 a).getD k 0+(av 10 b).getD k 0)%10:Nat):Int)) Z Z U U U ?_);refine BS (λ_ ny _ F7=>?_);have ho:=aX ny ho;have O:=xt O ny;refine AP ho (aa4 F7) (λAx _ Ek Jx _=>?_);have O:=dQ ho U U O Jx;refine ac (bO (v:=Ax) Z ?_);refine I ?_;refine ac (oR (a:=(((gU (av 10 a) (av 10 b) k).1:Nat):Int)) (b:=10) (c:=(((gU (av 10 a) (av 10 b) (k+1)).1:Nat):Int)) Z Z U U cW kd8 ?_);refine I ?_;refine ac (bb (a:=(k:Int)) (b:=1) (c:=((k+1:Nat):Int)) Z Z cW U ?_);refine I ?_;exact c6 (hk:=by first|omega|(rcases q1 with h|⟨h,-⟩;omega;exfalso;have qr:=kf (X:=(av 10 a)) (Y:=(av 10 b)) (k:=(max n1 n2)) U U (dZ (jo a) (jo b) _);rw[show(max n1 n2)+1=k by omega]at qr;omega)) ⟨k+1,Ax,rfl,rfl,rfl,rfl,(by rcases q1 with h|⟨h,-⟩ <;>first|(left;omega)|(right;refine⟨by omega,?_⟩;rw[show(max n1 n2)=k by omega];omega)|(exfalso;have qr:=kf (X:=(av 10 a)) (Y:=(av 10 b)) (k:=(max n1 n2)) U U (dZ (jo a) (jo b) _);rw[show(max n1 n2)+1=k by omega]at qr;omega)),O,(dT Ek Z (by rw[fF];rfl))⟩
 have Ap:(gU (av 10 a) (av 10 b) k).1<=1:=dZ (jo a) (jo b) k;have Aq:=jo a k;have Am:=jo b k;have Ad:n1<=k->(av 10 a).getD k 0=0:=λh=>dC U;have Af:n2<=k->(av 10 b).getD k 0=0:=λh=>dC U;have F1:=NN h1.len h2.len (k:=k) U U U U;obtain⟨Ao,As,rfl,F3⟩:=rr ho F1;refine I ?_;exact ax (t:=4) (v:=.slice Ao k As) Z O ⟨Ao,k,As,rfl,F3⟩ Z
theorem lP (h1:Dg w lo1 A1 n1 c1 a)(s1:n1<=100000){b:Nat}(h2:Dg w lo2 A2 n2 c2 b)(s2:n2<=100000)(hle:b<=a):
 CL 143 #[.slice A1 n1 c1,.slice A2 n2 c2] w (aC w λv w'=>∃A n c,v=.slice A n c/\Dg w' w.heap.size A n c (a-b)):=by
 have Z8:=h1.len;have Z7:=h2.len;refine aE func143 rfl ?_;refine I ?_;have Kp:World.ownsRow w w.heap.size 3 1 (.slice none 0 0) 0 (ints []):=iO;have K2:=aa2 w;refine JT [(5,38)] (λW1 e W=>∃k:Nat,∃qn:Value,(n1-k=W1)/\(e 6=.int .i64 ((((jd (av 10 a) (av 10 b) k).1:Nat):Int)))/\(e 7=.int .i64 k)/\(e 5=qn)/\(k<=n1)/\(bF w W)/\(W.ownsRow w.heap.size 3 1 qn k (ints (jd (av 10 a) (av 10 b) k).2))) (n1-0) ⟨0,.slice none 0 0,rfl,rfl,rfl,rfl,(qa7 _),K2,Kp⟩ ?_;rintro _ _ _ ⟨k,qn,rfl,Z6,Z9,Ab,q1,O,ho⟩;have Z5:=bz O;by_cases hka:k<n1;by_cases hkb:k<n2;by_cases hng:(av 10 a).getD k 0<(jd (av 10 a) (av 10 b) k).1+(av 10 b).getD k 0;have Am:(jd (av 10 a) (av 10 b) k).1<=1:=gV _ _ k;have Ap:=jo a k;have Af:=jo b k;have Ad:n2<=k->(av 10 b).getD k 0=0:=λh=>dC U;have qr:(jd (av 10 a) (av 10 b) (k+1))=(1,(jd (av 10 a) (av 10 b) k).2++[(av 10 a).getD k 0+10-(jd (av 10 a) (av 10 b) k).1-(av 10 b).getD k 0]):=if_pos hng;refine I ?_;obtain⟨F6,Aw,S1,G4⟩:=((h1.row).ext O).cells k _ (bE (xs:=(av 10 a)) U);refine ac (ah (i:=(k)) (oo:=Aw+k) ju eP rfl S1 rfl U (by rw[Nat.mul_one]) ?_);refine ac (bP (v:=.int .i64 ((((av 10 a).getD k 0:Nat):Int))) (b:=F6) (o:=Aw+k) U3 rfl rfl G4 ?_)
 refine I ?_;refine vJ ?_;refine I ?_;obtain⟨T2,EW,F8,L2⟩:=((h2.row).ext O).cells k _ (bE (xs:=(av 10 b)) U);refine ac (ah (i:=(k)) (oo:=EW+k) ju eP rfl F8 rfl U (by rw[Nat.mul_one]) ?_);refine ac (bP (v:=.int .i64 ((((av 10 b).getD k 0:Nat):Int))) (b:=T2) (o:=EW+k) U3 rfl rfl L2 ?_);refine vJ ?_;refine I ?_;refine ac (bb (a:=((((av 10 a).getD k 0:Nat):Int)-(((jd (av 10 a) (av 10 b) k).1:Nat):Int))-(((av 10 b).getD k 0:Nat):Int)) (b:=10) (c:=(((av 10 a).getD k 0+10-(jd (av 10 a) (av 10 b) k).1-(av 10 b).getD k 0:Nat):Int)) rfl rfl cW U ?_);refine I ?_;refine ac (di (v:=qn) Ab ?_);refine I ?_;refine BS (λ_ Ay _ T3=>?_);have ho:=aX Ay ho;have O:=xt O Ay;refine AP ho (aa4 T3) (λwr _ R1 F4 _=>?_);have O:=dQ ho U U O F4;refine ac (bO (v:=wr) rfl ?_);refine I ?_;refine ac (bb (a:=(k:Int)) (b:=1) (c:=((k+1:Nat):Int)) rfl rfl cW U ?_);refine I ?_;exact c6 ⟨k+1,wr,rfl,(by rw[qr];rfl),rfl,rfl,U,O,(dT R1 rfl (by rw[fF,qr]))⟩;have Am:(jd (av 10 a) (av 10 b) k).1<=1:=gV _ _ k;have Ap:=jo a k;have Af:=jo b k;have Ad:n2<=k->(av 10 b).getD k 0=0:=λh=>dC U
 have qr:(jd (av 10 a) (av 10 b) (k+1))=(0,(jd (av 10 a) (av 10 b) k).2++[(av 10 a).getD k 0-(jd (av 10 a) (av 10 b) k).1-(av 10 b).getD k 0]):=if_neg hng;refine I ?_;obtain⟨Jx,EE,F1,Z1⟩:=((h1.row).ext O).cells k _ (bE (xs:=(av 10 a)) U);refine ac (ah (i:=(k)) (oo:=EE+k) ju eP rfl F1 rfl U (by rw[Nat.mul_one]) ?_);refine ac (bP (v:=.int .i64 ((((av 10 a).getD k 0:Nat):Int))) (b:=Jx) (o:=EE+k) U3 rfl rfl Z1 ?_);refine I ?_;refine vJ ?_;refine I ?_;obtain⟨F5,E0,W2,ny⟩:=((h2.row).ext O).cells k _ (bE (xs:=(av 10 b)) U);refine ac (ah (i:=(k)) (oo:=E0+k) ju eP rfl W2 rfl U (by rw[Nat.mul_one]) ?_);refine ac (bP (v:=.int .i64 ((((av 10 b).getD k 0:Nat):Int))) (b:=F5) (o:=E0+k) U3 rfl rfl ny ?_);refine ac (iT (a:=(((av 10 a).getD k 0:Nat):Int)-(((jd (av 10 a) (av 10 b) k).1:Nat):Int)) (b:=(((av 10 b).getD k 0:Nat):Int)) (c:=(((av 10 a).getD k 0-(jd (av 10 a) (av 10 b) k).1-(av 10 b).getD k 0:Nat):Int)) rfl rfl cW U ?_);refine I ?_;refine ac (di (v:=qn) Ab ?_);refine I ?_;refine BS (λ_ Aq _ Z3=>?_);have ho:=aX Aq ho;have O:=xt O Aq;refine AP ho (aa4 Z3) (λAr _ TT G3 _=>?_);have O:=dQ ho U U O G3;refine ac (bO (v:=Ar) rfl ?_);refine I ?_
 refine ac (bb (a:=(k:Int)) (b:=1) (c:=((k+1:Nat):Int)) rfl rfl cW U ?_);refine I ?_;exact c6 ⟨k+1,Ar,rfl,(by rw[qr];rfl),rfl,rfl,U,O,(dT TT rfl (by rw[fF,qr]))⟩;by_cases hng:(av 10 a).getD k 0<(jd (av 10 a) (av 10 b) k).1+(av 10 b).getD k 0;have Am:(jd (av 10 a) (av 10 b) k).1<=1:=gV _ _ k;have Ap:=jo a k;have Af:=jo b k;have Ad:n2<=k->(av 10 b).getD k 0=0:=λh=>dC U;have qr:(jd (av 10 a) (av 10 b) (k+1))=(1,(jd (av 10 a) (av 10 b) k).2++[(av 10 a).getD k 0+10-(jd (av 10 a) (av 10 b) k).1-(av 10 b).getD k 0]):=if_pos hng;refine I ?_;obtain⟨No,od,W0,Ix⟩:=((h1.row).ext O).cells k _ (bE (xs:=(av 10 a)) U);refine ac (ah (i:=(k)) (oo:=od+k) ju eP rfl W0 rfl U (by rw[Nat.mul_one]) ?_);refine ac (bP (v:=.int .i64 ((((av 10 a).getD k 0:Nat):Int))) (b:=No) (o:=od+k) U3 rfl rfl Ix ?_);refine I ?_;refine vJ ?_;refine I ?_;refine ac (bb (a:=(((av 10 a).getD k 0:Nat):Int)-(((jd (av 10 a) (av 10 b) k).1:Nat):Int)) (b:=10) (c:=(((av 10 a).getD k 0+10-(jd (av 10 a) (av 10 b) k).1-(av 10 b).getD k 0:Nat):Int)) rfl rfl cW U ?_)
 refine I ?_;refine ac (di (v:=qn) Ab ?_);refine I ?_;refine BS (λ_ E7 _ Ne=>?_);have ho:=aX E7 ho;have O:=xt O E7;refine AP ho (aa4 Ne) (λEP _ Wb N1 _=>?_);have O:=dQ ho U U O N1;refine ac (bO (v:=EP) rfl ?_);refine I ?_;refine ac (bb (a:=(k:Int)) (b:=1) (c:=((k+1:Nat):Int)) rfl rfl cW U ?_);refine I ?_;exact c6 ⟨k+1,EP,rfl,(by rw[qr];rfl),rfl,rfl,U,O,(dT Wb rfl (by rw[fF,qr]))⟩;have Am:(jd (av 10 a) (av 10 b) k).1<=1:=gV _ _ k;have Ap:=jo a k;have Af:=jo b k;have Ad:n2<=k->(av 10 b).getD k 0=0:=λh=>dC U;have qr:(jd (av 10 a) (av 10 b) (k+1))=(0,(jd (av 10 a) (av 10 b) k).2++[(av 10 a).getD k 0-(jd (av 10 a) (av 10 b) k).1-(av 10 b).getD k 0]):=if_neg hng;refine I ?_;obtain⟨X2,As,F2,Z0⟩:=((h1.row).ext O).cells k _ (bE (xs:=(av 10 a)) U);refine ac (ah (i:=(k)) (oo:=As+k) ju eP rfl F2 rfl U (by rw[Nat.mul_one]) ?_);refine ac (bP (v:=.int .i64 ((((av 10 a).getD k 0:Nat):Int))) (b:=X2) (o:=As+k) U3 rfl rfl Z0 ?_);refine I ?_;refine ac (iT (a:=(((av 10 a).getD k 0:Nat):Int)) (b:=(((jd (av 10 a) (av 10 b) k).1:Nat):Int)) (c:=(((av 10 a).getD k 0-(jd (av 10 a) (av 10 b) k).1-(av 10 b).getD k 0:Nat):Int)) rfl rfl cW U ?_)
 refine I ?_;refine ac (di (v:=qn) Ab ?_);refine I ?_;refine BS (λ_ Ax _ Z2=>?_);have ho:=aX Ax ho;have O:=xt O Ax;refine AP ho (aa4 Z2) (λE9 _ Wa F7 _=>?_);have O:=dQ ho U U O F7;refine ac (bO (v:=E9) rfl ?_);refine I ?_;refine ac (bb (a:=(k:Int)) (b:=1) (c:=((k+1:Nat):Int)) rfl rfl cW U ?_);refine I ?_;exact c6 ⟨k+1,E9,rfl,(by rw[qr];rfl),rfl,rfl,U,O,(dT Wa rfl (by rw[fF,qr]))⟩;have T4:k=n1:=by omega
 obtain⟨Ao,E4,rfl,F3,-⟩:=eT ho;refine I ?_;refine clb we (hc:=jE (aa4 ho) (nk _ _ _) F3 U) (hk:=?_);rintro _ _ Av ⟨E1,rfl,Ek,W3⟩;have ho:=aX Av.2 ho;have O:=xt O Av.2;refine I ?_;exact ax (t:=4) (v:=.slice Ao E1 E4) rfl O ⟨Ao,E1,E4,rfl,Dg.trim (aa4 ho) (CJ (jo a) (jo b) k) (by rw[T4];exact NO h1.len h2.len hle) Ek (by rw[nk];exact W3) U⟩ rfl
def oJ (h1:Dg w lo1 A1 n1 c1 a)(s1:n1<=100000){b:Nat}(h2:Dg w lo2 A2 n2 c2 b)(s2:n2<=100000):
 CL 180 #[.slice A1 n1 c1,.slice A2 n2 c2] w (aC w λv w'=>∃A n c,v=.slice A n c/\Dg w' w.heap.size A n c (a*b)):=by
 have K2:=h1.len;have Jx:=h2.len;refine aE func180 Z (I ?_);refine ac (bb (a:=(n1:Int)) (b:=(n2:Int)) (c:=(((n1+n2):Nat):Int)) Z Z cW U ?_);refine ac (tD (m:=(n1+n2)) ju mf Z Z U DQ (λ_ EW _ Ap=>?_));have F5:=EW;have hq:=sN Ap;rw[oI]at hq;clear Ap;refine I ?_;refine JT [(6,9),(16,63)] (λAf e W=>∃i:Nat,∃L:List Nat,(n1-i=Af)/\(e 6=.int .i64 i)/\(i<=n1)/\(AJ (av 10 a) (av 10 b) i (n1+n2) 0 0 L)/\(bF w W)/\(au W w.heap.size 3 (ints L).toArray)) (n1-0) ⟨0,(List.replicate (n1+n2) 0),rfl,rfl,(qa7 _),(AJ.start _ _ _),F5,hq⟩ ?_;rintro _ _ _ ⟨i,L,rfl,Kp,N1,qr,qn,hq⟩;by_cases hi:i<n1;refine I ?_;refine JT [(7,9),(22,63)] (λAf e W=>∃k:Nat,∃c:Nat,∃L2:List Nat,((n1+n2)-(i+k)=Af)/\(e 7=.int .i64 c)/\(e 8=.int .i64 k)/\(AJ (av 10 a) (av 10 b) i (n1+n2) k c L2)/\(bF w W)/\(au W w.heap.size 3 (ints L2).toArray)) ((n1+n2)-(i+0)) ⟨0,0,L,rfl,rfl,rfl,qr,qn,hq⟩ ?_;rintro _ _ _ ⟨k,c,L2,rfl,Ne,No,q1,O,hq⟩;by_cases hkb:k<n2;have hroom:=q1.room (dH 10 U a) (dH 10 U b) h1.len h2.len hi U;have F4:=q1.len;have Ay:=q1.c9;have E1:=gW q1.lt (i+k);have G3:=jo a i;have EP:=jo b k;have F8:(av 10 a).getD i 0*(av 10 b).getD k 0<=9*9:=qb7 U U
 have Aq:((((av 10 a).getD i 0:Nat):Int)*(((av 10 b).getD k 0:Nat):Int))=(((av 10 a).getD i 0*(av 10 b).getD k 0:Nat):Int):=by rw[Int.natCast_mul]
 refine I ?_;refine ac (bb (a:=(i:Int)) (b:=(k:Int)) (c:=((i+k:Nat):Int)) Z Z cW U ?_);refine ac (ah (A:=some ⟨w.heap.size,0,none⟩) (bk:=w.heap.size) (o:=0) (m:=(n1+n2)) (c:=(n1+n2)) (i:=i+k) (oo:=i+k) ju eP Z Z (db Z U) U U ?_);refine ac (bP (v:=.int .i64 ((L2.getD (i+k) 0:Nat):Int)) U3 Z Z (aa9 hq (by rw[List.getElem?_toArray];exact bE U)) ?_);refine I ?_;refine ac (bb (a:=((L2.getD (i+k) 0:Nat):Int)) (b:=(c:Int)) (c:=((L2.getD (i+k) 0+c:Nat):Int)) Z Z cW Z ?_);refine I ?_;obtain⟨F1,Ar,F7,Ab⟩:=((h1.row).ext O).cells i _ (bE (xs:=(av 10 a)) U);obtain⟨wr,As,Ek,Ad⟩:=((h2.row).ext O).cells k _ (bE (xs:=(av 10 b)) U);refine bY 10 ?_;refine sf ?_;refine bl (λ_ _ _ _=>by refine ac (ah (i:=i) (oo:=Ar+i) ju eP Z F7 (db Z U) U BT ?_);refine I ?_;exact cz) ?_;refine bl (λ_ _ E0 _=>by have Ab:=ab6 E0 Ab;refine ac (bP (v:=.int .i64 (((av 10 a).getD i 0:Nat):Int)) (b:=F1) (o:=Ar+i) U3 Z Z Ab ?_);refine I ?_;exact cz) ?_;refine sf ?_;refine bl (λ_ _ _ _=>by refine ac (ah (i:=k) (oo:=As+k) ju eP Z Ek (db Z U) U BT ?_);refine I ?_;exact cz) ?_
 refine bl (λ_ _ F6 _=>by have Ad:=ab6 F6 Ad;refine ac (bP (v:=.int .i64 (((av 10 b).getD k 0:Nat):Int)) (b:=wr) (o:=As+k) U3 Z Z Ad ?_);refine I ?_;exact cz) ?_;refine bl (λ_ _ _ _=>by refine ac (l9 (a:=(((av 10 a).getD i 0:Nat):Int)) (b:=(((av 10 b).getD k 0:Nat):Int)) (c:=(((av 10 a).getD i 0*(av 10 b).getD k 0:Nat):Int)) Z Z cW Aq ?_);refine I ?_;exact cz) ?_;refine sf ?_;intro _ _ G4 _;have⟨hq,O⟩:=bD G4.2 hq O;refine ac (bb (a:=((L2.getD (i+k) 0+c:Nat):Int)) (b:=(((av 10 a).getD i 0*(av 10 b).getD k 0:Nat):Int)) (c:=(((L2.getD (i+k) 0+c+(av 10 a).getD i 0*(av 10 b).getD k 0):Nat):Int)) Z Z cW Z ?_);refine I ?_;refine ac (bb (a:=(i:Int)) (b:=(k:Int)) (c:=((i+k:Nat):Int)) Z Z cW U ?_);refine I ?_;refine ac (mc (a:=(((L2.getD (i+k) 0+c+(av 10 a).getD i 0*(av 10 b).getD k 0):Nat):Int)) (b:=10) (c:=(((L2.getD (i+k) 0+c+(av 10 a).getD i 0*(av 10 b).getD k 0)%10:Nat):Int)) Z Z U U (by rw[Int.natCast_emod];rfl) ?_);refine ac (ah (A:=some ⟨w.heap.size,0,none⟩) (bk:=w.heap.size) (o:=0) (m:=(n1+n2)) (c:=(n1+n2)) (i:=i+k) (oo:=i+k) ju eP Z Z (db Z U) U U ?_)
 refine ac (eG (b:=w.heap.size) (o:=i+k) (v:=.int .i64 (((L2.getD (i+k) 0+c+(av 10 a).getD i 0*(av 10 b).getD k 0)%10:Nat):Int)) eP Z Z Z hq (by rw[List.size_toArray,eo];omega) (λ_ E4 Am=>?_));have O:=bB E4 O;have hq:=Am;rw[ints_set]at hq;refine I ?_;refine ac (oR (a:=(((L2.getD (i+k) 0+c+(av 10 a).getD i 0*(av 10 b).getD k 0):Nat):Int)) (b:=10) (c:=(((L2.getD (i+k) 0+c+(av 10 a).getD i 0*(av 10 b).getD k 0)/10:Nat):Int)) Z Z U U cW (by rw[Int.natCast_ediv];rfl) ?_);refine I ?_;refine ac (bb (a:=(k:Int)) (b:=1) (c:=((k+1:Nat):Int)) Z Z cW U ?_);refine I ?_;exact c6 ⟨k+1,(L2.getD (i+k) 0+c+(av 10 a).getD i 0*(av 10 b).getD k 0)/10,(L2.set (i+k) ((L2.getD (i+k) 0+c+(av 10 a).getD i 0*(av 10 b).getD k 0)%10)),rfl,rfl,rfl,(q1.step (dH 10 U a) (dH 10 U b) hroom),O,hq⟩;by_cases hcr:0<c;have hroom:=q1.room (dH 10 U a) (dH 10 U b) h1.len h2.len hi U;have F4:=q1.len;have Ay:=q1.c9;have E1:=gW q1.lt (i+k);have G3:=jo a i;have EP:=jo b k;have F8:(av 10 a).getD i 0*(av 10 b).getD k 0<=9*9:=qb7 U U;have Aq:((((av 10 a).getD i 0:Nat):Int)*(((av 10 b).getD k 0:Nat):Int))=(((av 10 a).getD i 0*(av 10 b).getD k 0:Nat):Int):=by rw[Int.natCast_mul]
 have F2:(L2.getD (i+k) 0+c+(av 10 a).getD i 0*(av 10 b).getD k 0)=L2.getD (i+k) 0+c:=q1.rem h2.len (dH 10 U a) (dH 10 U b) U;refine I ?_;refine ac (bb (a:=(i:Int)) (b:=(k:Int)) (c:=((i+k:Nat):Int)) Z Z cW U ?_);refine ac (ah (A:=some ⟨w.heap.size,0,none⟩) (bk:=w.heap.size) (o:=0) (m:=(n1+n2)) (c:=(n1+n2)) (i:=i+k) (oo:=i+k) ju eP Z Z (db Z U) U U ?_);refine ac (bP (v:=.int .i64 ((L2.getD (i+k) 0:Nat):Int)) U3 Z Z (aa9 hq (by rw[List.getElem?_toArray];exact bE U)) ?_);refine I ?_;refine ac (bb (a:=((L2.getD (i+k) 0:Nat):Int)) (b:=(c:Int)) (c:=(((L2.getD (i+k) 0+c+(av 10 a).getD i 0*(av 10 b).getD k 0):Nat):Int)) Z Z cW (by rw[F2];rfl) ?_);refine I ?_;refine ac (bb (a:=(i:Int)) (b:=(k:Int)) (c:=((i+k:Nat):Int)) Z Z cW U ?_);refine I ?_;refine ac (mc (a:=(((L2.getD (i+k) 0+c+(av 10 a).getD i 0*(av 10 b).getD k 0):Nat):Int)) (b:=10) (c:=(((L2.getD (i+k) 0+c+(av 10 a).getD i 0*(av 10 b).getD k 0)%10:Nat):Int)) Z Z U U (by rw[Int.natCast_emod];rfl) ?_);refine ac (ah (A:=some ⟨w.heap.size,0,none⟩) (bk:=w.heap.size) (o:=0) (m:=(n1+n2)) (c:=(n1+n2)) (i:=i+k) (oo:=i+k) ju eP Z Z (db Z U) U U ?_)
 refine ac (eG (b:=w.heap.size) (o:=i+k) (v:=.int .i64 (((L2.getD (i+k) 0+c+(av 10 a).getD i 0*(av 10 b).getD k 0)%10:Nat):Int)) eP Z Z Z hq (by rw[List.size_toArray,eo];omega) (λ_ Ix Am=>?_));have O:=bB Ix O;have hq:=Am;rw[ints_set]at hq;refine I ?_;refine ac (oR (a:=(((L2.getD (i+k) 0+c+(av 10 a).getD i 0*(av 10 b).getD k 0):Nat):Int)) (b:=10) (c:=(((L2.getD (i+k) 0+c+(av 10 a).getD i 0*(av 10 b).getD k 0)/10:Nat):Int)) Z Z U U cW (by rw[Int.natCast_ediv];rfl) ?_);refine I ?_;refine ac (bb (a:=(k:Int)) (b:=1) (c:=((k+1:Nat):Int)) Z Z cW U ?_);refine I ?_;exact c6 ⟨k+1,(L2.getD (i+k) 0+c+(av 10 a).getD i 0*(av 10 b).getD k 0)/10,(L2.set (i+k) ((L2.getD (i+k) 0+c+(av 10 a).getD i 0*(av 10 b).getD k 0)%10)),rfl,rfl,rfl,(q1.step (dH 10 U a) (dH 10 U b) hroom),O,hq⟩;have E9:c=0:=J
 have Aw:=q1;rw[E9]at Aw;have q2:=Aw.done h2.len U;refine I ?_;refine ac (bb (a:=(i:Int)) (b:=1) (c:=((i+1:Nat):Int)) Z Z cW U ?_);refine I ?_;exact c6 ⟨i+1,L2,rfl,rfl,U,q2,O,hq⟩;have F3:i=n1:=J
 have hl:=qr.len;refine I ?_;have E7:=ab5 hq (qa0 _);refine clb we (hc:=jE E7 hl (qa0 _) U) (hk:=?_);rintro _ _ EE ⟨Ao,rfl,Ax,Av⟩;have⟨hq,qn⟩:=bD EE.2 hq qn;refine I ?_;exact ax (t:=4) (v:=.slice (some ⟨w.heap.size,0,none⟩) Ao (n1+n2)) Z qn ⟨_,Ao,_,rfl,(Dg.trim (ab5 hq (qa0 _)) qr.lt (by rw[F3]at qr;exact(qr.fin h1.len).trans (by rw[h1.val,h2.val])) Ax (by rw[hl];exact Av) Av).mono U⟩ Z
def AL (h1:Dg w lo1 A1 n1 c1 a)(s1:n1<=90000){b:Nat}(h2:Dg w lo2 A2 n2 c2 b)(s2:n2<=90000)(hb0:0<b):
 CL 140 #[.slice A1 n1 c1,.slice A2 n2 c2] w (aC w λv w'=>∃A n c B m d,v=.tuple #[.slice A n c,.slice B m d]/\Dg w' w.heap.size A n c (a/b)/\Dg w' w.heap.size B m d (a%b)):=by
 have Z9:=h1.len;have Z7:=h2.len;refine aE func140 Z (I ?_);refine ac (tD (m:=n1) ju mf Z Z U DQ (λL2 T4 _ F1=>?_));have W3:=T4;have hq:=sN F1;rw[oI]at hq;clear F1;refine I ?_;refine vJ (I ?_);rw[<-AK]at hq;have W0:Dg L2 (w.heap.size+1) none 0 0 0:=Dg.zero _ _;refine JT [(7,8),(15,39)] (λEE e W=>∃i:Nat,∃T:List Nat,∃Ar:Option Addr,∃Ap:Nat,∃Ax:Nat,∃r:Nat,(i=EE)/\(e 8=.int .i64 ((i:Int)-1))/\(e 7=.slice Ar Ap Ax)/\(i<=n1)/\(LZ (av 10 a) b i r T)/\(bF w W)/\(au W w.heap.size 3 (ints (QL i T)).toArray)/\(Dg W (w.heap.size+1) Ar Ap Ax r)) (n1) ⟨n1,[],none,0,0,0,rfl,(qb1 (Value.int .i64) U),rfl,(qa0 _),(by rw[<-h1.len];exact LZ.start hb0),W3,hq,W0⟩ ?_;rintro _ _ ny ⟨i,T,Ar,Ap,Ax,r,rfl,ZA,od,Z3,Ab,qr,hq,hr⟩;by_cases hi:0<i;have E9:=bt hq;have F8:=hr.hi;have E4:=jo a (i-1);have G4:=Ab.rlt;have W2:=Ab.len;have Z2:Ap<=n2+1:=Ka hr.len h2.len U;refine I ?_;obtain⟨No,F4,wr,Ne⟩:=((h1.row).ext qr).cells (i-1) _ (bE (xs:=(av 10 a)) U);refine ac (ah (i:=i-1) (oo:=F4+(i-1)) ju eP Z wr (db Z U) U BT ?_);refine ac (bP (v:=.int .i64 (((av 10 a).getD (i-1) 0:Nat):Int)) (b:=No) (o:=F4+(i-1)) U3 Z Z Ne ?_)
 refine BS (λ_ Aq _ F3=>?_);have hq:=be Aq hq;have hr:=ab2 Aq hr;have qr:=xt qr Aq;have ZB:=bz Aq;refine I ?_;refine ac (me (v:=.slice (some ⟨ny.heap.size,0,none⟩) (1) (1)) (k:=1) ju mf Z dc Z F3 Z hr.row (by rw[eo,hr.len];omega) o5 DQ U U (λ_ K2 Ix Ay _=>?_));have hq:=aa0 Ay CA hq;have hr:=Dg.gr Ay (λKp e=>by have:=F8 Kp e;simp[Value.ownBlock];omega) hr;have qr:=cI qr Ay (bz qr) (λg Z0=>by have:=(F3.lt g Z0).1;omega);obtain⟨Aw,F2,rfl,Jx,Z6,-,-⟩:=eT Ix;have hs:Rw K2 ny.heap.size Aw (ints (((av 10 a).getD (i-1) 0)::av 10 r)):=aa4 Ix;refine clb we (hc:=jE hs (by rw[List.length_cons,hr.len];omega) Jx U) (hk:=?_);rintro _ T2 As ⟨E7,rfl,Af,F7⟩;have hq:=be As.2 hq;have hr:=ab2 As.2 hr;have qr:=xt qr As.2;rw[Sv _ _ E4]at Af;have Wa:Dg T2 (w.heap.size+1) Aw E7 F2 (r*10+((av 10 a).getD (i-1) 0)):=by
  refine⟨?_,?_,by omega⟩
  rw[Af];have:=((hs.ext As.2).take E7).mono (lo':=w.heap.size+1) U;simpa[ints,List.map_take]using this;rw[Af,List.length_take,List.length_cons,hr.len];omega
 rw[EK T hi]at hq;refine I ?_;refine JT [(7,7),(27,39)] (λEE e W=>∃c:Nat,∃Ar2:Option Addr,∃Ad:Nat,∃Av:Nat,∃r2:Nat,(r2=EE)/\(e 7=.slice Ar2 Ad Av)/\(c*b+r2=(r*10+((av 10 a).getD (i-1) 0)))/\(bF w W)/\(au W w.heap.size 3 (ints (QL (i-1) (c::T))).toArray)/\(Dg W (w.heap.size+1) Ar2 Ad Av r2)) (r*10+((av 10 a).getD (i-1) 0)) ⟨0,Aw,E7,F2,(r*10+((av 10 a).getD (i-1) 0)),rfl,rfl,U,qr,hq,Wa⟩ ?_;rintro _ _ _ ⟨c,Ar2,Ad,Av,r2,rfl,X2,E1,O,hq,qn⟩;by_cases hge:b<=r2;have E9:=bt hq;have hcR:r2<=(r*10+((av 10 a).getD (i-1) 0)):=by have:=qa7 (c*b);omega
 have N1:Ad<=n2+1:=Ka qn.len h2.len U;have S1:c<10:=Kb E1 G4 E4;refine I ?_;refine clb tM (hc:=gT qn U (h2.ext O) U) (hk:=?_);rintro _ _ E0 rfl;have hq:=be E0.2 hq;have qn:=ab2 E0.2 qn;have O:=xt O E0.2;have Z5:=NP hge;refine I ?_;refine clb Dx (hc:=lP qn U (h2.ext O) U hge) (hk:=?_);rintro _ _ Z1 ⟨Am,W1,R1,rfl,Ao⟩;have⟨hq,O⟩:=bD Z1.2 hq O;have Ao:=Ao.mono (lo':=w.heap.size+1) U;refine I ?_;refine ac (ah (A:=some ⟨w.heap.size,0,none⟩) (bk:=w.heap.size) (o:=0) (m:=n1) (c:=n1) (i:=i-1) (oo:=i-1) ju eP Z Z (db Z U) U U ?_);refine ac (bP (v:=.int .i64 (((QL (i-1) (c::T)).getD (i-1) 0:Nat):Int)) U3 Z Z (aa9 hq (by rw[List.getElem?_toArray];exact bE DP)) ?_);rw[vi];refine ac (bb (a:=(c:Int)) (b:=1) (c:=((c+1:Nat):Int)) Z Z cW U ?_);refine ac (ah (A:=some ⟨w.heap.size,0,none⟩) (bk:=w.heap.size) (o:=0) (m:=n1) (c:=n1) (i:=i-1) (oo:=i-1) ju eP Z Z (db Z U) U U ?_);refine ac (eG (b:=w.heap.size) (o:=i-1) (v:=.int .i64 ((c+1:Nat):Int)) eP Z Z Z hq ka1 (λ_ F6 T3=>?_));have Ao:=Dg.put F6 U Ao;have O:=bB F6 O;have hq:=T3;rw[ints_set]at hq
 refine I ?_;exact c6 ⟨c+1,Am,W1,R1,r2-b,rfl,rfl,(by rw[Nat.add_mul];omega),O,(by rw[CK]at hq;exact hq),Ao⟩;have E9:=bt hq;have hcR:r2<=(r*10+((av 10 a).getD (i-1) 0)):=by have:=qa7 (c*b);omega
 have N1:Ad<=n2+1:=Ka qn.len h2.len U;have S1:c<10:=Kb E1 G4 E4;refine I ?_;refine clb tM (hc:=gT qn U (h2.ext O) U) (hk:=?_);rintro _ _ EP rfl;have hq:=be EP.2 hq;have qn:=ab2 EP.2 qn;have O:=xt O EP.2;have Z8:=NQ hge;refine I ?_;refine ac (iT (a:=(i:Int)-1) (b:=1) (c:=((i-1:Nat):Int)-1) Z Z cW U ?_);refine I ?_;exact c6 ⟨i-1,c::T,Ar2,Ad,Av,r2,rfl,rfl,X2,U,(LZ.step (dH 10 U a) (by rw[show i-1+1=i by omega];exact Ab) E1 U),O,hq,qn⟩;have E9:=bt hq;have Wb:i=0:=J
 rw[Wb]at Ab hq;have W2:=Ab.len;obtain⟨G3,Ek⟩:=Ab.fin hb0;rw[h1.val]at G3 Ek;have F8:=hr.hi;refine I ?_;have TT:=ab5 hq (qa0 _);refine clb we (hc:=jE TT (by rw[gt];omega) (qa0 _) U) (hk:=?_);rintro _ _ EW ⟨F5,rfl,Af,F7⟩;have hq:=be EW.2 hq;have hr:=ab2 EW.2 hr;have qr:=xt qr EW.2;refine I ?_;exact bN (t:=4) (u:=5) (v1:=.slice (some ⟨w.heap.size,0,none⟩) F5 n1) (v2:=.slice Ar Ap Ax) Z qr ⟨_,F5,_,_,_,_,rfl,(Dg.trim (ab5 hq (qa0 _)) (by rw[show QL 0 T=T from rfl];exact Ab.lt) (by rw[show QL 0 T=T from rfl];exact G3) Af (by rw[gt];omega) F7).mono U,by rw[<-Ek];exact hr.mono U⟩ Z Z
def dm {p:Prop}(h:p:=by assumption):p:=h
def gu {n k:Nat}(h:Dg w lo A n c a)(hl:a<10^k):n<=k:=by rw[<-h.len];exact(aW 10 U a k).2 hl
def iA (h:isInt l=true):aN (body l)<10^200:=sR (eF h)
def Gc {a b:List UInt8}(h:isInt a=false):(isInt a&&isInt b)=false:=by rw[h];rfl
def Gd {a b:List UInt8}(h:isInt b=false):(isInt a&&isInt b)=false:=by rw[h];simp
def gY {a b:List UInt8}(ha:isInt a=true)(hb:isInt b=true):(isInt a&&isInt b)=true:=by rw[ha,hb];rfl
def wO :fits (cK ng a)=vW a:=by
 unfold vW
 by_cases h:a=0
 · subst h;cases ng <;>decide +kernel
 · rw[pi ng U,decide_eq_false h,Bool.false_or]
   unfold bQ;rw[if_neg h,dr]
def rt :ae (cK ng a)=sC ng a:=by
 unfold sC
 by_cases h:a=0
 · subst h;cases ng <;>rfl
 · rw[qX ng U,if_neg h]
def Px (h:vW a=false):Value.tuple #[S [],.int .i64 30]=gj (bw (cK ng a)):=by
 unfold bw;rw[wO,h];rfl
def Py (h:vW a=true):Value.tuple #[S (sC ng a),.int .i64 0]=gj (bw (cK ng a)):=by
 unfold bw;rw[wO,h,rt];rfl
def Sw (h:Rw w lo A [Value.int .i64 1]):Dg w lo A 1 1 1:=by
 have e:av 10 1=[1]:=by decide
 exact⟨by rw[e];exact h,by rw[e];rfl,qa0 _⟩
def yK {r:Nat}(h:r<10^200):sC false r=rS (bw (cK false r)):=by
 have hf:fits (cK false r)=true:=by unfold fits;rw[iH];exact qa1 h
 rw[pp hf,rt]
def VZ {b:Nat}(ha:a<10^200)(hb:b<10^200):a+b<10^201:=by
 have:(10:Nat)^201=10^200*10:=by rw[<-Nat.pow_succ]
 generalize (10:Nat)^200=M at *
 omega
def Sx {b y z:Nat}(ha:a<10^x)(hb:b<10^y)(h:z=x+y):a*b<10^z:=by
 subst h;rw[Nat.pow_add];exact Nat.mul_lt_mul'' ha hb
def V0 {b:Nat}(ha:a<10^200)(hb:b<10^200):a*b<10^400:=Sx (x:=200) (y:=200) (z:=400) ha hb Z
def Kc {a b:List UInt8}(h:(isInt a&&isInt b)=true)(he:(neg a==neg b)=true)(ha:neg a=true):aG ((aN (body b):Nat):Int) ((aN (body a):Nat):Int)=gG a b:=
 uB h ha (by have:neg a=neg b:=by simpa using he
             rw[<-this];exact ha)
def Kd {a b:List UInt8}(h:(isInt a&&isInt b)=true)(he:(neg a==neg b)=true)(ha:neg a=false):aG ((aN (body a):Nat):Int) ((aN (body b):Nat):Int)=gG a b:=
 uE h ha (by have:neg a=neg b:=by simpa using he
             rw[<-this];exact ha)
def Ke {a b:List UInt8}(h:(isInt a&&isInt b)=true)(he:(neg a==neg b)=false)(ha:neg a=true):(-1:Int)=gG a b:=
 uC h ha (by rw[ha]at he;simpa using he)
def Kf {a b:List UInt8}(h:(isInt a&&isInt b)=true)(he:(neg a==neg b)=false)(ha:neg a=false):(1:Int)=gG a b:=
 uD h ha (by rw[ha]at he;simpa using he)
def AM (ng:Bool)(x:Nat):Int.tmod (cK ng x) 10=cK ng (x%10):=by
 cases ng
 · show Int.tmod (x:Int) 10=((x%10:Nat):Int)
   rw[Int.tmod_eq_emod_of_nonneg U];omega
 · show Int.tmod (-(x:Int)) 10=-((x%10:Nat):Int)
   rw[Int.neg_tmod,Int.tmod_eq_emod_of_nonneg U];omega
def AN (ng:Bool)(x:Nat):Int.tdiv (cK ng x) 10=cK ng (x/10):=by
 cases ng
 · show Int.tdiv (x:Int) 10=((x/10:Nat):Int)
   rw[Int.tdiv_eq_ediv_of_nonneg U];omega
 · show Int.tdiv (-(x:Int)) 10=-((x/10:Nat):Int)
   rw[Int.neg_tdiv,Int.tdiv_eq_ediv_of_nonneg U];omega
def Sy {a b:List UInt8}(h:b=[48]):Vc a b=none:=mK (by subst h;exact qS)
def NR {b:List UInt8}(h:isInt b=true)(h0:¬b=[48]):0<aN (body b):=by
 rcases Nat.eq_zero_or_pos (aN (body b))with h1|h1
 · exact absurd ((ii h).1 (by have:=e9 b;omega)) h0
 · exact h1
def ir (h1:Dg w lo1 A1 n1 c1 a)(s1:n1<=100000)(ng:Bool):
 CL 141 #[.bool ng,.slice A1 n1 c1] w (aC w λv w'=>v=gj (bw (cK ng a))):=by
 refine aE func141 Z (I ?_);refine clb Hb (hc:=ll h1 U ng) (hk:=?_);rintro _ _ qr rfl;have O:=qr.2;refine I ?_;rcases qa4 (vW a)with cf|cf;refine I ?_;exact bN (t:=4) (u:=5) (v1:=S (sC ng a)) (v2:=.int .i64 0) Z O (by first|exact Px dm|exact Py dm) Z Z;refine I ?_;exact bN (t:=4) (u:=5) (v1:=S []) (v2:=.int .i64 30) Z O (by first|exact Px dm|exact Py dm) Z Z
def AO (h1:Dg w lo1 A1 n1 c1 a)(s1:n1<=50000){b:Nat}(h2:Dg w lo2 A2 n2 c2 b)(s2:n2<=50000)(nx ny:Bool):
 CL 139 #[.bool nx,.slice A1 n1 c1,.bool ny,.slice A2 n2 c2] w (aC w λv w'=>v=gj (bw (cK nx a+cK ny b))):=by
 have E0:=h1.len;have Ay:=h2.len;refine aE func139 Z (I ?_);refine ac (G0 (a:=nx) (b:=ny) (q:=(nx==ny)) U4 Z Z Z ?_);refine I ?_;rcases qa4 (nx==ny)with p6|p6;refine I ?_;refine clb OM (hc:=wN h1 U h2 U) (hk:=?_);rintro _ _ As ⟨E4,Ao,E9,rfl,W⟩;have wr:=As.2;have W:=W.mono (lo':=w.heap.size) U;have Af:Ao<=50001:=by rw[<-W.len];exact D7 U _ _ 50000 U U
 refine I ?_;refine clb xp (hc:=ir W U nx) (hk:=?_);rintro _ _ Aw rfl;have wr:=xt wr Aw.2;refine I ?_;exact bN (t:=8) (u:=9) (v1:=S (rS (bw (cK nx (a+b))))) (v2:=.int .i64 (rE (bw (cK nx (a+b))))) Z wr (qb1 (λx=>gj (bw x)) ka8) Z Z;refine I ?_;refine clb tM (hc:=gT h1 U h2 U) (hk:=?_);rintro _ _ Ad rfl;have h1:=ab2 Ad.2 h1;have h2:=ab2 Ad.2 h2;have O:=Ad.2;refine I ?_;by_cases mq:0<=(aG (a:Int) (b:Int));have qr:=D9 mq;refine I ?_;refine clb Dx (hc:=lP h1 U h2 U qr) (hk:=?_);rintro _ _ Ar ⟨E1,Av,Ax,rfl,qn⟩;have O:=xt O Ar.2;have qn:=qn.mono (lo':=w.heap.size) U;have Af:Av<=50001:=by rw[<-qn.len];exact qa8 (eV U (Nat.sub_le _ _)) U
 refine I ?_;refine clb xp (hc:=ir qn U nx) (hk:=?_);rintro _ _ Am rfl;have O:=xt O Am.2;refine I ?_;exact bN (t:=8) (u:=9) (v1:=S (rS (bw (cK nx (a-b))))) (v2:=.int .i64 (rE (bw (cK nx (a-b))))) Z O (qb1 (λx=>gj (bw x)) ka8) Z Z;have qr:=zI mq;refine I ?_;refine clb Dx (hc:=lP h2 U h1 U qr) (hk:=?_);rintro _ _ Ap ⟨E7,od,EE,rfl,Ab⟩;have O:=xt O Ap.2;have Ab:=Ab.mono (lo':=w.heap.size) U;have Af:od<=50001:=by rw[<-Ab.len];exact qa8 (eV U (Nat.sub_le _ _)) U
 refine I ?_;refine clb xp (hc:=ir Ab U ny) (hk:=?_);rintro _ _ Aq rfl;have O:=xt O Aq.2;refine I ?_;exact bN (t:=8) (u:=9) (v1:=S (rS (bw (cK ny (b-a))))) (v2:=.int .i64 (rE (bw (cK ny (b-a))))) Z O (qb1 (λx=>gj (bw x)) ka8) Z Z
def vj (a b:List UInt8)(w:World)(sa:a.length<=1000000)(sb:b.length<=1000000):
 CL 91 #[S a,S b] w (aC w λv w'=>v=gj (ku a b)):=by
 refine aE func91 Z (I ?_);rcases qa4 (isInt a)with cf|cf;refine I ?_;refine clb jh (hc:=bX a _ U) (hk:=?_);rintro _ _ Af rfl;have O:=Af.2;refine I ?_;refine clb jh (hc:=bX b _ U) (hk:=?_);rintro _ _ Ao rfl;have O:=xt O Ao.2;refine I ?_;rcases qa4 (isInt b)with fx|fx;refine I ?_;refine cl qG (dA _ _ cf) ?_;rintro _ _ wr ⟨Ax,Aw,Av,rfl,qr⟩;have O:=xt O wr.2;have qr:=qr.mono (lo':=w.heap.size) U;have Ar:=gu qr (iA cf);refine I ?_;refine cl qG (dA _ _ fx) ?_;rintro _ _ qn ⟨Ap,od,Aq,rfl,W⟩;have qr:=ab2 qn.2 qr;have O:=xt O qn.2;have W:=W.mono (lo':=w.heap.size) U;have As:=gu W (iA fx);refine I ?_;refine clb OK (hc:=AO qr U W U (neg a) (neg b)) (hk:=?_);rintro _ _ Ab rfl;have O:=xt O Ab.2;refine I ?_;exact bN (t:=4) (u:=5) (v1:=S (rS (bw (cK (neg a) (aN (body a))+cK (neg b) (aN (body b)))))) (v2:=.int .i64 (rE (bw (cK (neg a) (aN (body a))+cK (neg b) (aN (body b)))))) Z O (by rw[pm (gY cf fx)];rfl) Z Z;refine I ?_;exact bN (t:=4) (u:=5) (v1:=S []) (v2:=.int .i64 30) Z O (by rw[xW (Gd fx)];rfl) Z Z;refine I ?_;refine clb jh (hc:=bX a _ U) (hk:=?_)
 rintro _ _ Ad rfl;have Am:=Ad.2;refine I ?_;exact bN (t:=4) (u:=5) (v1:=S []) (v2:=.int .i64 30) Z Am (by rw[xW (Gc cf)];rfl) Z Z
def pP (a b:List UInt8)(w:World)(sa:a.length<=1000000)(sb:b.length<=1000000):
 CL 86 #[S a,S b] w (aC w λv w'=>v=gj (bi a b)):=by
 refine aE func86 Z (I ?_);rcases qa4 (isInt a)with cf|cf;refine I ?_;refine clb jh (hc:=bX a _ U) (hk:=?_);rintro _ _ Af rfl;have O:=Af.2;refine I ?_;refine clb jh (hc:=bX b _ U) (hk:=?_);rintro _ _ Ao rfl;have O:=xt O Ao.2;refine I ?_;rcases qa4 (isInt b)with fx|fx;refine I ?_;refine cl qG (dA _ _ cf) ?_;rintro _ _ wr ⟨Ax,Aw,Av,rfl,qr⟩;have O:=xt O wr.2;have qr:=qr.mono (lo':=w.heap.size) U;have Ar:=gu qr (iA cf);refine I ?_;refine cl qG (dA _ _ fx) ?_;rintro _ _ qn ⟨Ap,od,Aq,rfl,W⟩;have qr:=ab2 qn.2 qr;have O:=xt O qn.2;have W:=W.mono (lo':=w.heap.size) U;have As:=gu W (iA fx);refine I ?_;refine clb OK (hc:=AO qr U W U (neg a) (!(neg b))) (hk:=?_);rintro _ _ Ab rfl;have O:=xt O Ab.2;refine I ?_;exact bN (t:=4) (u:=5) (v1:=S (rS (bw (cK (neg a) (aN (body a))+cK (!(neg b)) (aN (body b)))))) (v2:=.int .i64 (rE (bw (cK (neg a) (aN (body a))+cK (!(neg b)) (aN (body b)))))) Z O (by rw[m8 (gY cf fx),Ed];rfl) Z Z;refine I ?_;exact bN (t:=4) (u:=5) (v1:=S []) (v2:=.int .i64 30) Z O (by rw[xX (Gd fx)];rfl) Z Z;refine I ?_;refine clb jh (hc:=bX a _ U) (hk:=?_)
 rintro _ _ Ad rfl;have Am:=Ad.2;refine I ?_;exact bN (t:=4) (u:=5) (v1:=S []) (v2:=.int .i64 30) Z Am (by rw[xX (Gc cf)];rfl) Z Z
def it (a b:List UInt8)(w:World)(sa:a.length<=1000000)(sb:b.length<=1000000):
 CL 144 #[S a,S b] w (aC w λv w'=>v=gj (ao a b)):=by
 refine aE func144 Z (I ?_);rcases qa4 (isInt a)with cf|cf;refine I ?_;refine clb jh (hc:=bX a _ U) (hk:=?_);rintro _ _ wr rfl;have O:=wr.2;refine I ?_;refine clb jh (hc:=bX b _ U) (hk:=?_);rintro _ _ Ad rfl;have O:=xt O Ad.2;refine I ?_;rcases qa4 (isInt b)with fy|fy;refine I ?_;refine cl qG (dA _ _ cf) ?_;rintro _ _ Am ⟨E9,E7,Ar,rfl,qr⟩;have O:=xt O Am.2;have qr:=qr.mono (lo':=w.heap.size) U;have E4:=gu qr (iA cf);refine I ?_;refine cl qG (dA _ _ fy) ?_;rintro _ _ Ab ⟨od,Ay,Av,rfl,qn⟩;have qr:=ab2 Ab.2 qr;have O:=xt O Ab.2;have qn:=qn.mono (lo':=w.heap.size) U;have Aw:=gu qn (iA fy);refine I ?_;refine ac (lx (a:=neg a) (b:=neg b) (q:=(!((neg a)==(neg b)))) U4 Z Z Z ?_);refine I ?_;refine clb Hc (hc:=oJ qr U qn U) (hk:=?_);rintro _ _ Af ⟨E1,As,Ax,rfl,W⟩;have O:=xt O Af.2;have W:=W.mono (lo':=w.heap.size) U;have E0:=gu W (V0 (iA cf) (iA fy));refine clb xp (hc:=ir W U (!((neg a)==(neg b)))) (hk:=?_);rintro _ _ Ap rfl;have O:=xt O Ap.2;refine I ?_;exact bN (t:=4) (u:=5) (v1:=S (rS (bw (cK (!((neg a)==(neg b))) ((aN (body a))*(aN (body b))))))) (v2:=.int .i64 (rE (bw (cK (!((neg a)==(neg b))) ((aN (body a))*(aN (body b))))))) Z O (by rw[eI (gY cf fy),<-j5,<-j5,<-Ef];rfl) Z Z
 refine I ?_;exact bN (t:=4) (u:=5) (v1:=S []) (v2:=.int .i64 30) Z O (by rw[xY (Gd fy)];rfl) Z Z;refine I ?_;refine clb jh (hc:=bX a _ U) (hk:=?_);rintro _ _ Ao rfl;have Aq:=Ao.2;refine I ?_;exact bN (t:=4) (u:=5) (v1:=S []) (v2:=.int .i64 30) Z Aq (by rw[xY (Gc cf)];rfl) Z Z
def pQ (a b:List UInt8)(w:World)(sa:a.length<=1000000)(sb:b.length<=1000000):
 CL 85 #[S a,S b] w (aC w λv w'=>v=.int .i64 (gG a b)):=by
 refine aE func85 Z (I ?_);rcases qa4 (isInt a)with cf|cf;refine I ?_;refine clb jh (hc:=bX a _ U) (hk:=?_);rintro _ _ Am rfl;have O:=Am.2;refine I ?_;refine clb jh (hc:=bX b _ U) (hk:=?_);rintro _ _ Af rfl;have O:=xt O Af.2;refine I ?_;rcases qa4 (isInt b)with fx|fx;refine I ?_;refine cl qG (dA _ _ cf) ?_;rintro _ _ Ab ⟨Ay,Ax,Aw,rfl,qr⟩;have O:=xt O Ab.2;have qr:=qr.mono (lo':=w.heap.size) U;have As:=gu qr (iA cf);refine I ?_;refine cl qG (dA _ _ fx) ?_;rintro _ _ qn ⟨Aq,od,Ar,rfl,W⟩;have qr:=ab2 qn.2 qr;have O:=xt O qn.2;have W:=W.mono (lo':=w.heap.size) U;have Av:=gu W (iA fx);refine I ?_;refine ac (lx (a:=neg a) (b:=neg b) (q:=(!((neg a)==(neg b)))) U4 Z Z Z ?_);refine I ?_;rcases qa4 ((neg a)==(neg b))with p6|p6;refine I ?_;rcases qa4 (neg a)with r8|r8;refine I ?_;refine clb tM (hc:=gT W U qr U) (hk:=?_);rintro _ _ Ap rfl;have O:=xt O Ap.2;refine I ?_;exact ax (t:=4) (v:=.int .i64 (aG ((aN (body b):Nat):Int) ((aN (body a):Nat):Int))) Z O (qb1 (Value.int .i64) (Kc (gY cf fx) p6 r8)) Z;refine I ?_;refine clb tM (hc:=gT qr U W U) (hk:=?_)
 rintro _ _ wr rfl;have O:=xt O wr.2;refine I ?_;exact ax (t:=4) (v:=.int .i64 (aG ((aN (body a):Nat):Int) ((aN (body b):Nat):Int))) Z O (qb1 (Value.int .i64) (Kd (gY cf fx) p6 r8)) Z;refine I ?_;rcases qa4 (neg a)with sc|sc;refine I ?_;exact ax (t:=4) (v:=.int .i64 (-1)) Z O (qb1 (Value.int .i64) (Ke (gY cf fx) p6 sc)) Z;refine I ?_;exact ax (t:=4) (v:=.int .i64 1) Z O (qb1 (Value.int .i64) (Kf (gY cf fx) p6 sc)) Z;refine I ?_;exact ax (t:=4) (v:=.int .i64 0) Z O (by rw[x7 (Gd fx)]) Z;refine I ?_;refine clb jh (hc:=bX a _ U) (hk:=?_);rintro _ _ Ad rfl;have Ao:=Ad.2;refine I ?_;exact ax (t:=4) (v:=.int .i64 0) Z Ao (by rw[x7 (Gc cf)]) Z
def gN (a b:List UInt8)(w:World)(sa:a.length<=1000000)(sb:b.length<=1000000):
 CL 88 #[S a,S b] w (aC w λv w'=>v=nJ (Vc a b)):=by
 refine aE func88 Z (I ?_);rcases qa4 (isInt a)with cv|cv;rcases qa4 (isInt b)with cw|cw;refine I ?_;refine clb jh (hc:=bX a _ U) (hk:=?_);rintro _ _ EW rfl;have O:=EW.2;refine I ?_;refine clb jh (hc:=bX b _ U) (hk:=?_);rintro _ _ Ek rfl;have O:=xt O Ek.2;refine I ?_;refine qO (b:=[48]) (I ?_);by_cases aol:b=([48]);refine I ?_;exact fY (t:=4) (u:=5) (s:=6) (v1:=S []) (v2:=S []) (v3:=.int .i64 30) Z O (by rw[Sy dm];rfl) Z Z Z;have W:0<aN (body b):=NR cw aol;refine I ?_;refine cl qG (dA _ _ cv) ?_;rintro _ _ F1 ⟨Jx,L2,wr,rfl,Af⟩;have O:=xt O F1.2;have Af:=Af.mono (lo':=w.heap.size) U;have Kp:=gu Af (iA cv);refine I ?_;refine cl qG (dA _ _ cw) ?_;rintro _ _ E1 ⟨W0,TT,G3,rfl,qn⟩;have Af:=ab2 E1.2 Af;have O:=xt O E1.2;have qn:=qn.mono (lo':=w.heap.size) U;have S1:=gu qn (iA cw);refine I ?_;refine clb OL (hc:=AL Af U qn U W) (hk:=?_);rintro _ _ E7 ⟨Aq,T3,T4,Ar,F7,Ix,rfl,hq,hr⟩;have qn:=ab2 E7.2 qn;have O:=xt O E7.2;have hq:=hq.mono (lo':=w.heap.size) U;have hr:=hr.mono (lo':=w.heap.size) U;have N1:=gu hq (Nat.lt_of_le_of_lt (Nat.div_le_self _ _) (iA cv))
 have Ne:=gu hr (Nat.lt_trans (Nat.mod_lt _ W) (iA cw));have Aw:aN (body a)%aN (body b)<=aN (body b):=Nat.le_of_lt (Nat.mod_lt _ W);refine I ?_;rcases qa4 (neg a)with ly|ly;refine I ?_;by_cases aop:0<(F7:Int);have Ax:0<aN (body a)%aN (body b):=mH (B:=10) U (by rw[hr.len];omega);have qr:=YO W ly Ax;have Ab:aN (body b)-aN (body a)%aN (body b)<=aN (body b):=Nat.sub_le _ _;refine I ?_;refine BS (λ_ Ao _ EE=>?_);have qn:=ab2 Ao qn;have hq:=ab2 Ao hq;have hr:=ab2 Ao hr;have O:=xt O Ao;have F8:=Sw (aa4 EE);refine clb OM (hc:=wN hq U F8 U) (hk:=?_);rintro _ _ Av ⟨Ap,W1,G4,rfl,Ad⟩;have qn:=ab2 Av.2 qn;have hr:=ab2 Av.2 hr;have O:=xt O Av.2;have Ad:=Ad.mono (lo':=w.heap.size) U;have T2:=gu Ad (VZ (Nat.lt_of_le_of_lt (Nat.div_le_self _ _) (iA cv)) (show 1<10^200 by decide +kernel));refine I ?_;refine clb Dx (hc:=lP qn U hr U Aw) (hk:=?_);rintro _ _ E4 ⟨Am,K2,R1,rfl,hm⟩;have Ad:=ab2 E4.2 Ad;have O:=xt O E4.2;have hm:=hm.mono (lo':=w.heap.size) U;have No:=gu hm (Nat.lt_of_le_of_lt (Nat.sub_le _ _) (iA cw));refine I ?_;refine ac (lx (a:=neg a) (b:=neg b) (q:=(!((neg a)==(neg b)))) U4 Z Z Z ?_)
 refine I ?_;refine clb xp (hc:=ir Ad U (!((neg a)==(neg b)))) (hk:=?_);rintro _ _ od rfl;have hm:=ab2 od.2 hm;have O:=xt O od.2;refine I ?_;refine clb Hb (hc:=ll hm U false) (hk:=?_);rintro _ _ F6 rfl;have O:=xt O F6.2;rw[yK (lM cw Ab)];refine I ?_;by_cases aoq:(rE (bw (cK (!((neg a)==(neg b))) (aN (body a)/aN (body b)+1))))=0;refine I ?_;exact fY (t:=4) (u:=5) (s:=6) (v1:=S (rS (bw (cK (!((neg a)==(neg b))) (aN (body a)/aN (body b)+1))))) (v2:=S (rS (bw (cK false (aN (body b)-aN (body a)%aN (body b)))))) (v3:=.int .i64 0) Z O CD Z Z Z;refine I ?_;exact fY (t:=4) (u:=5) (s:=6) (v1:=S []) (v2:=S []) (v3:=.int .i64 (rE (bw (cK (!((neg a)==(neg b))) (aN (body a)/aN (body b)+1))))) Z O CD Z Z Z;have Ax:aN (body a)%aN (body b)=0:=jw (B:=10) U (hr.len.trans U);have qr:=WG (a:=a) W (Or.inr Ax);have Ab:aN (body a)%aN (body b)<=aN (body b):=Aw;refine I ?_;refine ac (lx (a:=neg a) (b:=neg b) (q:=(!((neg a)==(neg b)))) U4 Z Z Z ?_);refine I ?_
 refine clb xp (hc:=ir hq U (!((neg a)==(neg b)))) (hk:=?_);rintro _ _ E0 rfl;have hr:=ab2 E0.2 hr;have O:=xt O E0.2;refine I ?_;refine clb Hb (hc:=ll hr U false) (hk:=?_);rintro _ _ EP rfl;have O:=xt O EP.2;rw[yK (lM cw Ab)];refine I ?_;by_cases aor:(rE (bw (cK (!((neg a)==(neg b))) (aN (body a)/aN (body b)))))=0;refine I ?_;exact fY (t:=4) (u:=5) (s:=6) (v1:=S (rS (bw (cK (!((neg a)==(neg b))) (aN (body a)/aN (body b)))))) (v2:=S (rS (bw (cK false (aN (body a)%aN (body b)))))) (v3:=.int .i64 0) Z O CD Z Z Z;refine I ?_;exact fY (t:=4) (u:=5) (s:=6) (v1:=S []) (v2:=S []) (v3:=.int .i64 (rE (bw (cK (!((neg a)==(neg b))) (aN (body a)/aN (body b)))))) Z O CD Z Z Z;have qr:=WG W (Or.inl ly);have Ab:aN (body a)%aN (body b)<=aN (body b):=Aw;refine I ?_;refine ac (lx (a:=neg a) (b:=neg b) (q:=(!((neg a)==(neg b)))) U4 Z Z Z ?_);refine I ?_;refine clb xp (hc:=ir hq U (!((neg a)==(neg b)))) (hk:=?_);rintro _ _ Ay rfl;have hr:=ab2 Ay.2 hr;have O:=xt O Ay.2;refine I ?_
 refine clb Hb (hc:=ll hr U false) (hk:=?_);rintro _ _ F4 rfl;have O:=xt O F4.2;rw[yK (lM cw Ab)];refine I ?_;by_cases aos:(rE (bw (cK (!((neg a)==(neg b))) (aN (body a)/aN (body b)))))=0;refine I ?_;exact fY (t:=4) (u:=5) (s:=6) (v1:=S (rS (bw (cK (!((neg a)==(neg b))) (aN (body a)/aN (body b)))))) (v2:=S (rS (bw (cK false (aN (body a)%aN (body b)))))) (v3:=.int .i64 0) Z O CD Z Z Z;refine I ?_;exact fY (t:=4) (u:=5) (s:=6) (v1:=S []) (v2:=S []) (v3:=.int .i64 (rE (bw (cK (!((neg a)==(neg b))) (aN (body a)/aN (body b)))))) Z O CD Z Z Z;refine I ?_;refine clb jh (hc:=bX a _ U) (hk:=?_);rintro _ _ F5 rfl;have As:=F5.2;refine I ?_;refine clb jh (hc:=bX b _ U) (hk:=?_);rintro _ _ E9 rfl;have As:=xt As E9.2;refine I ?_;exact fY (t:=4) (u:=5) (s:=6) (v1:=S []) (v2:=S []) (v3:=.int .i64 30) Z As (by rw[x8 (Gd cw)];rfl) Z Z Z;refine I ?_;refine clb jh (hc:=bX a _ U) (hk:=?_);rintro _ _ F2 rfl;have F3:=F2.2;refine I ?_
 exact fY (t:=4) (u:=5) (s:=6) (v1:=S []) (v2:=S []) (v3:=.int .i64 30) Z F3 (by rw[x8 (Gc cv)];rfl) Z Z Z
def vk (a b:List UInt8)(w:World)(sa:a.length<=1000000)(sb:b.length<=1000000):
 CL 87 #[S a,S b] w (aC w λv w'=>v=gj (cQ a b)):=by
 refine aE func87 Z (I ?_);rcases qa4 (isInt a)with cf|cf;refine I ?_;refine clb jh (hc:=bX a _ U) (hk:=?_);rintro _ _ Ek rfl;have O:=Ek.2;refine I ?_;refine clb jh (hc:=bX b _ U) (hk:=?_);rintro _ _ Aw rfl;have O:=xt O Aw.2;refine I ?_;rcases qa4 (isInt b)with cw|cw;refine I ?_;refine cl qG (dA _ _ cf) ?_;rintro _ _ E4 ⟨F3,F2,As,rfl,qn⟩;have O:=xt O E4.2;have qn:=qn.mono (lo':=w.heap.size) U;refine I ?_;refine cl qG (dA _ _ cw) ?_;rintro _ _ wr ⟨od,EW,E7,rfl,Af⟩;have qn:=ab2 wr.2 qn;have O:=xt O wr.2;have Af:=Af.mono (lo':=w.heap.size) U;refine I ?_;refine JT [(7,7),(9,11),(30,40)] (λEP e W=>∃Ax:Option Addr,∃nx:Nat,∃Am:Nat,∃x:Nat,∃Ay:Option Addr,∃ny:Nat,∃Ad:Nat,∃y:Nat,(y=EP)/\(e 7=.slice Ax nx Am)/\(e 9=.slice Ay ny Ad)/\(nx<=200)/\(ny<=200)/\(Nat.gcd x y=Nat.gcd (aN (body a)) (aN (body b)))/\(bF w W)/\(Dg W w.heap.size Ax nx Am x)/\(Dg W w.heap.size Ay ny Ad y)) (aN (body b)) ⟨F3,F2,As,aN (body a),od,EW,E7,aN (body b),rfl,rfl,rfl,(gu qn (iA cf)),(gu Af (iA cw)),rfl,O,qn,Af⟩ ?_;rintro _ _ _ ⟨Ax,nx,Am,x,Ay,ny,Ad,y,rfl,F4,F8,q1,q2,Ao,qr,hx,hy⟩
 have F5:=bz qr;by_cases hm:0<ny;have Ab:0<y:=mH (B:=10) U (by rw[hy.len];omega);have EE:=hx.row.hi;refine I ?_;refine clb OL (hc:=AL hx U hy U Ab) (hk:=?_);rintro _ _ Ap ⟨Aq,F7,F6,Ar,F1,Av,rfl,hq,hr⟩;have hy:=ab2 Ap.2 hy;have qr:=xt qr Ap.2;have hr:=hr.mono (lo':=w.heap.size) U;refine I ?_;exact c6 (hk:=by exact Nat.mod_lt _ Ab) ⟨Ay,ny,Ad,y,Ar,F1,Av,x%y,rfl,rfl,rfl,U,(by rw[<-hr.len];exact qa8 (eV U (Nat.le_of_lt (Nat.mod_lt _ Ab))) (by rw[hy.len];exact q2)),(zQ Ao),qr,hy,hr⟩;have Ab:y=0:=jw (B:=10) U (hy.len.trans U);rw[Ab,Nat.gcd_zero_right]at Ao;have EE:=hx.row.hi;refine I ?_;refine clb xp (hc:=ir hx U false) (hk:=?_);rintro _ _ E1 rfl;have qr:=xt qr E1.2;refine I ?_;exact bN (t:=4) (u:=5) (v1:=S (rS (bw (cK false x)))) (v2:=.int .i64 (rE (bw (cK false x)))) Z qr (by rw[Ee (gY cf cw),<-Ao];rfl) Z Z;refine I ?_;exact bN (t:=4) (u:=5) (v1:=S []) (v2:=.int .i64 30) Z O (by rw[xZ (Gd cw)];rfl) Z Z;refine I ?_;refine clb jh (hc:=bX a _ U) (hk:=?_);rintro _ _ E9 rfl;have E0:=E9.2;refine I ?_;exact bN (t:=4) (u:=5) (v1:=S []) (v2:=.int .i64 30) Z E0 (by rw[xZ (Gc cf)];rfl) Z Z
def az {p:Prop}(h:p:=by assumption):p:=h
def nl (h:fits n=true):(ae n).length<=201:=(nj (bR h)).2
def vl (n:Int):(rS (bw n)).length<=1000000:=by
 unfold bw
 cases h:fits n with
 |true=>have:=nl h;simp[rS];omega
 |false=>simp[rS]
def Kg (a b:List UInt8):(rS (ku a b)).length<=1000000:=by unfold ku;split;exact vl _;simp[rS]
def Kh (a b:List UInt8):(rS (bi a b)).length<=1000000:=by unfold bi;split;exact vl _;simp[rS]
def mV (a b:List UInt8):(rS (ao a b)).length<=1000000:=by unfold ao;split;exact vl _;simp[rS]
def Gi (a b:List UInt8):Int:=((Int.gcd (aA a) (aA b):Nat):Int)
def kg (n d:List UInt8):Option R:=if isInt n&&isInt d then k7 (aA n) (aA d)else none
section
variable {x y:List UInt8}
def SB (h:aA y≠0):0<Gi x y:=by
 have:0<Int.gcd (aA x) (aA y):=Int.gcd_pos_of_ne_zero_right _ h
 unfold Gi;omega
def nn (hy:isInt y=true)(h:aA y≠0):fits (Gi x y)=true:=sZ (i6 hy) (by
 have hd:Gi x y∣aA y:=Int.gcd_dvd_right ..
 exact Nat.le_of_dvd U (Int.natAbs_dvd_natAbs.2 hd))
def AQ (hx:isInt x=true)(hy:isInt y=true)(h:aA y≠0):cQ x y=some (ae (Gi x y)):=by
 unfold cQ;rw[if_pos (by rw[hx,hy];rfl)];unfold bw
 show(if fits (Gi x y)=true then some (ae (Gi x y))else none)=_
 rw[if_pos (nn hy h)]
def pR {z:List UInt8}(hz:isInt z=true)(hy:isInt y=true)(h:aA y≠0)(hd:Gi x y∣aA z):Vc z (ae (Gi x y))=some (ae (aA z/Gi x y),ae (aA z%Gi x y)):=by
 have O:=SB (x:=x) h
 rw[pn (by rw[hz,bR (nn hy h)];rfl) (by rw[fq,gh];omega),aO]
 obtain⟨g,hg⟩:∃g:Nat,Gi x y=(g:Int):=⟨_,rfl⟩
 rw[hg]at hd O ⊢
 unfold bw
 rw[if_pos (sZ (i6 hz) (rU _ _ U hd))]
 rfl
def V1:Gi x y∣aA x:=Int.gcd_dvd_left ..
def V2:Gi x y∣aA y:=Int.gcd_dvd_right ..
def no (q r:List UInt8):nJ (some (q,r))=.tuple #[S q,S r,.int .i64 0]:=rfl
def nu (q:List UInt8):gj (some q)=.tuple #[S q,.int .i64 0]:=rfl
def CM (h:isInt x=false):none=kg x y:=by unfold kg;rw[h];rfl
def CN (h:isInt y=false):none=kg x y:=by unfold kg;rw[h];simp
def CO (h:y=[48]):none=kg x y:=by
 unfold kg k7;subst h;rw[kY];simp
def s9 (hy:isInt y=true)(h:¬y=[48]):aA y≠0:=λe=>h ((ii hy).1 e)
def SC (hx:isInt x=true)(hy:isInt y=true)(h0:¬y=[48])(hs:¬gG y [48]<0):some (ae (aA x/Gi x y),ae (aA y/Gi x y))=kg x y:=by
 rw[jC hy,dy]at hs
 unfold kg k7 cG bK
 rw[hx,hy,Bool.and_self,if_pos Z,if_neg (s9 hy h0),if_neg hs,if_neg hs];rfl
def SD (hx:isInt x=true)(hy:isInt y=true)(h0:¬y=[48])(hs:gG y [48]<0):
 some (ae (aA (ae (-aA x))/Gi (ae (-aA x)) (ae (-aA y))),ae (aA (ae (-aA y))/Gi (ae (-aA x)) (ae (-aA y))))=kg x y:=by
 rw[jC hy,dy]at hs
 unfold kg k7 cG bK Gi
 rw[hx,hy,Bool.and_self,if_pos Z,if_neg (s9 hy h0),if_pos hs,if_pos hs,aO,aO,Int.gcd_neg,Int.neg_gcd]
def SE (hy:isInt y=true)(h0:¬y=[48]):aA (ae (-aA y))≠0:=by rw[aO];have:=s9 hy h0;omega
end
def dM:Value.tuple #[.agg #[S [],S []],.int .i64 40]=ey none:=rfl
def wP (a b:List UInt8):Value.tuple #[.agg #[S a,S b],.int .i64 0]=ey (some (a,b)):=rfl
def nw {o:Option (List UInt8)}(ho:o=bw n)(h:rE o=0):fits n=true/\rS o=ae n:=by
 subst ho
 unfold bw at *
 cases hf:fits n with
 |true=>exact⟨rfl,rfl⟩
 |false=>rw[hf]at h;simp[rE]at h
def td {o:Option (List UInt8)}(ho:o=bw n)(h:¬rE o=0):fits n=false:=by
 subst ho
 unfold bw at *
 cases hf:fits n with
 |true=>rw[hf]at h;simp[rE]at h
 |false=>rfl
section
variable {on od:Option (List UInt8)}{d:Int}
def Ki (h1:on=bw n)(h2:od=bw d)(e1:rE on=0)(e2:rE od=0):kg (rS on) (rS od)=iz n d:=by
 obtain⟨f1,qr⟩:=nw h1 e1
 obtain⟨O,s2⟩:=nw h2 e2
 unfold iz kg
 rw[qr,s2,bR f1,bR O,f1,O,aO,aO]
 first|done|rfl
def SF (h1:on=bw n)(e1:¬rE on=0):none=iz n d:=by unfold iz;rw[td h1 e1];rfl
def SG (h2:od=bw d)(e2:¬rE od=0):none=iz n d:=by unfold iz;rw[td h2 e2];simp
end
section
variable {x1 x2 y1 y2:List UInt8}
def V3 (ha:cc (x1,x2)=true)(hb:cc (y1,y2)=true):ao x1 y1=bw (aA x1*aA y1):=eI (by rw[j7 ha,j7 hb];rfl)
def NS (ha:cc (x1,x2)=true)(hb:cc (y1,y2)=true):ao x2 y2=bw (aA x2*aA y2):=eI (by rw[il ha,il hb];rfl)
def Ge (ha:cc (x1,x2)=true)(hb:cc (y1,y2)=true):ao x1 y2=bw (aA x1*aA y2):=eI (by rw[j7 ha,il hb];rfl)
def V4 (ha:cc (x1,x2)=true)(hb:cc (y1,y2)=true):ao x2 y1=bw (aA x2*aA y1):=eI (by rw[il ha,j7 hb];rfl)
def CP (ha:cc (x1,x2)=true)(hb:cc (y1,y2)=true):q7 (x1,x2) (y1,y2)=iz (aA x1*aA y1) (aA x2*aA y2):=by unfold q7;rw[ha,hb];rfl
def CQ (ha:cc (x1,x2)=true)(hb:cc (y1,y2)=true):sy (x1,x2) (y1,y2)=iz (aA x1*aA y2) (aA x2*aA y1):=by unfold sy;rw[ha,hb];rfl
def NT (ha:cc (x1,x2)=false):none=q7 (x1,x2) (y1,y2):=by unfold q7;rw[ha];rfl
def NU (hb:cc (y1,y2)=false):none=q7 (x1,x2) (y1,y2):=by unfold q7;rw[hb];simp
def NV (ha:cc (x1,x2)=false):none=sy (x1,x2) (y1,y2):=by unfold sy;rw[ha];rfl
def NW (hb:cc (y1,y2)=false):none=sy (x1,x2) (y1,y2):=by unfold sy;rw[hb];simp
end
def gJ (k:Bool)(o:Option (List UInt8)):List UInt8:=if k then rS o else[]
def EL (k:Bool)(o p q:Option (List UInt8)):Bool:=k&&decide (rE o=0)&&decide (rE p=0)&&decide (rE q=0)
def nz (k:Bool)(a b:List UInt8):(gJ k (ao a b)).length<=1000000:=by unfold gJ;split;exact mV _ _;simp
section
variable {okk:Bool}{op oq od:Option (List UInt8)}{p q s d:Int}{os:List UInt8->List UInt8->Option (List UInt8)}{W:Option R}
def Pz (h:EL okk op oq od=true):okk=true/\rE op=0/\rE oq=0/\rE od=0:=by
 unfold EL at h;simp at h;exact⟨h.1.1.1,h.1.1.2,h.1.2,h.2⟩
structure Kj (okk:Bool)(op oq od:Option (List UInt8))(os:List UInt8->List UInt8->Option (List UInt8))(p q s d:Int)(W:Option R):Prop where
 hp:okk=true->op=bw p
 hq:okk=true->oq=bw q
 hd:okk=true->od=bw d
 hs:fits p=true->fits q=true->os (ae p) (ae q)=bw s
 hW:W=if okk then(if fits p&&fits q then iz s d else none)else none
def V5 (F:Kj okk op oq od os p q s d W)(h:EL okk op oq od=false):none=W:=by
 rw[F.hW]
 cases okk with
 |false=>rfl
 | true=>
   have O:=F.hp Z
   have hq:=F.hq Z
   have hd:=F.hd Z
   rw[if_pos Z]
   by_cases e1:rE op=0
   · by_cases e2:rE oq=0
     · by_cases e3:rE od=0
       · simp[EL,e1,e2,e3]at h
       · have:=SG (n:=s) hd e3
         rw[<-this];split <;>rfl
     · rw[td hq e2];simp
   · rw[td O e1];rfl
def YV (F:Kj okk op oq od os p q s d W)(h:EL okk op oq od=true)(he:¬rE (os (gJ okk op) (gJ okk oq))=0):none=W:=by
 obtain⟨rfl,qr,qn,_⟩:=Pz h
 obtain⟨f1,Ab⟩:=nw (F.hp Z) qr
 obtain⟨O,s2⟩:=nw (F.hq Z) qn
 rw[F.hW,f1,O]
 have h1:gJ true op=ae p:=Ab
 have h2:gJ true oq=ae q:=s2
 rw[h1,h2]at he
 have:=SF (d:=d) (F.hs f1 O) he
 rw[<-this];rfl
def V6 (F:Kj okk op oq od os p q s d W)(h:EL okk op oq od=true)(he:rE (os (gJ okk op) (gJ okk oq))=0):kg (rS (os (gJ okk op) (gJ okk oq))) (gJ okk od)=W:=by
 obtain⟨rfl,qr,qn,Ab⟩:=Pz h
 obtain⟨f1,Ad⟩:=nw (F.hp Z) qr
 obtain⟨O,s2⟩:=nw (F.hq Z) qn
 rw[F.hW,f1,O]
 have h1:gJ true op=ae p:=Ad
 have h2:gJ true oq=ae q:=s2
 have h3:gJ true od=rS od:=rfl
 rw[h1,h2]at he ⊢
 rw[h3,Ki (F.hs f1 O) (F.hd Z) he Ab];rfl
end
def vm (x1 x2 y1 y2:List UInt8):Kj (cc (x1,x2)&&cc (y1,y2)) (ao x1 y2) (ao y1 x2) (ao x2 y2) ku (aA x1*aA y2) (aA y1*aA x2) (aA x1*aA y2+aA y1*aA x2) (aA x2*aA y2) (q8 (x1,x2) (y1,y2)):=
 ⟨λh=>Ge (fL h) (fB h),λh=>Ge (fB h) (fL h),λh=>NS (fL h) (fB h),λh1 h2=>by rw[pm kd7,aO,aO],rfl⟩
def vn (x1 x2 y1 y2:List UInt8):Kj (cc (x1,x2)&&cc (y1,y2)) (ao x1 y2) (ao y1 x2) (ao x2 y2) bi (aA x1*aA y2) (aA y1*aA x2) (aA x1*aA y2-aA y1*aA x2) (aA x2*aA y2) (re (x1,x2) (y1,y2)):=
 ⟨λh=>Ge (fL h) (fB h),λh=>Ge (fB h) (fL h),λh=>NS (fL h) (fB h),λh1 h2=>by rw[m8 kd7,aO,aO],rfl⟩
def jp (h:isInt l=true):l.length<=1000000:=by have:=nj h;omega
def ef (x y:List UInt8)(w:World)(s1:x.length<=1000000)(s2:y.length<=1000000):
 CL 92 #[.agg #[S x,S y]] w (aC w λv w'=>v=.bool (cc (x,y))):=by
 refine aE func92 Z (I ?_);refine bx (λ_ qn qr=>?_);have O:=qn.2;refine I ?_;refine clb jh (hc:=bX x _ az) (hk:=?_);rintro _ _ Ab rfl;have⟨qr,O⟩:=bD Ab.2 qr O;refine I ?_;refine clb jh (hc:=bX y _ az) (hk:=?_);rintro _ _ Af rfl;have⟨qr,O⟩:=bD Af.2 qr O;refine I ?_;rcases qa4 (isInt x)with cv|cv;rcases qa4 (isInt y)with cr|cr;refine I ?_;refine clb tK (hc:=pQ y [48] _ az dc) (hk:=?_);rintro _ _ Ad rfl;have⟨qr,O⟩:=bD Ad.2 qr O;refine I ?_;by_cases fy:(gG y [48])<=0;refine I ?_;exact ax (t:=2) (v:=.bool false) Z O DA Z;refine I ?_;refine clb P8 (hc:=vk x y _ az az) (hk:=?_);rintro _ _ Am rfl;have O:=xt O Am.2;refine I ?_;by_cases cw:(rE (cQ x y))=0;refine I ?_;refine qO (b:=[49]) (I ?_);exact ax (t:=2) (v:=.bool (decide ((rS (cQ x y))=([49])))) Z O DA Z
 refine I ?_;exact ax (t:=2) (v:=.bool false) Z O DA Z;refine I ?_;exact ax (t:=2) (v:=.bool false) Z O DA Z;refine I ?_;exact ax (t:=2) (v:=.bool false) Z O DA Z
def jF (x y:List UInt8)(w:World)(s1:x.length<=1000000)(s2:y.length<=1000000):
 CL 43 #[S x,S y] w (aC w λv w'=>v=ey (kg x y)):=by
 refine aE func43 Z (I ?_);refine al aQ (λ_ E9 qr=>?_);have O:=E9.2;refine I ?_;refine clb jh (hc:=bX x _ az) (hk:=?_);rintro _ _ EE rfl;have⟨qr,O⟩:=bD EE.2 qr O;refine I ?_;refine clb jh (hc:=bX y _ az) (hk:=?_);rintro _ _ Ek rfl;have⟨qr,O⟩:=bD Ek.2 qr O;refine I ?_;rcases qa4 (isInt x)with cr|cr;rcases qa4 (isInt y)with cv|cv;refine I ?_;refine qO (b:=[48]) (I ?_);by_cases cx:y=([48]);refine I ?_;refine SA qr (λ_ Af Ax=>?_);have O:=bB Af O;refine I ?_;refine aI (v:=.tuple #[.agg #[S [],S []],.int .i64 40]) (cn (r1:=.cell 4 25) (r2:=.tmp 5) Z ?_ ?_) O Fm;refine ag (t:=4) (cs:=[S [],S []]) (b:=w.heap.size) (o:=0) eB Z aM ?_ ?_;exact Z;exact aa1 Ax (i:=0) Z;exact aD (t:=5) Rd _;have hx:=cr;have hy:=cv;have Ab:=cx;have Av:=s9 hy Ab;refine I ?_;refine clb tK (hc:=pQ y [48] _ az dc) (hk:=?_);rintro _ _ As rfl;have⟨qr,O⟩:=bD As.2 qr O;refine I ?_;by_cases cw:(gG y [48])<0;have hs:=cw;have hX:=nf hx
 have hY:=nf hy;have hY0:=SE hy Ab;refine I ?_;refine clb Mf (hc:=pP [48] x _ dc az) (hk:=?_);rintro _ _ Aw qn;have⟨qr,O⟩:=bD Aw.2 qr O;rw[nc hx,nu]at qn;subst qn;refine I ?_;refine clb Mf (hc:=pP [48] y _ dc az) (hk:=?_);rintro _ _ Aq qn;have⟨qr,O⟩:=bD Aq.2 qr O;rw[nc hy,nu]at qn;subst qn;refine I ?_;refine cl P8 (vk (ae (-aA x)) (ae (-aA y)) _ (jp hX) (jp hY)) ?_;rintro _ _ Ar qn;have⟨qr,O⟩:=bD Ar.2 qr O;rw[AQ hX hY hY0,nu]at qn;subst qn;refine I ?_;refine cl vM (gN (ae (-aA x)) (ae (Gi (ae (-aA x)) (ae (-aA y)))) _ (jp hX) (jp (bR (nn hY hY0)))) ?_;rintro _ _ EW qn;have⟨qr,O⟩:=bD EW.2 qr O;rw[pR hX hY hY0 V1,no]at qn;subst qn;refine I ?_;refine cl vM (gN (ae (-aA y)) (ae (Gi (ae (-aA x)) (ae (-aA y)))) _ (jp hY) (jp (bR (nn hY hY0)))) ?_;rintro _ _ EP qn;have⟨qr,O⟩:=bD EP.2 qr O;rw[pR hY hY hY0 V2,no]at qn;subst qn;refine I ?_;refine SA qr (λ_ E1 E7=>?_);have O:=bB E1 O;refine I ?_
 refine aI (v:=.tuple #[.agg #[S (ae (aA (ae (-aA x))/Gi (ae (-aA x)) (ae (-aA y)))),S (ae (aA (ae (-aA y))/Gi (ae (-aA x)) (ae (-aA y))))],.int .i64 0]) (cn (r1:=.cell 4 25) (r2:=.tmp 5) Z ?_ ?_) O (by rw[wP,SD hx hy Ab hs]);refine ag (t:=4) (cs:=[S (ae (aA (ae (-aA x))/Gi (ae (-aA x)) (ae (-aA y)))),S (ae (aA (ae (-aA y))/Gi (ae (-aA x)) (ae (-aA y))))]) (b:=w.heap.size) (o:=0) eB Z aM ?_ ?_;exact Z;exact aa1 E7 (i:=0) Z;exact aD (t:=5) Rd _;have hs:=cw;have hX:=hx;have hY:=hy;have hY0:=Av;refine I ?_;refine cl P8 (vk x y _ (jp hX) (jp hY)) ?_;rintro _ _ Ao qn;have⟨qr,O⟩:=bD Ao.2 qr O;rw[AQ hX hY hY0,nu]at qn;subst qn;refine I ?_;refine cl vM (gN x (ae (Gi x y)) _ (jp hX) (jp (bR (nn hY hY0)))) ?_;rintro _ _ E0 qn;have⟨qr,O⟩:=bD E0.2 qr O;rw[pR hX hY hY0 V1,no]at qn;subst qn;refine I ?_;refine cl vM (gN y (ae (Gi x y)) _ (jp hY) (jp (bR (nn hY hY0)))) ?_;rintro _ _ E4 qn;have⟨qr,O⟩:=bD E4.2 qr O;rw[pR hY hY hY0 V2,no]at qn;subst qn;refine I ?_;refine SA qr (λ_ Ad wr=>?_);have O:=bB Ad O;refine I ?_
 refine aI (v:=.tuple #[.agg #[S (ae (aA x/Gi x y)),S (ae (aA y/Gi x y))],.int .i64 0]) (cn (r1:=.cell 4 25) (r2:=.tmp 5) Z ?_ ?_) O (by rw[wP,SC hx hy Ab hs]);refine ag (t:=4) (cs:=[S (ae (aA x/Gi x y)),S (ae (aA y/Gi x y))]) (b:=w.heap.size) (o:=0) eB Z aM ?_ ?_;exact Z;exact aa1 wr (i:=0) Z;exact aD (t:=5) Rd _;refine I ?_;refine SA qr (λ_ ny Ap=>?_);have O:=bB ny O;refine I ?_;refine aI (v:=.tuple #[.agg #[S [],S []],.int .i64 40]) (cn (r1:=.cell 4 25) (r2:=.tmp 5) Z ?_ ?_) O Fm;refine ag (t:=4) (cs:=[S [],S []]) (b:=w.heap.size) (o:=0) eB Z aM ?_ ?_;exact Z;exact aa1 Ap (i:=0) Z;exact aD (t:=5) Rd _;refine I ?_;refine SA qr (λ_ Am Ay=>?_);have O:=bB Am O;refine I ?_;refine aI (v:=.tuple #[.agg #[S [],S []],.int .i64 40]) (cn (r1:=.cell 4 25) (r2:=.tmp 5) Z ?_ ?_) O Fm;refine ag (t:=4) (cs:=[S [],S []]) (b:=w.heap.size) (o:=0) eB Z aM ?_ ?_;exact Z;exact aa1 Ay (i:=0) Z;exact aD (t:=5) Rd _
def Kk (x1 x2 y1 y2:List UInt8)(w:World)(s1:x1.length<=1000000)(s2:x2.length<=1000000)(s3:y1.length<=1000000)(s4:y2.length<=1000000):
 CL 112 #[.agg #[S x1,S x2],.agg #[S y1,S y2]] w (aC w λv w'=>v=ey (q7 (x1,x2) (y1,y2))):=by
 refine aE func112 Z (I ?_);refine bx (λ_ E7 qr=>?_);have O:=E7.2;refine bx (λAd Ar qn=>?_);have⟨qr,O⟩:=bD Ar.2 qr O;refine al aQ (λ_ ny Ab=>?_);have⟨qr,qn,O⟩:=bC ny.2 qr qn O;refine I ?_;refine clb ss (hc:=ef x1 x2 _ az az) (hk:=?_);rintro _ _ Ax rfl;have⟨qr,qn,Ab,O⟩:=bW Ax.2 qr qn Ab O;refine I ?_;refine clb ss (hc:=ef y1 y2 _ az az) (hk:=?_);rintro _ _ Ay rfl;have⟨qr,qn,Ab,O⟩:=bW Ay.2 qr qn Ab O;refine I ?_;rcases qa4 (cc (x1,x2))with cw|cw;refine I ?_;rcases qa4 (cc (y1,y2))with cx|cx;refine I ?_;refine clb xo (hc:=it x1 y1 _ az az) (hk:=?_);rintro _ _ Av rfl;have⟨qr,qn,Ab,O⟩:=bW Av.2 qr qn Ab O;refine I ?_;refine clb xo (hc:=it x2 y2 _ az az) (hk:=?_);rintro _ _ Aw rfl;have⟨qr,qn,Ab,O⟩:=bW Aw.2 qr qn Ab O;refine I ?_;by_cases fx:(rE (ao x1 y1))=0;refine I ?_;by_cases ly:(rE (ao x2 y2))=0;refine I ?_;refine cl qE (jF (rS (ao x1 y1)) (rS (ao x2 y2)) _ (mV _ _) (mV _ _)) ?_
 rintro _ _ E9 rfl;have⟨qr,qn,Ab,O⟩:=bW E9.2 qr qn Ab O;refine I ?_;refine SA Ab (λ_ Am E0=>?_);have⟨qr,qn⟩:=eR Am qr qn;have O:=bB Am O;refine I ?_;refine aI (v:=.tuple #[.agg #[S (rN (kg (rS (ao x1 y1)) (rS (ao x2 y2)))),S (rD (kg (rS (ao x1 y1)) (rS (ao x2 y2))))],.int .i64 (IH (kg (rS (ao x1 y1)) (rS (ao x2 y2))))]) (cn (r1:=.cell 4 25) (r2:=.tmp 5) Z ?_ ?_) O (by rw[CP cw cx];exact qb1 ey (Ki (V3 cw cx) (NS cw cx) fx ly));refine ag (t:=4) (cs:=[S (rN (kg (rS (ao x1 y1)) (rS (ao x2 y2)))),S (rD (kg (rS (ao x1 y1)) (rS (ao x2 y2))))]) (b:=Ad.heap.size) (o:=0) eB Z aM ?_ ?_;exact Z;exact aa1 E0 (i:=0) Z;exact aD (t:=5) Rd _;refine I ?_;refine SA Ab (λ_ Aq E4=>?_);have⟨qr,qn⟩:=eR Aq qr qn;have O:=bB Aq O;refine I ?_;refine aI (v:=.tuple #[.agg #[S [],S []],.int .i64 40]) (cn (r1:=.cell 4 25) (r2:=.tmp 5) Z ?_ ?_) O (by rw[dM,CP cw cx];exact qb1 ey (SG (NS cw cx) ly));refine ag (t:=4) (cs:=[S [],S []]) (b:=Ad.heap.size) (o:=0) eB Z aM ?_ ?_;exact Z;exact aa1 E4 (i:=0) Z;exact aD (t:=5) Rd _;refine I ?_;refine SA Ab (λ_ Ao wr=>?_);have⟨qr,qn⟩:=eR Ao qr qn;have O:=bB Ao O;refine I ?_
 refine aI (v:=.tuple #[.agg #[S [],S []],.int .i64 40]) (cn (r1:=.cell 4 25) (r2:=.tmp 5) Z ?_ ?_) O (by rw[dM,CP cw cx];exact qb1 ey (SF (V3 cw cx) fx));refine ag (t:=4) (cs:=[S [],S []]) (b:=Ad.heap.size) (o:=0) eB Z aM ?_ ?_;exact Z;exact aa1 wr (i:=0) Z;exact aD (t:=5) Rd _;refine I ?_;refine SA Ab (λ_ Ap As=>?_);have⟨qr,qn⟩:=eR Ap qr qn;have O:=bB Ap O;refine I ?_;refine aI (v:=.tuple #[.agg #[S [],S []],.int .i64 40]) (cn (r1:=.cell 4 25) (r2:=.tmp 5) Z ?_ ?_) O (by rw[dM,NU cx]);refine ag (t:=4) (cs:=[S [],S []]) (b:=Ad.heap.size) (o:=0) eB Z aM ?_ ?_;exact Z;exact aa1 As (i:=0) Z;exact aD (t:=5) Rd _;refine I ?_;refine SA Ab (λ_ Af E1=>?_);have⟨qr,qn⟩:=eR Af qr qn;have O:=bB Af O;refine I ?_;refine aI (v:=.tuple #[.agg #[S [],S []],.int .i64 40]) (cn (r1:=.cell 4 25) (r2:=.tmp 5) Z ?_ ?_) O (by rw[dM,NT cw]);refine ag (t:=4) (cs:=[S [],S []]) (b:=Ad.heap.size) (o:=0) eB Z aM ?_ ?_;exact Z;exact aa1 E1 (i:=0) Z;exact aD (t:=5) Rd _
def Kl (x1 x2 y1 y2:List UInt8)(w:World)(s1:x1.length<=1000000)(s2:x2.length<=1000000)(s3:y1.length<=1000000)(s4:y2.length<=1000000):
 CL 156 #[.agg #[S x1,S x2],.agg #[S y1,S y2]] w (aC w λv w'=>v=ey (sy (x1,x2) (y1,y2))):=by
 refine aE func156 Z (I ?_);refine bx (λ_ E7 qr=>?_);have O:=E7.2;refine bx (λAd Ar qn=>?_);have⟨qr,O⟩:=bD Ar.2 qr O;refine al aQ (λ_ ny Ab=>?_);have⟨qr,qn,O⟩:=bC ny.2 qr qn O;refine I ?_;refine clb ss (hc:=ef x1 x2 _ az az) (hk:=?_);rintro _ _ Ax rfl;have⟨qr,qn,Ab,O⟩:=bW Ax.2 qr qn Ab O;refine I ?_;refine clb ss (hc:=ef y1 y2 _ az az) (hk:=?_);rintro _ _ Ay rfl;have⟨qr,qn,Ab,O⟩:=bW Ay.2 qr qn Ab O;refine I ?_;rcases qa4 (cc (x1,x2))with cw|cw;refine I ?_;rcases qa4 (cc (y1,y2))with cx|cx;refine I ?_;refine clb xo (hc:=it x1 y2 _ az az) (hk:=?_);rintro _ _ Av rfl;have⟨qr,qn,Ab,O⟩:=bW Av.2 qr qn Ab O;refine I ?_;refine clb xo (hc:=it x2 y1 _ az az) (hk:=?_);rintro _ _ Aw rfl;have⟨qr,qn,Ab,O⟩:=bW Aw.2 qr qn Ab O;refine I ?_;by_cases fx:(rE (ao x1 y2))=0;refine I ?_;by_cases ly:(rE (ao x2 y1))=0;refine I ?_;refine cl qE (jF (rS (ao x1 y2)) (rS (ao x2 y1)) _ (mV _ _) (mV _ _)) ?_
 rintro _ _ E9 rfl;have⟨qr,qn,Ab,O⟩:=bW E9.2 qr qn Ab O;refine I ?_;refine SA Ab (λ_ Am E0=>?_);have⟨qr,qn⟩:=eR Am qr qn;have O:=bB Am O;refine I ?_;refine aI (v:=.tuple #[.agg #[S (rN (kg (rS (ao x1 y2)) (rS (ao x2 y1)))),S (rD (kg (rS (ao x1 y2)) (rS (ao x2 y1))))],.int .i64 (IH (kg (rS (ao x1 y2)) (rS (ao x2 y1))))]) (cn (r1:=.cell 4 25) (r2:=.tmp 5) Z ?_ ?_) O (by rw[CQ cw cx];exact qb1 ey (Ki (Ge cw cx) (V4 cw cx) fx ly));refine ag (t:=4) (cs:=[S (rN (kg (rS (ao x1 y2)) (rS (ao x2 y1)))),S (rD (kg (rS (ao x1 y2)) (rS (ao x2 y1))))]) (b:=Ad.heap.size) (o:=0) eB Z aM ?_ ?_;exact Z;exact aa1 E0 (i:=0) Z;exact aD (t:=5) Rd _;refine I ?_;refine SA Ab (λ_ Aq E4=>?_);have⟨qr,qn⟩:=eR Aq qr qn;have O:=bB Aq O;refine I ?_;refine aI (v:=.tuple #[.agg #[S [],S []],.int .i64 40]) (cn (r1:=.cell 4 25) (r2:=.tmp 5) Z ?_ ?_) O (by rw[dM,CQ cw cx];exact qb1 ey (SG (V4 cw cx) ly));refine ag (t:=4) (cs:=[S [],S []]) (b:=Ad.heap.size) (o:=0) eB Z aM ?_ ?_;exact Z;exact aa1 E4 (i:=0) Z;exact aD (t:=5) Rd _;refine I ?_;refine SA Ab (λ_ Ao wr=>?_);have⟨qr,qn⟩:=eR Ao qr qn;have O:=bB Ao O;refine I ?_
 refine aI (v:=.tuple #[.agg #[S [],S []],.int .i64 40]) (cn (r1:=.cell 4 25) (r2:=.tmp 5) Z ?_ ?_) O (by rw[dM,CQ cw cx];exact qb1 ey (SF (Ge cw cx) fx));refine ag (t:=4) (cs:=[S [],S []]) (b:=Ad.heap.size) (o:=0) eB Z aM ?_ ?_;exact Z;exact aa1 wr (i:=0) Z;exact aD (t:=5) Rd _;refine I ?_;refine SA Ab (λ_ Ap As=>?_);have⟨qr,qn⟩:=eR Ap qr qn;have O:=bB Ap O;refine I ?_;refine aI (v:=.tuple #[.agg #[S [],S []],.int .i64 40]) (cn (r1:=.cell 4 25) (r2:=.tmp 5) Z ?_ ?_) O (by rw[dM,NW cx]);refine ag (t:=4) (cs:=[S [],S []]) (b:=Ad.heap.size) (o:=0) eB Z aM ?_ ?_;exact Z;exact aa1 As (i:=0) Z;exact aD (t:=5) Rd _;refine I ?_;refine SA Ab (λ_ Af E1=>?_);have⟨qr,qn⟩:=eR Af qr qn;have O:=bB Af O;refine I ?_;refine aI (v:=.tuple #[.agg #[S [],S []],.int .i64 40]) (cn (r1:=.cell 4 25) (r2:=.tmp 5) Z ?_ ?_) O (by rw[dM,NV cw]);refine ag (t:=4) (cs:=[S [],S []]) (b:=Ad.heap.size) (o:=0) eB Z aM ?_ ?_;exact Z;exact aa1 E1 (i:=0) Z;exact aD (t:=5) Rd _
def vo (x1 x2 y1 y2:List UInt8)(w:World)(s1:x1.length<=1000000)(s2:x2.length<=1000000)(s3:y1.length<=1000000)(s4:y2.length<=1000000):
 CL 90 #[.agg #[S x1,S x2],.agg #[S y1,S y2]] w (aC w λv w'=>v=.tuple #[S (gJ (cc (x1,x2)&&cc (y1,y2)) (ao x1 y2)),S (gJ (cc (x1,x2)&&cc (y1,y2)) (ao y1 x2)),S (gJ (cc (x1,x2)&&cc (y1,y2)) (ao x2 y2)),.bool (EL (cc (x1,x2)&&cc (y1,y2)) (ao x1 y2) (ao y1 x2) (ao x2 y2))]):=by
 refine aE func90 Z (I ?_);refine bx (λ_ Ap qr=>?_);have O:=Ap.2;refine bx (λ_ Af qn=>?_);have⟨qr,O⟩:=bD Af.2 qr O;refine I ?_;refine clb ss (hc:=ef x1 x2 _ az az) (hk:=?_);rintro _ _ Aq rfl;have⟨qr,qn,O⟩:=bC Aq.2 qr qn O;refine I ?_;refine clb ss (hc:=ef y1 y2 _ az az) (hk:=?_);rintro _ _ Ab rfl;have⟨qr,qn,O⟩:=bC Ab.2 qr qn O;refine I ?_;rcases qa4 (cc (x1,x2))with cx|cx;refine I ?_;rcases qa4 (cc (y1,y2))with lm|lm;refine I ?_;refine clb xo (hc:=it x1 y2 _ az az) (hk:=?_);rintro _ _ Ad rfl;have⟨qr,qn,O⟩:=bC Ad.2 qr qn O;refine I ?_;refine clb xo (hc:=it y1 x2 _ az az) (hk:=?_);rintro _ _ Am rfl;have⟨qr,qn,O⟩:=bC Am.2 qr qn O;refine I ?_;refine clb xo (hc:=it x2 y2 _ az az) (hk:=?_);rintro _ _ Ao rfl;have O:=xt O Ao.2;refine I ?_;by_cases cv:(rE (ao x1 y2))=0;by_cases cy:(rE (ao y1 x2))=0;refine I ?_;exact qN (t:=4) (u:=5) (s:=6) (q:=7) (v1:=S (rS (ao x1 y2))) (v2:=S (rS (ao y1 x2))) (v3:=S (rS (ao x2 y2))) (v4:=.bool (decide ((rE (ao x2 y2))=0))) Z O kd9 Z Z Z Z
 refine I ?_;exact qN (t:=4) (u:=5) (s:=6) (q:=7) (v1:=S (rS (ao x1 y2))) (v2:=S (rS (ao y1 x2))) (v3:=S (rS (ao x2 y2))) (v4:=.bool false) Z O kd9 Z Z Z Z;refine I ?_;exact qN (t:=4) (u:=5) (s:=6) (q:=7) (v1:=S (rS (ao x1 y2))) (v2:=S (rS (ao y1 x2))) (v3:=S (rS (ao x2 y2))) (v4:=.bool false) Z O kd9 Z Z Z Z;refine I ?_;exact qN (t:=4) (u:=5) (s:=6) (q:=7) (v1:=S []) (v2:=S []) (v3:=S []) (v4:=.bool false) Z O kd9 Z Z Z Z;refine I ?_;exact qN (t:=4) (u:=5) (s:=6) (q:=7) (v1:=S []) (v2:=S []) (v3:=S []) (v4:=.bool false) Z O kd9 Z Z Z Z
def Km (x1 x2 y1 y2:List UInt8)(w:World)(s1:x1.length<=1000000)(s2:x2.length<=1000000)(s3:y1.length<=1000000)(s4:y2.length<=1000000):
 CL 45 #[.agg #[S x1,S x2],.agg #[S y1,S y2]] w (aC w λv w'=>v=ey (q8 (x1,x2) (y1,y2))):=by
 refine aE func45 Z (I ?_);refine bx (λ_ Ar qr=>?_);have O:=Ar.2;refine bx (λAd Ay qn=>?_);have⟨qr,O⟩:=bD Ay.2 qr O;refine al aQ (λ_ Aw Ab=>?_);have⟨qr,qn,O⟩:=bC Aw.2 qr qn O;refine I ?_;refine clb T1 (hc:=vo x1 x2 y1 y2 _ az az az az) (hk:=?_);rintro _ _ Ax rfl;have⟨qr,qn,Ab,O⟩:=bW Ax.2 qr qn Ab O;refine I ?_;rcases qa4 (EL (cc (x1,x2)&&cc (y1,y2)) (ao x1 y2) (ao y1 x2) (ao x2 y2))with cx|cx;refine I ?_;refine cl P7 (vj (gJ (cc (x1,x2)&&cc (y1,y2)) (ao x1 y2)) (gJ (cc (x1,x2)&&cc (y1,y2)) (ao y1 x2)) _ (nz _ _ _) (nz _ _ _)) ?_;rintro _ _ E0 rfl;have⟨qr,qn,Ab,O⟩:=bW E0.2 qr qn Ab O;refine I ?_;by_cases fy:(rE (ku (gJ (cc (x1,x2)&&cc (y1,y2)) (ao x1 y2)) (gJ (cc (x1,x2)&&cc (y1,y2)) (ao y1 x2))))=0;refine I ?_;refine cl qE (jF (rS (ku (gJ (cc (x1,x2)&&cc (y1,y2)) (ao x1 y2)) (gJ (cc (x1,x2)&&cc (y1,y2)) (ao y1 x2)))) (gJ (cc (x1,x2)&&cc (y1,y2)) (ao x2 y2)) _ (Kg _ _) (nz _ _ _)) ?_;rintro _ _ Af rfl;have⟨qr,qn,Ab⟩:=rQ Af.2 qr qn Ab;have O:=xt O Af.2
 refine I ?_;refine SA Ab (λ_ Am As=>?_);have⟨qr,qn⟩:=eR Am qr qn;have O:=bB Am O;refine I ?_;refine aI (v:=.tuple #[.agg #[S (rN (kg (rS (ku (gJ (cc (x1,x2)&&cc (y1,y2)) (ao x1 y2)) (gJ (cc (x1,x2)&&cc (y1,y2)) (ao y1 x2)))) (gJ (cc (x1,x2)&&cc (y1,y2)) (ao x2 y2)))),S (rD (kg (rS (ku (gJ (cc (x1,x2)&&cc (y1,y2)) (ao x1 y2)) (gJ (cc (x1,x2)&&cc (y1,y2)) (ao y1 x2)))) (gJ (cc (x1,x2)&&cc (y1,y2)) (ao x2 y2))))],.int .i64 (IH (kg (rS (ku (gJ (cc (x1,x2)&&cc (y1,y2)) (ao x1 y2)) (gJ (cc (x1,x2)&&cc (y1,y2)) (ao y1 x2)))) (gJ (cc (x1,x2)&&cc (y1,y2)) (ao x2 y2))))]) (cn (r1:=.cell 4 25) (r2:=.tmp 5) Z ?_ ?_) O (qb1 ey (V6 (vm x1 x2 y1 y2) cx fy));refine ag (t:=4) (cs:=[S (rN (kg (rS (ku (gJ (cc (x1,x2)&&cc (y1,y2)) (ao x1 y2)) (gJ (cc (x1,x2)&&cc (y1,y2)) (ao y1 x2)))) (gJ (cc (x1,x2)&&cc (y1,y2)) (ao x2 y2)))),S (rD (kg (rS (ku (gJ (cc (x1,x2)&&cc (y1,y2)) (ao x1 y2)) (gJ (cc (x1,x2)&&cc (y1,y2)) (ao y1 x2)))) (gJ (cc (x1,x2)&&cc (y1,y2)) (ao x2 y2))))]) (b:=Ad.heap.size) (o:=0) eB Z aM ?_ ?_;exact Z;exact aa1 As (i:=0) Z;exact aD (t:=5) Rd _;refine I ?_;refine SA Ab (λ_ Ao Av=>?_);have⟨qr,qn⟩:=eR Ao qr qn;have O:=bB Ao O;refine I ?_
 refine aI (v:=.tuple #[.agg #[S [],S []],.int .i64 40]) (cn (r1:=.cell 4 25) (r2:=.tmp 5) Z ?_ ?_) O (by rw[dM];exact qb1 ey (YV (vm x1 x2 y1 y2) cx fy));refine ag (t:=4) (cs:=[S [],S []]) (b:=Ad.heap.size) (o:=0) eB Z aM ?_ ?_;exact Z;exact aa1 Av (i:=0) Z;exact aD (t:=5) Rd _;refine I ?_;refine SA Ab (λ_ Ap Aq=>?_);have⟨qr,qn⟩:=eR Ap qr qn;have O:=bB Ap O;refine I ?_;refine aI (v:=.tuple #[.agg #[S [],S []],.int .i64 40]) (cn (r1:=.cell 4 25) (r2:=.tmp 5) Z ?_ ?_) O (by rw[dM];exact qb1 ey (V5 (vm x1 x2 y1 y2) cx));refine ag (t:=4) (cs:=[S [],S []]) (b:=Ad.heap.size) (o:=0) eB Z aM ?_ ?_;exact Z;exact aa1 Aq (i:=0) Z;exact aD (t:=5) Rd _
def Kn (x1 x2 y1 y2:List UInt8)(w:World)(s1:x1.length<=1000000)(s2:x2.length<=1000000)(s3:y1.length<=1000000)(s4:y2.length<=1000000):
 CL 46 #[.agg #[S x1,S x2],.agg #[S y1,S y2]] w (aC w λv w'=>v=ey (re (x1,x2) (y1,y2))):=by
 refine aE func46 Z (I ?_);refine bx (λ_ Ar qr=>?_);have O:=Ar.2;refine bx (λAd Ay qn=>?_);have⟨qr,O⟩:=bD Ay.2 qr O;refine al aQ (λ_ Aw Ab=>?_);have⟨qr,qn,O⟩:=bC Aw.2 qr qn O;refine I ?_;refine clb T1 (hc:=vo x1 x2 y1 y2 _ az az az az) (hk:=?_);rintro _ _ Ax rfl;have⟨qr,qn,Ab,O⟩:=bW Ax.2 qr qn Ab O;refine I ?_;rcases qa4 (EL (cc (x1,x2)&&cc (y1,y2)) (ao x1 y2) (ao y1 x2) (ao x2 y2))with cx|cx;refine I ?_;refine cl Mf (pP (gJ (cc (x1,x2)&&cc (y1,y2)) (ao x1 y2)) (gJ (cc (x1,x2)&&cc (y1,y2)) (ao y1 x2)) _ (nz _ _ _) (nz _ _ _)) ?_;rintro _ _ E0 rfl;have⟨qr,qn,Ab,O⟩:=bW E0.2 qr qn Ab O;refine I ?_;by_cases fy:(rE (bi (gJ (cc (x1,x2)&&cc (y1,y2)) (ao x1 y2)) (gJ (cc (x1,x2)&&cc (y1,y2)) (ao y1 x2))))=0;refine I ?_;refine cl qE (jF (rS (bi (gJ (cc (x1,x2)&&cc (y1,y2)) (ao x1 y2)) (gJ (cc (x1,x2)&&cc (y1,y2)) (ao y1 x2)))) (gJ (cc (x1,x2)&&cc (y1,y2)) (ao x2 y2)) _ (Kh _ _) (nz _ _ _)) ?_;rintro _ _ Af rfl;have⟨qr,qn,Ab⟩:=rQ Af.2 qr qn Ab;have O:=xt O Af.2
 refine I ?_;refine SA Ab (λ_ Am As=>?_);have⟨qr,qn⟩:=eR Am qr qn;have O:=bB Am O;refine I ?_;refine aI (v:=.tuple #[.agg #[S (rN (kg (rS (bi (gJ (cc (x1,x2)&&cc (y1,y2)) (ao x1 y2)) (gJ (cc (x1,x2)&&cc (y1,y2)) (ao y1 x2)))) (gJ (cc (x1,x2)&&cc (y1,y2)) (ao x2 y2)))),S (rD (kg (rS (bi (gJ (cc (x1,x2)&&cc (y1,y2)) (ao x1 y2)) (gJ (cc (x1,x2)&&cc (y1,y2)) (ao y1 x2)))) (gJ (cc (x1,x2)&&cc (y1,y2)) (ao x2 y2))))],.int .i64 (IH (kg (rS (bi (gJ (cc (x1,x2)&&cc (y1,y2)) (ao x1 y2)) (gJ (cc (x1,x2)&&cc (y1,y2)) (ao y1 x2)))) (gJ (cc (x1,x2)&&cc (y1,y2)) (ao x2 y2))))]) (cn (r1:=.cell 4 25) (r2:=.tmp 5) Z ?_ ?_) O (qb1 ey (V6 (vn x1 x2 y1 y2) cx fy));refine ag (t:=4) (cs:=[S (rN (kg (rS (bi (gJ (cc (x1,x2)&&cc (y1,y2)) (ao x1 y2)) (gJ (cc (x1,x2)&&cc (y1,y2)) (ao y1 x2)))) (gJ (cc (x1,x2)&&cc (y1,y2)) (ao x2 y2)))),S (rD (kg (rS (bi (gJ (cc (x1,x2)&&cc (y1,y2)) (ao x1 y2)) (gJ (cc (x1,x2)&&cc (y1,y2)) (ao y1 x2)))) (gJ (cc (x1,x2)&&cc (y1,y2)) (ao x2 y2))))]) (b:=Ad.heap.size) (o:=0) eB Z aM ?_ ?_;exact Z;exact aa1 As (i:=0) Z;exact aD (t:=5) Rd _;refine I ?_;refine SA Ab (λ_ Ao Av=>?_);have⟨qr,qn⟩:=eR Ao qr qn;have O:=bB Ao O;refine I ?_
 refine aI (v:=.tuple #[.agg #[S [],S []],.int .i64 40]) (cn (r1:=.cell 4 25) (r2:=.tmp 5) Z ?_ ?_) O (by rw[dM];exact qb1 ey (YV (vn x1 x2 y1 y2) cx fy));refine ag (t:=4) (cs:=[S [],S []]) (b:=Ad.heap.size) (o:=0) eB Z aM ?_ ?_;exact Z;exact aa1 Av (i:=0) Z;exact aD (t:=5) Rd _;refine I ?_;refine SA Ab (λ_ Ap Aq=>?_);have⟨qr,qn⟩:=eR Ap qr qn;have O:=bB Ap O;refine I ?_;refine aI (v:=.tuple #[.agg #[S [],S []],.int .i64 40]) (cn (r1:=.cell 4 25) (r2:=.tmp 5) Z ?_ ?_) O (by rw[dM];exact qb1 ey (V5 (vn x1 x2 y1 y2) cx));refine ag (t:=4) (cs:=[S [],S []]) (b:=Ad.heap.size) (o:=0) eB Z aM ?_ ?_;exact Z;exact aa1 Aq (i:=0) Z;exact aD (t:=5) Rd _
def SI (n:Int):∃ng x,n=cK ng x/\(ng=true->0<x)/\x=n.natAbs:=by
 by_cases h:n<0
 · exact⟨true,n.natAbs,by simp[cK];omega,λ_=>by omega,rfl⟩
 · exact⟨false,n.natAbs,by simp[cK];omega,by simp,rfl⟩
def SJ (h:ng=true->0<x):sC (decide (cK ng x<0)) x=ae (cK ng x):=by
 rw[<-rt]
 congr 1
 cases ng with
 | false=>
   have:decide (cK false x<0)=false:=qa2 (by show¬(x:Int)<0;omega)
   rw[this]
 | true=>
   have:=h Z
   have:decide (cK true x<0)=true:=qa1 (by show -(x:Int)<0;omega)
   rw[this]
def vp :cK ng x=0↔x=0:=by cases ng <;>simp[cK] <;>omega
def CS {ng:Bool}{x:Nat}:-(x:Int)<=cK ng x/\cK ng x<=(x:Int):=by cases ng <;>simp[cK] <;>omega
def Ko (h:ng=true/\0<d):cK ng d<0/\-cK ng d=(d:Int):=by rw[h.1];simp[cK];omega
def SK (h:¬(ng=true/\0<d)):cK ng d=(d:Int):=by cases ng <;>simp_all [cK]
def AR (h:¬x=0):av 10 x=x%10::av 10 (x/10):=gw 10 x U U
def bA (c n:Int):Int:=(if c<0 then -(c+1)else c)%n
def fQ (c n:Int)(h:0<n):0<=bA c n/\bA c n<n:=⟨Int.emod_nonneg _ U,Int.emod_lt_of_pos _ h⟩
def AS {c:Int}(h:c<0):-(c+1)%n=bA c n:=by unfold bA;rw[if_pos h]
def AT {c:Int}(h:¬c<0):c%n=bA c n:=by unfold bA;rw[if_neg h]
def vq (s:List UInt8):List UInt8:=if s=[48]then s else[49]
def wQ (h:-100000000<=n/\n<=100000000):(ae n).length<=1000000:=by
 have:fits n=true:=by
  unfold fits;rw[decide_eq_true_eq]
  have O:(10:Nat)^9<=10^200:=Nat.pow_le_pow_right U U
  omega
 have:=nl this;omega
def AU (hng:ng=true->0<x0)(hx0:x0<=100000000):
 CL 44 #[.int .i64 (cK ng x0)] w (aC w λv w'=>v=S (ae (cK ng x0))):=by
 have As:(av 10 x0).length<=9:=(aW 10 U x0 9).2 U;refine aE func44 Z (I ?_);have Ap:World.ownsRow w w.heap.size 3 1 (.slice none 0 0) 0 (ints []):=iO;have E0:=aa2 w;refine JT [(3,5),(9,22)] (λAv e W=>∃x:Nat,∃ds:List Nat,∃qr:Value,(x=Av)/\(e 4=.int .i64 (cK ng x))/\(e 3=qr)/\(av 10 x0=ds++av 10 x)/\(x<=100000000)/\(bF w W)/\(W.ownsRow w.heap.size 3 1 qr ds.length (ints ds))) (x0) ⟨x0,[],.slice none 0 0,rfl,rfl,rfl,rfl,hx0,E0,Ap⟩ ?_;rintro _ _ _ ⟨x,ds,qr,rfl,Ek,Ad,q1,q2,O,ho⟩;have F1:=bz O;by_cases hx:x=0;rw[hx,gL,List.append_nil]at q1;obtain⟨_,_,rfl,Aq⟩:=rr ho q1.symm;have EE:ds.length<=9:=by rw[<-q1];exact As
 have EW:=show cK ng x=0 from vp.2 hx;refine I ?_;refine clb Hb (hc:=ll Aq U (decide ((cK ng x0)<0))) (hk:=?_);rintro _ _ E1 rfl;have O:=xt O E1.2;refine I ?_;exact ax (t:=2) (v:=S (sC (decide ((cK ng x0)<0)) x0)) Z O (by rw[SJ hng]) Z;by_cases hd:ng=true/\0<x%10;rw[AR hx]at q1;have qn:=qb1 List.length q1;rw[List.length_append,List.length_cons]at qn;have E9:=show¬cK ng x=0 from λh=>hx (vp.1 h);refine I ?_;refine ac (H0 (a:=cK ng x) (b:=10) (c:=cK ng (x%10)) Z Z dc (by rw[AM]) ?_);have F2:=(Ko hd).1;refine I ?_;refine ac (wb (a:=cK ng (x%10)) Z (by have:=@CS ng (x%10);unfold In64;omega) ?_);rw[(Ko hd).2];refine I ?_;refine ac (di (v:=qr) Ad ?_);refine I ?_;refine BS (λ_ Am _ Aw=>?_);have ho:=aX Am ho;have O:=xt O Am;refine AP ho (aa4 Aw) (λAo _ Ax Ar _=>?_);have O:=dQ ho U U O Ar;refine ac (bO (v:=Ao) Z ?_);refine I ?_;refine ac (HZ (a:=cK ng x) (b:=10) (c:=cK ng (x/10)) Z Z dc (AN _ _) (by have:=@CS ng (x/10);unfold In64;omega) ?_);refine I ?_;exact c6 ⟨x/10,ds++[x%10],Ao,rfl,rfl,rfl,(by rw[List.append_assoc];exact q1),U,O,(dT Ax RW (by rw[fF]))⟩
 rw[AR hx]at q1;have qn:=qb1 List.length q1;rw[List.length_append,List.length_cons]at qn;have EP:=show¬cK ng x=0 from λh=>hx (vp.1 h);refine I ?_;refine ac (H0 (a:=cK ng x) (b:=10) (c:=((x%10:Nat):Int)) Z Z dc (by rw[AM];exact SK hd) ?_);refine I ?_;refine ac (di (v:=qr) Ad ?_);refine I ?_;refine BS (λ_ Af _ E7=>?_);have ho:=aX Af ho;have O:=xt O Af;refine AP ho (aa4 E7) (λAb _ E4 Ay _=>?_);have O:=dQ ho U U O Ay;refine ac (bO (v:=Ab) Z ?_);refine I ?_;refine ac (HZ (a:=cK ng x) (b:=10) (c:=cK ng (x/10)) Z Z dc (AN _ _) (by have:=@CS ng (x/10);unfold In64;omega) ?_);refine I ?_;exact c6 ⟨x/10,ds++[x%10],Ab,rfl,rfl,rfl,(by rw[List.append_assoc];exact q1),U,O,(dT E4 RW (by rw[fF]))⟩
def oK (n:Int)(w:World)(h:-100000000<=n/\n<=100000000):CL 44 #[.int .i64 n] w (aC w λv _=>v=S (ae n)):=by
 obtain⟨ng,x,rfl,h1,h2⟩:=SI n
 exact AU h1 (by have:=iH ng x;omega)
def nA (x:List UInt8)(w:World):
 CL 93 #[S x] w (aC w λv w'=>v=S (vq x)):=by
 refine aE func93 Z (I ?_);refine qO (b:=[48]) (I ?_);by_cases cf:x=([48]);refine I ?_;exact ax (t:=2) (v:=S x) Z (aa2 _) (by simp[vq, *]) Z;refine I ?_;exact ax (t:=2) (v:=S [49]) Z (aa2 _) (by simp[vq, *]) Z
def iM (c m:Int)(w:World)(hc:In64 c)(hm:0<m):
 CL 18 #[.int .i64 c,.int .i64 m] w (aC w λv w'=>v=.int .i64 (bA c m)):=by
 unfold In64 at hc;refine aE func18 Z (I ?_);by_cases cf:c<0;refine I ?_;refine wl ?_;refine ac (wb (a:=c+1) Z L7 ?_);refine I ?_;refine ac (mc (a:=-(c+1)) (b:=m) (c:=bA c m) Z Z U U (AS cf) ?_);refine I ?_;exact ax (t:=4) (v:=.int .i64 (bA c m)) Z (aa2 _) Z Z;refine I ?_;refine ac (mc (a:=c) (b:=m) (c:=bA c m) Z Z U U (AT cf) ?_);refine I ?_;exact ax (t:=4) (v:=.int .i64 (bA c m)) Z (aa2 _) Z Z
def lQ (c m:Int)(w:World)(hc:In64 c)(hm:0<m):
 CL 6 #[.int .i64 c,.int .i64 m] w (aC w λv w'=>v=.int .i64 (bA c m)):=by
 unfold In64 at hc;refine aE func6 Z (I ?_);by_cases cf:c<0;refine I ?_;refine wl ?_;refine ac (wb (a:=c+1) Z L7 ?_);refine I ?_;refine ac (mc (a:=-(c+1)) (b:=m) (c:=bA c m) Z Z U U (AS cf) ?_);refine I ?_;exact ax (t:=4) (v:=.int .i64 (bA c m)) Z (aa2 _) Z Z;refine I ?_;refine ac (mc (a:=c) (b:=m) (c:=bA c m) Z Z U U (AT cf) ?_);refine I ?_;exact ax (t:=4) (v:=.int .i64 (bA c m)) Z (aa2 _) Z Z
def V7 (n m:Int)(w:World)(hn:-100000000<=n/\n<=100000000)(hm:-100000000<=m/\m<=100000000):
 CL 17 #[.int .i64 n,.int .i64 m] w (aC w λv w'=>v=ey (kg (ae n) (ae m))):=by
 refine aE func17 Z (I ?_);refine al aQ (λ_ Af qr=>?_);have O:=Af.2;refine I ?_;refine clb Me (hc:=oK n _ U) (hk:=?_);rintro _ _ qn rfl;have⟨qr,O⟩:=bD qn.2 qr O;refine I ?_;refine clb Me (hc:=oK m _ U) (hk:=?_);rintro _ _ Ad rfl;have⟨qr,O⟩:=bD Ad.2 qr O;refine clb qE (hc:=jF (ae n) (ae m) _ (wQ U) (wQ U)) (hk:=?_);rintro _ _ Am rfl;have⟨qr,O⟩:=bD Am.2 qr O;refine I ?_;refine SA qr (λ_ Ab Ao=>?_);have O:=bB Ab O;refine I ?_;refine aI (v:=.tuple #[.agg #[S (rN (kg (ae n) (ae m))),S (rD (kg (ae n) (ae m)))],.int .i64 (IH (kg (ae n) (ae m)))]) (cn (r1:=.cell 4 25) (r2:=.tmp 5) Z ?_ ?_) O Z;refine ag (t:=4) (cs:=[S (rN (kg (ae n) (ae m))),S (rD (kg (ae n) (ae m)))]) (b:=w.heap.size) (o:=0) eB Z aM ?_ ?_;exact Z;exact aa1 Ao (i:=0) Z;exact aD (t:=5) Rd _
end Go.Proofs.YthpinljhfnodeaaGreatDoor
