/- Part of the proof of a statement about special functions. -/
import Derived.Test.YtgcfffdpcefifaaGreatDoorRat2ToDec6
set_option linter.all false
namespace Go.Proofs.YtgcfffdpcefifaaGreatDoor
variable {ng:Bool}{l m:List UInt8}{a lo b n c i n1 n2 x c1 lo1 c2 lo2 k d x0 f h:Nat}{A A1 A2:Option Addr}{w w':World}
section
set_option maxRecDepth 100000
open Go Go.Eng Go.RowKit Tryz
attribute [local irreducible] wpListIn Code.wpIn Oper.wpIn Exit.then Exit.inBlock Exit.noGoto
set_option maxHeartbeats 40000000
def bL {a:Int}(h:In64 a:=by unfold In64;omega):In64 a:=h
def gB (a i:Nat):(aj 10 a).getD i 0<10:=eT (cu 10 U a) i
def dO (l:List Nat)(x:Nat):ints l++[Value.int .i64 x]=ints (l++[x]):=by simp[ints]
def kQ (m:Nat):(madeCells (Value.int IntKind.i64 0).cells (m*1)).toList=ints (List.replicate m 0):=mn m
def Dg.put (k:fe w w' b)(hb:b<lo)(h:Dg w lo A n c a):Dg w' lo A n c a:=⟨h.row.put k hb,h.len,h.cap⟩
def Dg.hi (h:Dg w lo A n c a):∀ad,A=some ad->ad.block<w.heap.size:=h.row.hi
def QL (i:Nat)(T:List Nat):List Nat:=List.replicate i 0++T
def ei (i:Nat)(T:List Nat):(QL i T).length=i+T.length:=by simp[QL]
def wm (T:List Nat)(h:0<i):QL i T=QL (i-1) (0::T):=by
 obtain⟨j,rfl⟩:∃j,i=j+1:=⟨i-1,by omega⟩
 simp[QL,List.replicate_succ']
def pj (i c:Nat)(T:List Nat):(QL i (c::T)).getD i 0=c:=by simp[QL,List.getD]
def uR (i c d:Nat)(T:List Nat):(QL i (c::T)).set i d=QL i (d::T):=by
 induction i with
 |zero=>rfl
 |succ i ih=>unfold QL at *;rw[List.replicate_succ,List.cons_append,List.cons_append,List.set_cons_succ,ih]
def tn (n:Nat):QL n []=List.replicate n 0:=by simp[QL]
def GY (r d:Nat)(hd:d<10):cV (d::aj 10 r)=aj 10 (r*10+d):=by
 rw[jL 10 U (d::aj 10 r) (λx hx=>by
  rcases List.mem_cons.1 hx with rfl|hx
  · exact hd
  · exact cu 10 U r x hx)]
 simp only[bg,bU 10 (show 2<=10 by omega)]
 congr 1;omega
def zM (h1:(aj 10 a).length=n1)(h2:(aj 10 b).length=n2)(h:a<b*10):n1<=n2+1:=by
 rw[<-h1,<-h2,aF 10 U,Nat.pow_succ]
 have:=kK (B:=10) U b
 omega
def CZ (h:b<=a):(0:Int)<=aw (a:Int) (b:Int):=by
 rcases Nat.eq_or_lt_of_le h with h1|h1
 · rw[dW U];omega
 · rw[bM U];omega
def C0 (h:¬b<=a):¬(0:Int)<=aw (a:Int) (b:Int):=by
 rw[bZ U];omega
def zN {r r2:Nat}(h:c*b+r2=r*10+x)(hr:r<b)(hx:x<10):c<10:=by
 rcases Nat.lt_or_ge c 10 with h1|h1
 · exact h1
 · have:=Nat.mul_le_mul_right b h1;omega
def qB (h1:Dg w lo1 A1 n1 c1 a)(s1:n1<=100000)(h2:Dg w lo2 A2 n2 c2 b)(s2:n2<=100000):
 CL 125 #[.slice A1 n1 c1,.slice A2 n2 c2] w (aH w λv w'=>∃A n c,v=.slice A n c/\Dg w' w.heap.size A n c (a+b)):=by
 have ML:=h1.len;have MO:=h2.len;refine aC func125 Z (I ?_);have M8:World.ownsRow w w.heap.size 3 1 (.slice none 0 0) 0 (ints []):=ic;have M4:=aa4 w;refine cM [(5,52)] (λM5 e W=>∃k:Nat,∃H:Value,((max n1 n2)+1-k=M5)/\(e 6=.int .i64 (((eR (aj 10 a) (aj 10 b) k).1:Nat):Int))/\(e 7=.int .i64 k)/\(e 5=H)/\(k<=(max n1 n2)\/k=(max n1 n2)+1/\0<(eR (aj 10 a) (aj 10 b) (max n1 n2)).1)/\(a8 w W)/\(W.ownsRow w.heap.size 3 1 H k (ints (eR (aj 10 a) (aj 10 b) k).2))) ((max n1 n2)+1-0) ⟨0,.slice none 0 0,rfl,rfl,rfl,rfl,(Or.inl (qa7 _)),M4,M8⟩ ?_;rintro _ _ _ ⟨k,H,rfl,MI,MQ,kk,G,D,ho⟩;have MR:=bz D;by_cases hka:k<n1;by_cases hkb:k<n2;have Ab:(eR (aj 10 a) (aj 10 b) k).1<=1:=cO (gB a) (gB b) k;have g:=gB a k;have kd:=gB b k;have O:n1<=k->(aj 10 a).getD k 0=0:=λh=>ci U;have Ad:n2<=k->(aj 10 b).getD k 0=0:=λh=>ci U;refine I ?_;obtain⟨od,Aw,ME,Kp⟩:=((h1.row).ext D).cells k _ (aO (xs:=(aj 10 a)) U);refine ab (am (i:=(k)) (oo:=Aw+k) gq eN Z ME Z U Vh ?_);refine ab (aT (v:=.int .i64 (((aj 10 a).getD k 0:Nat):Int)) (b:=od) (o:=Aw+k) U3 Z Z Kp ?_);refine ab (bb (a:=(((eR (aj 10 a) (aj 10 b) k).1:Nat):Int)) (b:=(((aj 10 a).getD k 0:Nat):Int)) (c:=(((eR (aj 10 a) (aj 10 b) k).1+(aj 10 a).getD k 0:Nat):Int)) Z Z bL U ?_)
 refine I ?_;obtain⟨Jx,Ax,MA,M2⟩:=((h2.row).ext D).cells k _ (aO (xs:=(aj 10 b)) U);refine ab (am (i:=(k)) (oo:=Ax+k) gq eN Z MA Z U Vh ?_);refine ab (aT (v:=.int .i64 (((aj 10 b).getD k 0:Nat):Int)) (b:=Jx) (o:=Ax+k) U3 Z Z M2 ?_);refine ab (bb (a:=(((eR (aj 10 a) (aj 10 b) k).1+(aj 10 a).getD k 0:Nat):Int)) (b:=(((aj 10 b).getD k 0:Nat):Int)) (c:=(((eR (aj 10 a) (aj 10 b) k).1+(aj 10 a).getD k 0+(aj 10 b).getD k 0:Nat):Int)) Z Z bL U ?_);refine I ?_;refine ab (cW (v:=H) kk ?_);refine I ?_;refine ab (jz (a:=(((eR (aj 10 a) (aj 10 b) k).1+(aj 10 a).getD k 0+(aj 10 b).getD k 0:Nat):Int)) (b:=10) (c:=((((eR (aj 10 a) (aj 10 b) k).1+(aj 10 a).getD k 0+(aj 10 b).getD k 0)%10:Nat):Int)) Z Z U U U ?_);refine BS (λ_ Am _ E9=>?_);have MF:=bO ho;have ho:=aD Am ho;have D:=xt D Am;have MJ:=bz Am;refine AP ho (aa3 E9) (λAs _ EW Av _=>?_);have D:=de ho U U D Av;have MS:=Av.size;refine ab (bJ (v:=As) Z ?_);refine I ?_;refine ab (lf (a:=(((eR (aj 10 a) (aj 10 b) k).1+(aj 10 a).getD k 0+(aj 10 b).getD k 0:Nat):Int)) (b:=10) (c:=(((eR (aj 10 a) (aj 10 b) (k+1)).1:Nat):Int)) Z Z U U bL V4 ?_);refine I ?_
 refine ab (bb (a:=(k:Int)) (b:=1) (c:=((k+1:Nat):Int)) Z Z bL U ?_);refine I ?_;exact bQ (hk:=by first|omega|(rcases G with h|⟨h,-⟩;omega;exfalso;have E:=ij (X:=(aj 10 a)) (Y:=(aj 10 b)) (k:=(max n1 n2)) U U (cO (gB a) (gB b) _);rw[show(max n1 n2)+1=k by omega]at E;omega)) ⟨k+1,As,rfl,rfl,rfl,rfl,(by rcases G with h|⟨h,-⟩ <;>first|(left;omega)|(right;refine⟨by omega,?_⟩;rw[show(max n1 n2)=k by omega];omega)|(exfalso;have E:=ij (X:=(aj 10 a)) (Y:=(aj 10 b)) (k:=(max n1 n2)) U U (cO (gB a) (gB b) _);rw[show(max n1 n2)+1=k by omega]at E;omega)),D,(cL EW Z (by rw[dO];rfl))⟩;have Ab:(eR (aj 10 a) (aj 10 b) k).1<=1:=cO (gB a) (gB b) k;have g:=gB a k;have kd:=gB b k;have O:n1<=k->(aj 10 a).getD k 0=0:=λh=>ci U;have Ad:n2<=k->(aj 10 b).getD k 0=0:=λh=>ci U;refine I ?_;obtain⟨L2,E1,M0,MD⟩:=((h1.row).ext D).cells k _ (aO (xs:=(aj 10 a)) U);refine ab (am (i:=(k)) (oo:=E1+k) gq eN Z M0 Z U Vh ?_);refine ab (aT (v:=.int .i64 (((aj 10 a).getD k 0:Nat):Int)) (b:=L2) (o:=E1+k) U3 Z Z MD ?_);refine ab (bb (a:=(((eR (aj 10 a) (aj 10 b) k).1:Nat):Int)) (b:=(((aj 10 a).getD k 0:Nat):Int)) (c:=(((eR (aj 10 a) (aj 10 b) k).1+(aj 10 a).getD k 0:Nat):Int)) Z Z bL U ?_);refine I ?_;refine ab (cW (v:=H) kk ?_);refine I ?_;refine ab (jz (a:=(((eR (aj 10 a) (aj 10 b) k).1+(aj 10 a).getD k 0:Nat):Int)) (b:=10) (c:=((((eR (aj 10 a) (aj 10 b) k).1+(aj 10 a).getD k 0+(aj 10 b).getD k 0)%10:Nat):Int)) Z Z U U U ?_);refine BS (λ_ Ap _ K2=>?_);have MK:=bO ho;have ho:=aD Ap ho;have D:=xt D Ap;have MW:=bz Ap;refine AP ho (aa3 K2) (λD2 _ Ix wr _=>?_);have D:=de ho U U D wr;have MN:=wr.size;refine ab (bJ (v:=D2) Z ?_)
 refine I ?_;refine ab (lf (a:=(((eR (aj 10 a) (aj 10 b) k).1+(aj 10 a).getD k 0:Nat):Int)) (b:=10) (c:=(((eR (aj 10 a) (aj 10 b) (k+1)).1:Nat):Int)) Z Z U U bL V4 ?_);refine I ?_;refine ab (bb (a:=(k:Int)) (b:=1) (c:=((k+1:Nat):Int)) Z Z bL U ?_);refine I ?_;exact bQ (hk:=by first|omega|(rcases G with h|⟨h,-⟩;omega;exfalso;have E:=ij (X:=(aj 10 a)) (Y:=(aj 10 b)) (k:=(max n1 n2)) U U (cO (gB a) (gB b) _);rw[show(max n1 n2)+1=k by omega]at E;omega)) ⟨k+1,D2,rfl,rfl,rfl,rfl,(by rcases G with h|⟨h,-⟩ <;>first|(left;omega)|(right;refine⟨by omega,?_⟩;rw[show(max n1 n2)=k by omega];omega)|(exfalso;have E:=ij (X:=(aj 10 a)) (Y:=(aj 10 b)) (k:=(max n1 n2)) U U (cO (gB a) (gB b) _);rw[show(max n1 n2)+1=k by omega]at E;omega)),D,(cL Ix Z (by rw[dO];rfl))⟩;by_cases hkb:k<n2;have Ab:(eR (aj 10 a) (aj 10 b) k).1<=1:=cO (gB a) (gB b) k;have g:=gB a k;have kd:=gB b k;have O:n1<=k->(aj 10 a).getD k 0=0:=λh=>ci U;have Ad:n2<=k->(aj 10 b).getD k 0=0:=λh=>ci U;refine I ?_;obtain⟨E7,B2,M1,MB⟩:=((h2.row).ext D).cells k _ (aO (xs:=(aj 10 b)) U);refine ab (am (i:=(k)) (oo:=B2+k) gq eN Z M1 Z U Vh ?_);refine ab (aT (v:=.int .i64 (((aj 10 b).getD k 0:Nat):Int)) (b:=E7) (o:=B2+k) U3 Z Z MB ?_);refine ab (bb (a:=(((eR (aj 10 a) (aj 10 b) k).1:Nat):Int)) (b:=(((aj 10 b).getD k 0:Nat):Int)) (c:=(((eR (aj 10 a) (aj 10 b) k).1+(aj 10 a).getD k 0+(aj 10 b).getD k 0:Nat):Int)) Z Z bL U ?_);refine I ?_;refine ab (cW (v:=H) kk ?_);refine I ?_;refine ab (jz (a:=(((eR (aj 10 a) (aj 10 b) k).1+(aj 10 a).getD k 0+(aj 10 b).getD k 0:Nat):Int)) (b:=10) (c:=((((eR (aj 10 a) (aj 10 b) k).1+(aj 10 a).getD k 0+(aj 10 b).getD k 0)%10:Nat):Int)) Z Z U U U ?_);refine BS (λ_ Af _ MC=>?_);have MV:=bO ho;have ho:=aD Af ho;have D:=xt D Af;have MG:=bz Af;refine AP ho (aa3 MC) (λB1 _ M7 Aq _=>?_);have D:=de ho U U D Aq
 have MM:=Aq.size;refine ab (bJ (v:=B1) Z ?_);refine I ?_;refine ab (lf (a:=(((eR (aj 10 a) (aj 10 b) k).1+(aj 10 a).getD k 0+(aj 10 b).getD k 0:Nat):Int)) (b:=10) (c:=(((eR (aj 10 a) (aj 10 b) (k+1)).1:Nat):Int)) Z Z U U bL V4 ?_);refine I ?_;refine ab (bb (a:=(k:Int)) (b:=1) (c:=((k+1:Nat):Int)) Z Z bL U ?_);refine I ?_;exact bQ (hk:=by first|omega|(rcases G with h|⟨h,-⟩;omega;exfalso;have E:=ij (X:=(aj 10 a)) (Y:=(aj 10 b)) (k:=(max n1 n2)) U U (cO (gB a) (gB b) _);rw[show(max n1 n2)+1=k by omega]at E;omega)) ⟨k+1,B1,rfl,rfl,rfl,rfl,(by rcases G with h|⟨h,-⟩ <;>first|(left;omega)|(right;refine⟨by omega,?_⟩;rw[show(max n1 n2)=k by omega];omega)|(exfalso;have E:=ij (X:=(aj 10 a)) (Y:=(aj 10 b)) (k:=(max n1 n2)) U U (cO (gB a) (gB b) _);rw[show(max n1 n2)+1=k by omega]at E;omega)),D,(cL M7 Z (by rw[dO];rfl))⟩;by_cases hcr:0<(eR (aj 10 a) (aj 10 b) k).1;have Ab:(eR (aj 10 a) (aj 10 b) k).1<=1:=cO (gB a) (gB b) k;have g:=gB a k;have kd:=gB b k;have O:n1<=k->(aj 10 a).getD k 0=0:=λh=>ci U;have Ad:n2<=k->(aj 10 b).getD k 0=0:=λh=>ci U;refine I ?_;refine ab (cW (v:=H) kk ?_);refine I ?_;refine ab (jz (a:=(((eR (aj 10 a) (aj 10 b) k).1:Nat):Int)) (b:=10) (c:=((((eR (aj 10 a) (aj 10 b) k).1+(aj 10 a).getD k 0+(aj 10 b).getD k 0)%10:Nat):Int)) Z Z U U U ?_);refine BS (λ_ ny _ M3=>?_);have MH:=bO ho;have ho:=aD ny ho;have D:=xt D ny;have MU:=bz ny;refine AP ho (aa3 M3) (λAy _ M6 Ar _=>?_);have D:=de ho U U D Ar;have MP:=Ar.size;refine ab (bJ (v:=Ay) Z ?_);refine I ?_;refine ab (lf (a:=(((eR (aj 10 a) (aj 10 b) k).1:Nat):Int)) (b:=10) (c:=(((eR (aj 10 a) (aj 10 b) (k+1)).1:Nat):Int)) Z Z U U bL V4 ?_);refine I ?_;refine ab (bb (a:=(k:Int)) (b:=1) (c:=((k+1:Nat):Int)) Z Z bL U ?_);refine I ?_;exact bQ (hk:=by first|omega|(rcases G with h|⟨h,-⟩;omega;exfalso;have E:=ij (X:=(aj 10 a)) (Y:=(aj 10 b)) (k:=(max n1 n2)) U U (cO (gB a) (gB b) _);rw[show(max n1 n2)+1=k by omega]at E;omega)) ⟨k+1,Ay,rfl,rfl,rfl,rfl,(by rcases G with h|⟨h,-⟩ <;>first|(left;omega)|(right;refine⟨by omega,?_⟩;rw[show(max n1 n2)=k by omega];omega)|(exfalso;have E:=ij (X:=(aj 10 a)) (Y:=(aj 10 b)) (k:=(max n1 n2)) U U (cO (gB a) (gB b) _);rw[show(max n1 n2)+1=k by omega]at E;omega)),D,(cL M6 Z (by rw[dO];rfl))⟩
 have Ab:(eR (aj 10 a) (aj 10 b) k).1<=1:=cO (gB a) (gB b) k;have g:=gB a k;have kd:=gB b k;have O:n1<=k->(aj 10 a).getD k 0=0:=λh=>ci U;have Ad:n2<=k->(aj 10 b).getD k 0=0:=λh=>ci U;have M9:=CX h1.len h2.len (k:=k) U U U U;obtain⟨Ao,D1,rfl,E4⟩:=mx ho M9;refine I ?_;exact an (t:=4) (v:=.slice Ao k D1) Z D ⟨Ao,k,D1,rfl,E4⟩ Z
theorem jk (h1:Dg w lo1 A1 n1 c1 a)(s1:n1<=100000)(h2:Dg w lo2 A2 n2 c2 b)(s2:n2<=100000)(hle:b<=a):
 CL 126 #[.slice A1 n1 c1,.slice A2 n2 c2] w (aH w λv w'=>∃A n c,v=.slice A n c/\Dg w' w.heap.size A n c (a-b)):=by
 have MW:=h1.len;have My:=h2.len;refine aC func126 rfl ?_;refine I ?_;have MM:World.ownsRow w w.heap.size 3 1 (.slice none 0 0) 0 (ints []):=ic;have M5:=aa4 w;refine cM [(5,38)] (λMD e W=>∃k:Nat,∃G:Value,(n1-k=MD)/\(e 6=.int .i64 ((((gj (aj 10 a) (aj 10 b) k).1:Nat):Int)))/\(e 7=.int .i64 k)/\(e 5=G)/\(k<=n1)/\(a8 w W)/\(W.ownsRow w.heap.size 3 1 G k (ints (gj (aj 10 a) (aj 10 b) k).2))) (n1-0) ⟨0,.slice none 0 0,rfl,rfl,rfl,rfl,(qa7 _),M5,MM⟩ ?_;rintro _ _ _ ⟨k,G,rfl,N5,N3,H,MX,D,ho⟩;have MV:=bz D;by_cases hka:k<n1;by_cases hkb:k<n2;by_cases hng:(aj 10 a).getD k 0<(gj (aj 10 a) (aj 10 b) k).1+(aj 10 b).getD k 0;have Af:(gj (aj 10 a) (aj 10 b) k).1<=1:=eS _ _ k;have Ab:=gB a k;have g:=gB b k;have Am:n2<=k->(aj 10 b).getD k 0=0:=λh=>ci U;have E:(gj (aj 10 a) (aj 10 b) (k+1))=(1,(gj (aj 10 a) (aj 10 b) k).2++[(aj 10 a).getD k 0+10-(gj (aj 10 a) (aj 10 b) k).1-(aj 10 b).getD k 0]):=if_pos hng;refine I ?_;obtain⟨M7,Aw,M9,M2⟩:=((h1.row).ext D).cells k _ (aO (xs:=(aj 10 a)) U);refine ab (am (i:=(k)) (oo:=Aw+k) gq eN rfl M9 rfl U (by rw[Nat.mul_one]) ?_);refine ab (aT (v:=.int .i64 ((((aj 10 a).getD k 0:Nat):Int))) (b:=M7) (o:=Aw+k) U3 rfl rfl M2 ?_)
 refine I ?_;refine oO ?_;refine I ?_;obtain⟨MJ,B1,MO,MK⟩:=((h2.row).ext D).cells k _ (aO (xs:=(aj 10 b)) U);refine ab (am (i:=(k)) (oo:=B1+k) gq eN rfl MO rfl U (by rw[Nat.mul_one]) ?_);refine ab (aT (v:=.int .i64 ((((aj 10 b).getD k 0:Nat):Int))) (b:=MJ) (o:=B1+k) U3 rfl rfl MK ?_);refine oO ?_;refine I ?_;refine ab (bb (a:=((((aj 10 a).getD k 0:Nat):Int)-(((gj (aj 10 a) (aj 10 b) k).1:Nat):Int))-(((aj 10 b).getD k 0:Nat):Int)) (b:=10) (c:=(((aj 10 a).getD k 0+10-(gj (aj 10 a) (aj 10 b) k).1-(aj 10 b).getD k 0:Nat):Int)) rfl rfl bL U ?_);refine I ?_;refine ab (cW (v:=G) H ?_);refine I ?_;refine BS (λ_ kd _ ML=>?_);have MS:=bO ho;have ho:=aD kd ho;have D:=xt D kd;have Mz:=bz kd;refine AP ho (aa3 ML) (λwr _ MB Ap _=>?_);have D:=de ho U U D Ap;have MQ:=Ap.size;refine ab (bJ (v:=wr) rfl ?_);refine I ?_;refine ab (bb (a:=(k:Int)) (b:=1) (c:=((k+1:Nat):Int)) rfl rfl bL U ?_);refine I ?_;exact bQ ⟨k+1,wr,rfl,(by rw[E];rfl),rfl,rfl,U,D,(cL MB rfl (by rw[dO,E]))⟩;have Af:(gj (aj 10 a) (aj 10 b) k).1<=1:=eS _ _ k;have Ab:=gB a k;have g:=gB b k;have Am:n2<=k->(aj 10 b).getD k 0=0:=λh=>ci U
 have E:(gj (aj 10 a) (aj 10 b) (k+1))=(0,(gj (aj 10 a) (aj 10 b) k).2++[(aj 10 a).getD k 0-(gj (aj 10 a) (aj 10 b) k).1-(aj 10 b).getD k 0]):=if_neg hng;refine I ?_;obtain⟨ME,E4,MI,MF⟩:=((h1.row).ext D).cells k _ (aO (xs:=(aj 10 a)) U);refine ab (am (i:=(k)) (oo:=E4+k) gq eN rfl MI rfl U (by rw[Nat.mul_one]) ?_);refine ab (aT (v:=.int .i64 ((((aj 10 a).getD k 0:Nat):Int))) (b:=ME) (o:=E4+k) U3 rfl rfl MF ?_);refine I ?_;refine oO ?_;refine I ?_;obtain⟨Kp,E1,Ix,ny⟩:=((h2.row).ext D).cells k _ (aO (xs:=(aj 10 b)) U);refine ab (am (i:=(k)) (oo:=E1+k) gq eN rfl Ix rfl U (by rw[Nat.mul_one]) ?_);refine ab (aT (v:=.int .i64 ((((aj 10 b).getD k 0:Nat):Int))) (b:=Kp) (o:=E1+k) U3 rfl rfl ny ?_);refine ab (fg (a:=(((aj 10 a).getD k 0:Nat):Int)-(((gj (aj 10 a) (aj 10 b) k).1:Nat):Int)) (b:=(((aj 10 b).getD k 0:Nat):Int)) (c:=(((aj 10 a).getD k 0-(gj (aj 10 a) (aj 10 b) k).1-(aj 10 b).getD k 0:Nat):Int)) rfl rfl bL U ?_);refine I ?_;refine ab (cW (v:=G) H ?_);refine I ?_;refine BS (λ_ Ad _ M3=>?_);have MP:=bO ho;have ho:=aD Ad ho;have D:=xt D Ad;have N6:=bz Ad;refine AP ho (aa3 M3) (λAy _ MG Aq _=>?_);have D:=de ho U U D Aq;have N4:=Aq.size
 refine ab (bJ (v:=Ay) rfl ?_);refine I ?_;refine ab (bb (a:=(k:Int)) (b:=1) (c:=((k+1:Nat):Int)) rfl rfl bL U ?_);refine I ?_;exact bQ ⟨k+1,Ay,rfl,(by rw[E];rfl),rfl,rfl,U,D,(cL MG rfl (by rw[dO,E]))⟩;by_cases hng:(aj 10 a).getD k 0<(gj (aj 10 a) (aj 10 b) k).1+(aj 10 b).getD k 0;have Af:(gj (aj 10 a) (aj 10 b) k).1<=1:=eS _ _ k;have Ab:=gB a k;have g:=gB b k;have Am:n2<=k->(aj 10 b).getD k 0=0:=λh=>ci U;have E:(gj (aj 10 a) (aj 10 b) (k+1))=(1,(gj (aj 10 a) (aj 10 b) k).2++[(aj 10 a).getD k 0+10-(gj (aj 10 a) (aj 10 b) k).1-(aj 10 b).getD k 0]):=if_pos hng;refine I ?_;obtain⟨MC,od,MH,M6⟩:=((h1.row).ext D).cells k _ (aO (xs:=(aj 10 a)) U);refine ab (am (i:=(k)) (oo:=od+k) gq eN rfl MH rfl U (by rw[Nat.mul_one]) ?_);refine ab (aT (v:=.int .i64 ((((aj 10 a).getD k 0:Nat):Int))) (b:=MC) (o:=od+k) U3 rfl rfl M6 ?_);refine I ?_;refine oO ?_;refine I ?_;refine ab (bb (a:=(((aj 10 a).getD k 0:Nat):Int)-(((gj (aj 10 a) (aj 10 b) k).1:Nat):Int)) (b:=10) (c:=(((aj 10 a).getD k 0+10-(gj (aj 10 a) (aj 10 b) k).1-(aj 10 b).getD k 0:Nat):Int)) rfl rfl bL U ?_)
 refine I ?_;refine ab (cW (v:=G) H ?_);refine I ?_;refine BS (λ_ O _ M0=>?_);have MU:=bO ho;have ho:=aD O ho;have D:=xt D O;have MY:=bz O;refine AP ho (aa3 M0) (λE7 _ EW D2 _=>?_);have D:=de ho U U D D2;have MZ:=D2.size;refine ab (bJ (v:=E7) rfl ?_);refine I ?_;refine ab (bb (a:=(k:Int)) (b:=1) (c:=((k+1:Nat):Int)) rfl rfl bL U ?_);refine I ?_;exact bQ ⟨k+1,E7,rfl,(by rw[E];rfl),rfl,rfl,U,D,(cL EW rfl (by rw[dO,E]))⟩;have Af:(gj (aj 10 a) (aj 10 b) k).1<=1:=eS _ _ k;have Ab:=gB a k;have g:=gB b k;have Am:n2<=k->(aj 10 b).getD k 0=0:=λh=>ci U;have E:(gj (aj 10 a) (aj 10 b) (k+1))=(0,(gj (aj 10 a) (aj 10 b) k).2++[(aj 10 a).getD k 0-(gj (aj 10 a) (aj 10 b) k).1-(aj 10 b).getD k 0]):=if_neg hng;refine I ?_;obtain⟨M4,Ar,Jx,L2⟩:=((h1.row).ext D).cells k _ (aO (xs:=(aj 10 a)) U);refine ab (am (i:=(k)) (oo:=Ar+k) gq eN rfl Jx rfl U (by rw[Nat.mul_one]) ?_);refine ab (aT (v:=.int .i64 ((((aj 10 a).getD k 0:Nat):Int))) (b:=M4) (o:=Ar+k) U3 rfl rfl L2 ?_);refine I ?_;refine ab (fg (a:=(((aj 10 a).getD k 0:Nat):Int)) (b:=(((gj (aj 10 a) (aj 10 b) k).1:Nat):Int)) (c:=(((aj 10 a).getD k 0-(gj (aj 10 a) (aj 10 b) k).1-(aj 10 b).getD k 0:Nat):Int)) rfl rfl bL U ?_)
 refine I ?_;refine ab (cW (v:=G) H ?_);refine I ?_;refine BS (λ_ kk _ M1=>?_);have N0:=bO ho;have ho:=aD kk ho;have D:=xt D kk;have N1:=bz kk;refine AP ho (aa3 M1) (λAs _ MA Ax _=>?_);have D:=de ho U U D Ax;have MR:=Ax.size;refine ab (bJ (v:=As) rfl ?_);refine I ?_;refine ab (bb (a:=(k:Int)) (b:=1) (c:=((k+1:Nat):Int)) rfl rfl bL U ?_);refine I ?_;exact bQ ⟨k+1,As,rfl,(by rw[E];rfl),rfl,rfl,U,D,(cL MA rfl (by rw[dO,E]))⟩;have MN:k=n1:=by omega
 obtain⟨Ao,D1,rfl,M8,-⟩:=dt ho;refine I ?_;refine clb pZ (hc:=gS (aa3 ho) (ki _ _ _) M8 U) (hk:=?_);rintro _ _ Av ⟨B2,rfl,E9,K2⟩;have ho:=aD Av.2 ho;have D:=xt D Av.2;refine I ?_;exact an (t:=4) (v:=.slice Ao B2 D1) rfl D ⟨Ao,B2,D1,rfl,Dg.trim (aa3 ho) (uQ (gB a) (gB b) k) (by rw[MN];exact CY h1.len h2.len hle) E9 (by rw[ki];exact K2) U⟩ rfl
def kR (h1:Dg w lo1 A1 n1 c1 a)(s1:n1<=100000)(h2:Dg w lo2 A2 n2 c2 b)(s2:n2<=100000):
 CL 122 #[.slice A1 n1 c1,.slice A2 n2 c2] w (aH w λv w'=>∃A n c,v=.slice A n c/\Dg w' w.heap.size A n c (a*b)):=by
 have MD:=h1.len;have M4:=h2.len;refine aC func122 Z (I ?_);refine ab (bb (a:=(n1:Int)) (b:=(n2:Int)) (c:=(((n1+n2):Nat):Int)) Z Z bL U ?_);refine ab (oe (m:=(n1+n2)) gq kH Z Z U Vv (λ_ As _ Ao=>?_));have Av:=As;have MC:=bz As;have hq:=nB Ao;rw[kQ]at hq;clear Ao;refine I ?_;refine cM [(6,9),(16,63)] (λkk e W=>∃i:Nat,∃L:List Nat,(n1-i=kk)/\(e 6=.int .i64 i)/\(i<=n1)/\(tm (aj 10 a) (aj 10 b) i (n1+n2) 0 0 L)/\(a8 w W)/\(ae W w.heap.size 3 (ints L).toArray)) (n1-0) ⟨0,(List.replicate (n1+n2) 0),rfl,rfl,(qa7 _),(tm.start _ _ _),Av,hq⟩ ?_;rintro _ _ _ ⟨i,L,rfl,M5,M7,H,G,hq⟩;have M9:=bz G;by_cases hi:i<n1;refine I ?_;refine cM [(7,9),(22,63)] (λkk e W=>∃k:Nat,∃c:Nat,∃L2:List Nat,((n1+n2)-(i+k)=kk)/\(e 7=.int .i64 c)/\(e 8=.int .i64 k)/\(tm (aj 10 a) (aj 10 b) i (n1+n2) k c L2)/\(a8 w W)/\(ae W w.heap.size 3 (ints L2).toArray)) ((n1+n2)-(i+0)) ⟨0,0,L,rfl,rfl,rfl,H,G,hq⟩ ?_;rintro _ _ _ ⟨k,c,L2,rfl,M3,M6,E,D,hq⟩;have MB:=bz D;by_cases hkb:k<n2;have hroom:=E.room (cu 10 U a) (cu 10 U b) h1.len h2.len hi U;have E9:=E.len;have Ix:=E.c9;have E4:=eT E.lt (i+k);have M2:=gB a i;have K2:=gB b k
 have Kp:(aj 10 a).getD i 0*(aj 10 b).getD k 0<=9*9:=qb7 U U;have Aq:((((aj 10 a).getD i 0:Nat):Int)*(((aj 10 b).getD k 0:Nat):Int))=(((aj 10 a).getD i 0*(aj 10 b).getD k 0:Nat):Int):=by rw[Int.natCast_mul]
 refine I ?_;refine ab (bb (a:=(i:Int)) (b:=(k:Int)) (c:=((i+k:Nat):Int)) Z Z bL U ?_);refine ab (am (A:=some ⟨w.heap.size,0,none⟩) (bk:=w.heap.size) (o:=0) (m:=(n1+n2)) (c:=(n1+n2)) (i:=i+k) (oo:=i+k) gq eN Z Z (bR Z U) U U ?_);refine ab (aT (v:=.int .i64 ((L2.getD (i+k) 0:Nat):Int)) U3 Z Z (aa8 hq (by rw[List.getElem?_toArray];exact aO U)) ?_);refine I ?_;refine ab (bb (a:=((L2.getD (i+k) 0:Nat):Int)) (b:=(c:Int)) (c:=((L2.getD (i+k) 0+c:Nat):Int)) Z Z bL Z ?_);refine I ?_;obtain⟨Jx,Ar,D1,O⟩:=((h1.row).ext D).cells i _ (aO (xs:=(aj 10 a)) U);obtain⟨wr,Ap,B1,kd⟩:=((h2.row).ext D).cells k _ (aO (xs:=(aj 10 b)) U);refine bB 10 ?_;refine sf ?_;refine bj (λ_ _ _ _=>by refine ab (am (i:=i) (oo:=Ar+i) gq eN Z D1 (bR Z U) U Vh ?_);refine I ?_;exact bY) ?_;refine bj (λ_ _ M1 _=>by have O:=ab3 M1 O;refine ab (aT (v:=.int .i64 (((aj 10 a).getD i 0:Nat):Int)) (b:=Jx) (o:=Ar+i) U3 Z Z O ?_);refine I ?_;exact bY) ?_;refine sf ?_;refine bj (λ_ _ _ _=>by refine ab (am (i:=k) (oo:=Ap+k) gq eN Z B1 (bR Z U) U Vh ?_);refine I ?_;exact bY) ?_
 refine bj (λ_ _ E1 _=>by have kd:=ab3 E1 kd;refine ab (aT (v:=.int .i64 (((aj 10 b).getD k 0:Nat):Int)) (b:=wr) (o:=Ap+k) U3 Z Z kd ?_);refine I ?_;exact bY) ?_;refine bj (λ_ _ _ _=>by refine ab (jp (a:=(((aj 10 a).getD i 0:Nat):Int)) (b:=(((aj 10 b).getD k 0:Nat):Int)) (c:=(((aj 10 a).getD i 0*(aj 10 b).getD k 0:Nat):Int)) Z Z bL Aq ?_);refine I ?_;exact bY) ?_;refine sf ?_;intro _ _ E7 _;have⟨hq,D⟩:=bn E7.2 hq D;refine ab (bb (a:=((L2.getD (i+k) 0+c:Nat):Int)) (b:=(((aj 10 a).getD i 0*(aj 10 b).getD k 0:Nat):Int)) (c:=(((L2.getD (i+k) 0+c+(aj 10 a).getD i 0*(aj 10 b).getD k 0):Nat):Int)) Z Z bL Z ?_);refine I ?_;refine ab (bb (a:=(i:Int)) (b:=(k:Int)) (c:=((i+k:Nat):Int)) Z Z bL U ?_);refine I ?_;refine ab (jz (a:=(((L2.getD (i+k) 0+c+(aj 10 a).getD i 0*(aj 10 b).getD k 0):Nat):Int)) (b:=10) (c:=(((L2.getD (i+k) 0+c+(aj 10 a).getD i 0*(aj 10 b).getD k 0)%10:Nat):Int)) Z Z U U (by rw[Int.natCast_emod];rfl) ?_);refine ab (am (A:=some ⟨w.heap.size,0,none⟩) (bk:=w.heap.size) (o:=0) (m:=(n1+n2)) (c:=(n1+n2)) (i:=i+k) (oo:=i+k) gq eN Z Z (bR Z U) U U ?_)
 refine ab (dn (b:=w.heap.size) (o:=i+k) (v:=.int .i64 (((L2.getD (i+k) 0+c+(aj 10 a).getD i 0*(aj 10 b).getD k 0)%10:Nat):Int)) eN Z Z Z hq (by rw[List.size_toArray,cY];omega) (λ_ Ad g=>?_));have D:=eK Ad D;have M8:=dX Ad;have hq:=g;rw[ints_set]at hq;refine I ?_;refine ab (lf (a:=(((L2.getD (i+k) 0+c+(aj 10 a).getD i 0*(aj 10 b).getD k 0):Nat):Int)) (b:=10) (c:=(((L2.getD (i+k) 0+c+(aj 10 a).getD i 0*(aj 10 b).getD k 0)/10:Nat):Int)) Z Z U U bL (by rw[Int.natCast_ediv];rfl) ?_);refine I ?_;refine ab (bb (a:=(k:Int)) (b:=1) (c:=((k+1:Nat):Int)) Z Z bL U ?_);refine I ?_;exact bQ ⟨k+1,(L2.getD (i+k) 0+c+(aj 10 a).getD i 0*(aj 10 b).getD k 0)/10,(L2.set (i+k) ((L2.getD (i+k) 0+c+(aj 10 a).getD i 0*(aj 10 b).getD k 0)%10)),rfl,rfl,rfl,(E.step (cu 10 U a) (cu 10 U b) hroom),D,hq⟩;by_cases hcr:0<c;have hroom:=E.room (cu 10 U a) (cu 10 U b) h1.len h2.len hi U;have E9:=E.len;have Ix:=E.c9;have E4:=eT E.lt (i+k);have M2:=gB a i;have K2:=gB b k;have Kp:(aj 10 a).getD i 0*(aj 10 b).getD k 0<=9*9:=qb7 U U;have Aq:((((aj 10 a).getD i 0:Nat):Int)*(((aj 10 b).getD k 0:Nat):Int))=(((aj 10 a).getD i 0*(aj 10 b).getD k 0:Nat):Int):=by rw[Int.natCast_mul]
 have D2:(L2.getD (i+k) 0+c+(aj 10 a).getD i 0*(aj 10 b).getD k 0)=L2.getD (i+k) 0+c:=E.rem h2.len (cu 10 U a) (cu 10 U b) U;refine I ?_;refine ab (bb (a:=(i:Int)) (b:=(k:Int)) (c:=((i+k:Nat):Int)) Z Z bL U ?_);refine ab (am (A:=some ⟨w.heap.size,0,none⟩) (bk:=w.heap.size) (o:=0) (m:=(n1+n2)) (c:=(n1+n2)) (i:=i+k) (oo:=i+k) gq eN Z Z (bR Z U) U U ?_);refine ab (aT (v:=.int .i64 ((L2.getD (i+k) 0:Nat):Int)) U3 Z Z (aa8 hq (by rw[List.getElem?_toArray];exact aO U)) ?_);refine I ?_;refine ab (bb (a:=((L2.getD (i+k) 0:Nat):Int)) (b:=(c:Int)) (c:=(((L2.getD (i+k) 0+c+(aj 10 a).getD i 0*(aj 10 b).getD k 0):Nat):Int)) Z Z bL (by rw[D2];rfl) ?_);refine I ?_;refine ab (bb (a:=(i:Int)) (b:=(k:Int)) (c:=((i+k:Nat):Int)) Z Z bL U ?_);refine I ?_;refine ab (jz (a:=(((L2.getD (i+k) 0+c+(aj 10 a).getD i 0*(aj 10 b).getD k 0):Nat):Int)) (b:=10) (c:=(((L2.getD (i+k) 0+c+(aj 10 a).getD i 0*(aj 10 b).getD k 0)%10:Nat):Int)) Z Z U U (by rw[Int.natCast_emod];rfl) ?_);refine ab (am (A:=some ⟨w.heap.size,0,none⟩) (bk:=w.heap.size) (o:=0) (m:=(n1+n2)) (c:=(n1+n2)) (i:=i+k) (oo:=i+k) gq eN Z Z (bR Z U) U U ?_)
 refine ab (dn (b:=w.heap.size) (o:=i+k) (v:=.int .i64 (((L2.getD (i+k) 0+c+(aj 10 a).getD i 0*(aj 10 b).getD k 0)%10:Nat):Int)) eN Z Z Z hq (by rw[List.size_toArray,cY];omega) (λ_ Af g=>?_));have D:=eK Af D;have MA:=dX Af;have hq:=g;rw[ints_set]at hq;refine I ?_;refine ab (lf (a:=(((L2.getD (i+k) 0+c+(aj 10 a).getD i 0*(aj 10 b).getD k 0):Nat):Int)) (b:=10) (c:=(((L2.getD (i+k) 0+c+(aj 10 a).getD i 0*(aj 10 b).getD k 0)/10:Nat):Int)) Z Z U U bL (by rw[Int.natCast_ediv];rfl) ?_);refine I ?_;refine ab (bb (a:=(k:Int)) (b:=1) (c:=((k+1:Nat):Int)) Z Z bL U ?_);refine I ?_;exact bQ ⟨k+1,(L2.getD (i+k) 0+c+(aj 10 a).getD i 0*(aj 10 b).getD k 0)/10,(L2.set (i+k) ((L2.getD (i+k) 0+c+(aj 10 a).getD i 0*(aj 10 b).getD k 0)%10)),rfl,rfl,rfl,(E.step (cu 10 U a) (cu 10 U b) hroom),D,hq⟩;have M0:c=0:=J
 have q3:=E;rw[M0]at q3;have EW:=q3.done h2.len U;refine I ?_;refine ab (bb (a:=(i:Int)) (b:=1) (c:=((i+1:Nat):Int)) Z Z bL U ?_);refine I ?_;exact bQ ⟨i+1,L2,rfl,rfl,U,EW,D,hq⟩;have Ay:i=n1:=J
 have hl:=H.len;refine I ?_;have Ax:=ab2 hq (qa0 _);refine clb pZ (hc:=gS Ax hl (qa0 _) U) (hk:=?_);rintro _ _ B2 ⟨Am,rfl,Aw,Ab⟩;have⟨hq,G⟩:=bn B2.2 hq G;refine I ?_;exact an (t:=4) (v:=.slice (some ⟨w.heap.size,0,none⟩) Am (n1+n2)) Z G ⟨_,Am,_,rfl,(Dg.trim (ab2 hq (qa0 _)) H.lt (by rw[Ay]at H;exact(H.fin h1.len).trans (by rw[h1.val,h2.val])) Aw (by rw[hl];exact Ab) Ab).mono U⟩ Z
def tp (h1:Dg w lo1 A1 n1 c1 a)(s1:n1<=90000)(h2:Dg w lo2 A2 n2 c2 b)(s2:n2<=90000)(hb0:0<b):
 CL 124 #[.slice A1 n1 c1,.slice A2 n2 c2] w (aH w λv w'=>∃A n c B m d,v=.tuple #[.slice A n c,.slice B m d]/\Dg w' w.heap.size A n c (a/b)/\Dg w' w.heap.size B m d (a%b)):=by
 have MX:=h1.len;have Mz:=h2.len;refine aC func124 Z (I ?_);refine ab (oe (m:=n1) gq kH Z Z U Vv (λMD M3 _ Kp=>?_));have ML:=M3;have MQ:=bz M3;have hq:=nB Kp;rw[kQ]at hq;clear Kp;refine I ?_;refine oO (I ?_);rw[<-tn]at hq;have L2:Dg MD (w.heap.size+1) none 0 0 0:=Dg.zero _ _;have MW:=L2.hi;refine cM [(7,8),(15,39)] (λAy e W=>∃i:Nat,∃T:List Nat,∃Ar:Option Addr,∃kd:Nat,∃Ad:Nat,∃r:Nat,(i=Ay)/\(e 8=.int .i64 ((i:Int)-1))/\(e 7=.slice Ar kd Ad)/\(i<=n1)/\(BQ (aj 10 a) b i r T)/\(a8 w W)/\(ae W w.heap.size 3 (ints (QL i T)).toArray)/\(Dg W (w.heap.size+1) Ar kd Ad r)) (n1) ⟨n1,[],none,0,0,0,rfl,(qb1 (Value.int .i64) U),rfl,(qa0 _),(by rw[<-h1.len];exact BQ.start hb0),ML,hq,L2⟩ ?_;rintro _ _ ny ⟨i,T,Ar,kd,Ad,r,rfl,MS,od,N1,H,E,hq,hr⟩;have N0:=bz E;by_cases hi:0<i;have D2:=bt hq;have E9:=hr.hi;have Ax:=gB a (i-1);have M1:=H.rlt;have MH:=H.len;have MO:kd<=n2+1:=zM hr.len h2.len U;refine I ?_;obtain⟨MA,K2,wr,MC⟩:=((h1.row).ext E).cells (i-1) _ (aO (xs:=(aj 10 a)) U);refine ab (am (i:=i-1) (oo:=K2+(i-1)) gq eN Z wr (bR Z U) U Vh ?_)
 refine ab (aT (v:=.int .i64 (((aj 10 a).getD (i-1) 0:Nat):Int)) (b:=MA) (o:=K2+(i-1)) U3 Z Z MC ?_);refine BS (λ_ Af _ Ix=>?_);have hq:=be Af hq;have hr:=aa9 Af hr;have E:=xt E Af;have MU:=bz Af;refine I ?_;refine ab (jA (v:=.slice (some ⟨ny.heap.size,0,none⟩) (1) (1)) (k:=1) gq kH Z dc Z Ix Z hr.row (by rw[cY,hr.len];omega) ll Vv U U (λ_ M8 Jx Ap _=>?_));have hq:=aa2 Ap Vi hq;have hr:=Dg.gr Ap (λM5 e=>by have:=E9 M5 e;simp[Value.ownBlock];omega) hr;have E:=cK E Ap (bz E) (λg MG=>by have:=(Ix.lt g MG).1;omega);have MV:=Ap.size;obtain⟨Aw,M2,rfl,ME,N3,-,-⟩:=dt Jx;have hs:Rw M8 ny.heap.size Aw (ints (((aj 10 a).getD (i-1) 0)::aj 10 r)):=aa3 Jx;refine clb pZ (hc:=gS hs (by rw[List.length_cons,hr.len];omega) ME U) (hk:=?_);rintro _ MI Aq ⟨B2,rfl,kk,E4⟩;have hq:=be Aq.2 hq;have hr:=aa9 Aq.2 hr;have E:=xt E Aq.2;rw[GY _ _ Ax]at kk;have EW:Dg MI (w.heap.size+1) Aw B2 M2 (r*10+((aj 10 a).getD (i-1) 0)):=by
  refine⟨?_,?_,by omega⟩
  rw[kk];have:=((hs.ext Aq.2).take B2).mono (lo':=w.heap.size+1) U;simpa[ints,List.map_take]using this;rw[kk,List.length_take,List.length_cons,hr.len];omega
 have uhnew:=EW.hi;rw[wm T hi]at hq;refine I ?_;refine cM [(7,7),(27,39)] (λAy e W=>∃c:Nat,∃Ar2:Option Addr,∃O:Nat,∃Ao:Nat,∃r2:Nat,(r2=Ay)/\(e 7=.slice Ar2 O Ao)/\(c*b+r2=(r*10+((aj 10 a).getD (i-1) 0)))/\(a8 w W)/\(ae W w.heap.size 3 (ints (QL (i-1) (c::T))).toArray)/\(Dg W (w.heap.size+1) Ar2 O Ao r2)) (r*10+((aj 10 a).getD (i-1) 0)) ⟨0,Aw,B2,M2,(r*10+((aj 10 a).getD (i-1) 0)),rfl,rfl,U,E,hq,EW⟩ ?_;rintro _ _ _ ⟨c,Ar2,O,Ao,r2,rfl,M6,As,D,hq,G⟩;have My:=bz D;by_cases hge:b<=r2;have D2:=bt hq;have hcR:r2<=(r*10+((aj 10 a).getD (i-1) 0)):=by have:=qa7 (c*b);omega
 have MM:O<=n2+1:=zM G.len h2.len U;have MK:c<10:=zN As M1 Ax;refine I ?_;refine clb ox (hc:=eQ G U (h2.ext D) U) (hk:=?_);rintro _ _ Av rfl;have hq:=be Av.2 hq;have G:=aa9 Av.2 G;have D:=xt D Av.2;have MP:=CZ hge;refine I ?_;refine clb vw (hc:=jk G U (h2.ext D) U hge) (hk:=?_);rintro _ _ MF ⟨Am,MJ,MN,rfl,Ab⟩;have⟨hq,D⟩:=bn MF.2 hq D;have Ab:=Ab.mono (lo':=w.heap.size+1) U;refine I ?_;refine ab (am (A:=some ⟨w.heap.size,0,none⟩) (bk:=w.heap.size) (o:=0) (m:=n1) (c:=n1) (i:=i-1) (oo:=i-1) gq eN Z Z (bR Z U) U U ?_);refine ab (aT (v:=.int .i64 (((QL (i-1) (c::T)).getD (i-1) 0:Nat):Int)) U3 Z Z (aa8 hq (by rw[List.getElem?_toArray];exact aO Vu)) ?_);rw[pj];refine ab (bb (a:=(c:Int)) (b:=1) (c:=((c+1:Nat):Int)) Z Z bL U ?_);refine ab (am (A:=some ⟨w.heap.size,0,none⟩) (bk:=w.heap.size) (o:=0) (m:=n1) (c:=n1) (i:=i-1) (oo:=i-1) gq eN Z Z (bR Z U) U U ?_);refine ab (dn (b:=w.heap.size) (o:=i-1) (v:=.int .i64 ((c+1:Nat):Int)) eN Z Z Z hq VC (λ_ D1 MB=>?_));have Ab:=Dg.put D1 U Ab;have D:=eK D1 D;have MR:=dX D1;have hq:=MB
 rw[ints_set]at hq;refine I ?_;exact bQ ⟨c+1,Am,MJ,MN,r2-b,rfl,rfl,(by rw[Nat.add_mul];omega),D,(by rw[uR]at hq;exact hq),Ab⟩;have D2:=bt hq;have hcR:r2<=(r*10+((aj 10 a).getD (i-1) 0)):=by have:=qa7 (c*b);omega
 have MM:O<=n2+1:=zM G.len h2.len U;have MK:c<10:=zN As M1 Ax;have MY:=G.hi;refine I ?_;refine clb ox (hc:=eQ G U (h2.ext D) U) (hk:=?_);rintro _ _ E1 rfl;have hq:=be E1.2 hq;have G:=aa9 E1.2 G;have D:=xt D E1.2;have MZ:=C0 hge;refine I ?_;refine ab (fg (a:=(i:Int)-1) (b:=1) (c:=((i-1:Nat):Int)-1) Z Z bL U ?_);refine I ?_;exact bQ ⟨i-1,c::T,Ar2,O,Ao,r2,rfl,rfl,M6,U,(BQ.step (cu 10 U a) (by rw[show i-1+1=i by omega];exact H) As U),D,hq,G⟩;have D2:=bt hq;have M9:i=0:=J
 rw[M9]at H hq;have MH:=H.len;obtain⟨E7,M0⟩:=H.fin hb0;rw[h1.val]at E7 M0;have E9:=hr.hi;refine I ?_;have M7:=ab2 hq (qa0 _);refine clb pZ (hc:=gS M7 (by rw[ei];omega) (qa0 _) U) (hk:=?_);rintro _ _ B1 ⟨M4,rfl,kk,E4⟩;have hq:=be B1.2 hq;have hr:=aa9 B1.2 hr;have E:=xt E B1.2;refine I ?_;exact aW (t:=4) (u:=5) (v1:=.slice (some ⟨w.heap.size,0,none⟩) M4 n1) (v2:=.slice Ar kd Ad) Z E ⟨_,M4,_,_,_,_,rfl,(Dg.trim (ab2 hq (qa0 _)) (by rw[show QL 0 T=T from rfl];exact H.lt) (by rw[show QL 0 T=T from rfl];exact E7) kk (by rw[ei];omega) E4).mono U,by rw[<-M0];exact hr.mono U⟩ Z Z
def bX {p:Prop}(h:p:=by assumption):p:=h
def dJ (h:Dg w lo A n c a)(hl:a<10^k):n<=k:=by rw[<-h.len];exact(aF 10 U a k).2 hl
def eZ (h:isInt l=true):au (body l)<10^200:=nF (cN h)
def xA {a b:List UInt8}(h:isInt a=false):(isInt a&&isInt b)=false:=by rw[h];rfl
def xB {a b:List UInt8}(h:isInt b=false):(isInt a&&isInt b)=false:=by rw[h];simp
def e8 {a b:List UInt8}(ha:isInt a=true)(hb:isInt b=true):(isInt a&&isInt b)=true:=by rw[ha,hb];rfl
def qC :fits (bv ng a)=pN a:=by
 unfold pN
 by_cases h:a=0
 · subst h;cases ng <;>decide +kernel
 · rw[lC ng U,decide_eq_false h,Bool.false_or]
   unfold aY;rw[if_neg h,b8]
def my :aa (bv ng a)=nl ng a:=by
 unfold nl
 by_cases h:a=0
 · subst h;cases ng <;>rfl
 · rw[ms ng U,if_neg h]
def EO (h:pN a=false):Value.tuple #[S [],.int .i64 30]=eE (aR (bv ng a)):=by
 unfold aR;rw[qC,h];rfl
def EP (h:pN a=true):Value.tuple #[S (nl ng a),.int .i64 0]=eE (aR (bv ng a)):=by
 unfold aR;rw[qC,h,my];rfl
def GZ (h:Rw w lo A [Value.int .i64 1]):Dg w lo A 1 1 1:=by
 have e:aj 10 1=[1]:=by decide
 exact⟨by rw[e];exact h,by rw[e];rfl,qa0 _⟩
def rJ {r:Nat}(h:r<10^200):nl false r=rS (aR (bv false r)):=by
 have hf:fits (bv false r)=true:=by unfold fits;rw[fS];exact qa1 h
 rw[lI hf,my]
def Jm (ha:a<10^200)(hb:b<10^200):a+b<10^201:=by
 have:(10:Nat)^201=10^200*10:=by rw[<-Nat.pow_succ]
 generalize (10:Nat)^200=M at *
 omega
def G0 {y z:Nat}(ha:a<10^x)(hb:b<10^y)(h:z=x+y):a*b<10^z:=by
 subst h;rw[Nat.pow_add];exact Nat.mul_lt_mul'' ha hb
def Jn (ha:a<10^200)(hb:b<10^200):a*b<10^400:=G0 (x:=200) (y:=200) (z:=400) ha hb Z
def zO {a b:List UInt8}(h:(isInt a&&isInt b)=true)(he:(neg a==neg b)=true)(ha:neg a=true):aw ((au (body b):Nat):Int) ((au (body a):Nat):Int)=eC a b:=
 o4 h ha (by have:neg a=neg b:=by simpa using he
             rw[<-this];exact ha)
def zQ {a b:List UInt8}(h:(isInt a&&isInt b)=true)(he:(neg a==neg b)=true)(ha:neg a=false):aw ((au (body a):Nat):Int) ((au (body b):Nat):Int)=eC a b:=
 o7 h ha (by have:neg a=neg b:=by simpa using he
             rw[<-this];exact ha)
def zR {a b:List UInt8}(h:(isInt a&&isInt b)=true)(he:(neg a==neg b)=false)(ha:neg a=true):(-1:Int)=eC a b:=
 o5 h ha (by rw[ha]at he;simpa using he)
def zS {a b:List UInt8}(h:(isInt a&&isInt b)=true)(he:(neg a==neg b)=false)(ha:neg a=false):(1:Int)=eC a b:=
 o6 h ha (by rw[ha]at he;simpa using he)
def tq (ng:Bool)(x:Nat):Int.tmod (bv ng x) 10=bv ng (x%10):=by
 cases ng
 · show Int.tmod (x:Int) 10=((x%10:Nat):Int)
   rw[Int.tmod_eq_emod_of_nonneg U];omega
 · show Int.tmod (-(x:Int)) 10=-((x%10:Nat):Int)
   rw[Int.neg_tmod,Int.tmod_eq_emod_of_nonneg U];omega
def tr (ng:Bool)(x:Nat):Int.tdiv (bv ng x) 10=bv ng (x/10):=by
 cases ng
 · show Int.tdiv (x:Int) 10=((x/10:Nat):Int)
   rw[Int.tdiv_eq_ediv_of_nonneg U];omega
 · show Int.tdiv (-(x:Int)) 10=-((x/10:Nat):Int)
   rw[Int.neg_tdiv,Int.tdiv_eq_ediv_of_nonneg U];omega
def G1 {a b:List UInt8}(h:b=[48]):cR a b=none:=jU (by subst h;exact mo)
def C1 {b:List UInt8}(h:isInt b=true)(h0:¬b=[48]):0<au (body b):=by
 rcases Nat.eq_zero_or_pos (au (body b))with h1|h1
 · exact absurd ((fw h).1 (by have:=cZ b;omega)) h0
 · exact h1
def fE (h1:Dg w lo1 A1 n1 c1 a)(s1:n1<=100000)(ng:Bool):
 CL 121 #[.bool ng,.slice A1 n1 c1] w (aH w λv w'=>v=eE (aR (bv ng a))):=by
 have G:=h1.row.hi;refine aC func121 Z (I ?_);refine clb yg (hc:=iP h1 U ng) (hk:=?_);rintro _ _ E rfl;have D:=E.2;refine I ?_;rcases qa4 (pN a)with cf|cf;refine I ?_;exact aW (t:=4) (u:=5) (v1:=S (nl ng a)) (v2:=.int .i64 0) Z D (by first|exact EO bX|exact EP bX) Z Z;refine I ?_;exact aW (t:=4) (u:=5) (v1:=S []) (v2:=.int .i64 30) Z D (by first|exact EO bX|exact EP bX) Z Z
def tt (h1:Dg w lo1 A1 n1 c1 a)(s1:n1<=50000)(h2:Dg w lo2 A2 n2 c2 b)(s2:n2<=50000)(nx ny:Bool):
 CL 123 #[.bool nx,.slice A1 n1 c1,.bool ny,.slice A2 n2 c2] w (aH w λv w'=>v=eE (aR (bv nx a+bv ny b))):=by
 have B2:=h1.row.hi;have E1:=h2.row.hi;have D2:=h1.len;have As:=h2.len;refine aC func123 Z (I ?_);refine ab (x9 (a:=nx) (b:=ny) (q:=(nx==ny)) U4 Z Z Z ?_);refine I ?_;rcases qa4 (nx==ny)with p6|p6;refine I ?_;refine clb Er (hc:=qB h1 U h2 U) (hk:=?_);rintro _ _ Ad ⟨D1,Am,B1,rfl,H⟩;have wr:=Ad.2;have H:=H.mono (lo':=w.heap.size) U;have Ax:=H.row.hi;have W:Am<=50001:=by rw[<-H.len];exact vU U _ _ 50000 U U
 refine I ?_;refine clb qY (hc:=fE H U nx) (hk:=?_);rintro _ _ kd rfl;have wr:=xt wr kd.2;refine I ?_;exact aW (t:=8) (u:=9) (v1:=S (rS (aR (bv nx (a+b))))) (v2:=.int .i64 (rE (aR (bv nx (a+b))))) Z wr (qb1 (λx=>eE (aR x)) VH) Z Z;refine I ?_;refine clb ox (hc:=eQ h1 U h2 U) (hk:=?_);rintro _ _ kk rfl;have h1:=aa9 kk.2 h1;have h2:=aa9 kk.2 h2;have D:=kk.2;refine I ?_;by_cases mq:0<=(aw (a:Int) (b:Int));have E:=vW mq;refine I ?_;refine clb vw (hc:=jk h1 U h2 U E) (hk:=?_);rintro _ _ Ab ⟨Aw,Af,Aq,rfl,O⟩;have D:=xt D Ab.2;have O:=O.mono (lo':=w.heap.size) U;have Ar:=O.row.hi;have W:Af<=50001:=by rw[<-O.len];exact qa8 (dx U (Nat.sub_le _ _)) U
 refine I ?_;refine clb qY (hc:=fE O U nx) (hk:=?_);rintro _ _ Ap rfl;have D:=xt D Ap.2;refine I ?_;exact aW (t:=8) (u:=9) (v1:=S (rS (aR (bv nx (a-b))))) (v2:=.int .i64 (rE (aR (bv nx (a-b))))) Z D (qb1 (λx=>eE (aR x)) VH) Z Z;have E:=s4 mq;refine I ?_;refine clb vw (hc:=jk h2 U h1 U E) (hk:=?_);rintro _ _ g ⟨Av,od,E4,rfl,G⟩;have D:=xt D g.2;have G:=G.mono (lo':=w.heap.size) U;have Ay:=G.row.hi;have W:od<=50001:=by rw[<-G.len];exact qa8 (dx U (Nat.sub_le _ _)) U
 refine I ?_;refine clb qY (hc:=fE G U ny) (hk:=?_);rintro _ _ Ao rfl;have D:=xt D Ao.2;refine I ?_;exact aW (t:=8) (u:=9) (v1:=S (rS (aR (bv ny (b-a))))) (v2:=.int .i64 (rE (aR (bv ny (b-a))))) Z D (qb1 (λx=>eE (aR x)) VH) Z Z
def zT (a b:List UInt8)(w:World)(sa:a.length<=1000000)(sb:b.length<=1000000):
 CL 74 #[S a,S b] w (aH w λv w'=>v=eE (pJ a b)):=by
 refine aC func74 Z (I ?_);rcases qa4 (isInt a)with cf|cf;refine I ?_;refine clb gt (hc:=aZ a _ U) (hk:=?_);rintro _ _ kd rfl;have D:=kd.2;refine I ?_;refine clb gt (hc:=aZ b _ U) (hk:=?_);rintro _ _ O rfl;have D:=xt D O.2;refine I ?_;rcases qa4 (isInt b)with fx|fx;refine I ?_;refine cl mh (cg _ _ cf) ?_;rintro _ _ wr ⟨Am,Ar,Aq,rfl,E⟩;have D:=xt D wr.2;have E:=E.mono (lo':=w.heap.size) U;have Ab:=dJ E (eZ cf);have Ad:=E.row.hi;refine I ?_;refine cl mh (cg _ _ fx) ?_;rintro _ _ H ⟨Ap,od,Ao,rfl,G⟩;have E:=aa9 H.2 E;have D:=xt D H.2;have G:=G.mono (lo':=w.heap.size) U;have Af:=dJ G (eZ fx);have As:=G.row.hi;refine I ?_;refine clb Eo (hc:=tt E U G U (neg a) (neg b)) (hk:=?_);rintro _ _ g rfl;have D:=xt D g.2;refine I ?_;exact aW (t:=4) (u:=5) (v1:=S (rS (aR (bv (neg a) (au (body a))+bv (neg b) (au (body b)))))) (v2:=.int .i64 (rE (aR (bv (neg a) (au (body a))+bv (neg b) (au (body b)))))) Z D (by rw[nJ (e8 cf fx)];rfl) Z Z;refine I ?_;exact aW (t:=4) (u:=5) (v1:=S []) (v2:=.int .i64 30) Z D (by rw[ru (xB fx)];rfl) Z Z;refine I ?_;refine clb gt (hc:=aZ a _ U) (hk:=?_)
 rintro _ _ kk rfl;have W:=kk.2;refine I ?_;exact aW (t:=4) (u:=5) (v1:=S []) (v2:=.int .i64 30) Z W (by rw[ru (xA cf)];rfl) Z Z
def pk (a b:List UInt8)(w:World)(sa:a.length<=1000000)(sb:b.length<=1000000):
 CL 72 #[S a,S b] w (aH w λv w'=>v=eE (aN a b)):=by
 refine aC func72 Z (I ?_);rcases qa4 (isInt a)with cf|cf;refine I ?_;refine clb gt (hc:=aZ a _ U) (hk:=?_);rintro _ _ kd rfl;have D:=kd.2;refine I ?_;refine clb gt (hc:=aZ b _ U) (hk:=?_);rintro _ _ O rfl;have D:=xt D O.2;refine I ?_;rcases qa4 (isInt b)with fx|fx;refine I ?_;refine cl mh (cg _ _ cf) ?_;rintro _ _ wr ⟨Am,Ar,Aq,rfl,E⟩;have D:=xt D wr.2;have E:=E.mono (lo':=w.heap.size) U;have Ab:=dJ E (eZ cf);have Ad:=E.row.hi;refine I ?_;refine cl mh (cg _ _ fx) ?_;rintro _ _ H ⟨Ap,od,Ao,rfl,G⟩;have E:=aa9 H.2 E;have D:=xt D H.2;have G:=G.mono (lo':=w.heap.size) U;have Af:=dJ G (eZ fx);have As:=G.row.hi;refine I ?_;refine clb Eo (hc:=tt E U G U (neg a) (!(neg b))) (hk:=?_);rintro _ _ g rfl;have D:=xt D g.2;refine I ?_;exact aW (t:=4) (u:=5) (v1:=S (rS (aR (bv (neg a) (au (body a))+bv (!(neg b)) (au (body b)))))) (v2:=.int .i64 (rE (aR (bv (neg a) (au (body a))+bv (!(neg b)) (au (body b)))))) Z D (by rw[lE (e8 cf fx),v8];rfl) Z Z;refine I ?_;exact aW (t:=4) (u:=5) (v1:=S []) (v2:=.int .i64 30) Z D (by rw[rv (xB fx)];rfl) Z Z;refine I ?_;refine clb gt (hc:=aZ a _ U) (hk:=?_)
 rintro _ _ kk rfl;have W:=kk.2;refine I ?_;exact aW (t:=4) (u:=5) (v1:=S []) (v2:=.int .i64 30) Z W (by rw[rv (xA cf)];rfl) Z Z
def zU (a b:List UInt8)(w:World)(sa:a.length<=1000000)(sb:b.length<=1000000):
 CL 68 #[S a,S b] w (aH w λv w'=>v=eE (av a b)):=by
 refine aC func68 Z (I ?_);rcases qa4 (isInt a)with cf|cf;refine I ?_;refine clb gt (hc:=aZ a _ U) (hk:=?_);rintro _ _ wr rfl;have D:=wr.2;refine I ?_;refine clb gt (hc:=aZ b _ U) (hk:=?_);rintro _ _ W rfl;have D:=xt D W.2;refine I ?_;rcases qa4 (isInt b)with fy|fy;refine I ?_;refine cl mh (cg _ _ cf) ?_;rintro _ _ kd ⟨B2,B1,Aw,rfl,E⟩;have D:=xt D kd.2;have E:=E.mono (lo':=w.heap.size) U;have D1:=dJ E (eZ cf);have Ax:=E.row.hi;refine I ?_;refine cl mh (cg _ _ fy) ?_;rintro _ _ O ⟨od,Aq,Ay,rfl,H⟩;have E:=aa9 O.2 E;have D:=xt D O.2;have H:=H.mono (lo':=w.heap.size) U;have Ap:=dJ H (eZ fy);have Ar:=H.row.hi;refine I ?_;refine ab (i6 (a:=neg a) (b:=neg b) (q:=(!((neg a)==(neg b)))) U4 Z Z Z ?_);refine I ?_;refine clb yh (hc:=kR E U H U) (hk:=?_);rintro _ _ g ⟨As,Af,Av,rfl,G⟩;have D:=xt D g.2;have G:=G.mono (lo':=w.heap.size) U;have Ao:=G.row.hi;have Am:=dJ G (Jn (eZ cf) (eZ fy));refine clb qY (hc:=fE G U (!((neg a)==(neg b)))) (hk:=?_);rintro _ _ Ab rfl;have D:=xt D Ab.2;refine I ?_;exact aW (t:=4) (u:=5) (v1:=S (rS (aR (bv (!((neg a)==(neg b))) ((au (body a))*(au (body b))))))) (v2:=.int .i64 (rE (aR (bv (!((neg a)==(neg b))) ((au (body a))*(au (body b))))))) Z D (by rw[fA (e8 cf fy),<-ig,<-ig,<-wb];rfl) Z Z
 refine I ?_;exact aW (t:=4) (u:=5) (v1:=S []) (v2:=.int .i64 30) Z D (by rw[rx (xB fy)];rfl) Z Z;refine I ?_;refine clb gt (hc:=aZ a _ U) (hk:=?_);rintro _ _ kk rfl;have Ad:=kk.2;refine I ?_;exact aW (t:=4) (u:=5) (v1:=S []) (v2:=.int .i64 30) Z Ad (by rw[rx (xA cf)];rfl) Z Z
def lM (a b:List UInt8)(w:World)(sa:a.length<=1000000)(sb:b.length<=1000000):
 CL 32 #[S a,S b] w (aH w λv w'=>v=.int .i64 (eC a b)):=by
 refine aC func32 Z (I ?_);rcases qa4 (isInt a)with cf|cf;refine I ?_;refine clb gt (hc:=aZ a _ U) (hk:=?_);rintro _ _ Ab rfl;have D:=Ab.2;refine I ?_;refine clb gt (hc:=aZ b _ U) (hk:=?_);rintro _ _ kd rfl;have D:=xt D kd.2;refine I ?_;rcases qa4 (isInt b)with fx|fx;refine I ?_;refine cl mh (cg _ _ cf) ?_;rintro _ _ O ⟨Af,As,Ar,rfl,E⟩;have D:=xt D O.2;have E:=E.mono (lo':=w.heap.size) U;have Ad:=dJ E (eZ cf);have Av:=E.row.hi;refine I ?_;refine cl mh (cg _ _ fx) ?_;rintro _ _ H ⟨Aq,od,Ap,rfl,G⟩;have E:=aa9 H.2 E;have D:=xt D H.2;have G:=G.mono (lo':=w.heap.size) U;have Ao:=dJ G (eZ fx);have Am:=G.row.hi;refine I ?_;refine ab (i6 (a:=neg a) (b:=neg b) (q:=(!((neg a)==(neg b)))) U4 Z Z Z ?_);refine I ?_;rcases qa4 ((neg a)==(neg b))with p6|p6;refine I ?_;rcases qa4 (neg a)with r8|r8;refine I ?_;refine clb ox (hc:=eQ G U E U) (hk:=?_);rintro _ _ kk rfl;have D:=xt D kk.2;refine I ?_;exact an (t:=4) (v:=.int .i64 (aw ((au (body b):Nat):Int) ((au (body a):Nat):Int))) Z D (qb1 (Value.int .i64) (zO (e8 cf fx) p6 r8)) Z;refine I ?_;refine clb ox (hc:=eQ E U G U) (hk:=?_)
 rintro _ _ wr rfl;have D:=xt D wr.2;refine I ?_;exact an (t:=4) (v:=.int .i64 (aw ((au (body a):Nat):Int) ((au (body b):Nat):Int))) Z D (qb1 (Value.int .i64) (zQ (e8 cf fx) p6 r8)) Z;refine I ?_;rcases qa4 (neg a)with sc|sc;refine I ?_;exact an (t:=4) (v:=.int .i64 (-1)) Z D (qb1 (Value.int .i64) (zR (e8 cf fx) p6 sc)) Z;refine I ?_;exact an (t:=4) (v:=.int .i64 1) Z D (qb1 (Value.int .i64) (zS (e8 cf fx) p6 sc)) Z;refine I ?_;exact an (t:=4) (v:=.int .i64 0) Z D (by rw[rz (xB fx)]) Z;refine I ?_;refine clb gt (hc:=aZ a _ U) (hk:=?_);rintro _ _ g rfl;have W:=g.2;refine I ?_;exact an (t:=4) (v:=.int .i64 0) Z W (by rw[rz (xA cf)]) Z
def gk (a b:List UInt8)(w:World)(sa:a.length<=1000000)(sb:b.length<=1000000):
 CL 73 #[S a,S b] w (aH w λv w'=>v=lF (cR a b)):=by
 refine aC func73 Z (I ?_);rcases qa4 (isInt a)with cv|cv;rcases qa4 (isInt b)with cw|cw;refine I ?_;refine clb gt (hc:=aZ a _ U) (hk:=?_);rintro _ _ K2 rfl;have D:=K2.2;refine I ?_;refine clb gt (hc:=aZ b _ U) (hk:=?_);rintro _ _ Jx rfl;have D:=xt D Jx.2;refine I ?_;refine k0 (b:=[48]) (I ?_);by_cases w9:b=([48]);refine I ?_;exact k4 (t:=4) (u:=5) (s:=6) (v1:=S []) (v2:=S []) (v3:=.int .i64 30) Z D (by rw[G1 bX];rfl) Z Z Z;have G:0<au (body b):=C1 cw w9;refine I ?_;refine cl mh (cg _ _ cv) ?_;rintro _ _ Ix ⟨MG,M9,wr,rfl,kk⟩;have D:=xt D Ix.2;have kk:=kk.mono (lo':=w.heap.size) U;have M8:=dJ kk (eZ cv);have MC:=kk.row.hi;refine I ?_;refine cl mh (cg _ _ cw) ?_;rintro _ _ Aw ⟨ML,M4,MH,rfl,H⟩;have kk:=aa9 Aw.2 kk;have D:=xt D Aw.2;have H:=H.mono (lo':=w.heap.size) U;have MF:=dJ H (eZ cw);have M1:=H.row.hi;refine I ?_;refine clb Ep (hc:=tp kk U H U G) (hk:=?_);rintro _ _ Ax ⟨Aq,MJ,MM,Ar,EW,Kp,rfl,hq,hr⟩;have H:=aa9 Ax.2 H;have D:=xt D Ax.2;have hq:=hq.mono (lo':=w.heap.size) U;have hr:=hr.mono (lo':=w.heap.size) U;have MB:=dJ hq (Nat.lt_of_le_of_lt (Nat.div_le_self _ _) (eZ cv))
 have M6:=dJ hr (Nat.lt_trans (Nat.mod_lt _ G) (eZ cw));have Ad:au (body a)%au (body b)<=au (body b):=Nat.le_of_lt (Nat.mod_lt _ G);have MD:=hq.row.hi;have M3:=hr.row.hi;refine I ?_;rcases qa4 (neg a)with ly|ly;refine I ?_;by_cases aoo:0<(EW:Int);have Ab:0<au (body a)%au (body b):=jS (B:=10) U (by rw[hr.len];omega);have E:=Md G ly Ab;have O:au (body b)-au (body a)%au (body b)<=au (body b):=Nat.sub_le _ _;refine I ?_;refine BS (λ_ kd _ E7=>?_);have H:=aa9 kd H;have hq:=aa9 kd hq;have hr:=aa9 kd hr;have D:=xt D kd;have L2:=bz kd;have D1:=GZ (aa3 E7);refine clb Er (hc:=qB hq U D1 U) (hk:=?_);rintro _ _ g ⟨Ap,MA,ME,rfl,W⟩;have H:=aa9 g.2 H;have hr:=aa9 g.2 hr;have D:=xt D g.2;have W:=W.mono (lo':=w.heap.size) U;have M5:=dJ W (Jm (Nat.lt_of_le_of_lt (Nat.div_le_self _ _) (eZ cv)) (show 1<10^200 by decide +kernel));have MI:=W.row.hi;refine I ?_;refine clb vw (hc:=jk H U hr U Ad) (hk:=?_);rintro _ _ Av ⟨Am,M7,MK,rfl,hm⟩;have W:=aa9 Av.2 W;have D:=xt D Av.2;have hm:=hm.mono (lo':=w.heap.size) U;have M0:=dJ hm (Nat.lt_of_le_of_lt (Nat.sub_le _ _) (eZ cw));have M2:=hm.row.hi;refine I ?_;refine ab (i6 (a:=neg a) (b:=neg b) (q:=(!((neg a)==(neg b)))) U4 Z Z Z ?_)
 refine I ?_;refine clb qY (hc:=fE W U (!((neg a)==(neg b)))) (hk:=?_);rintro _ _ od rfl;have hm:=aa9 od.2 hm;have D:=xt D od.2;refine I ?_;refine clb yg (hc:=iP hm U false) (hk:=?_);rintro _ _ E9 rfl;have D:=xt D E9.2;rw[rJ (ji cw O)];refine I ?_;by_cases aop:(rE (aR (bv (!((neg a)==(neg b))) (au (body a)/au (body b)+1))))=0;refine I ?_;exact k4 (t:=4) (u:=5) (s:=6) (v1:=S (rS (aR (bv (!((neg a)==(neg b))) (au (body a)/au (body b)+1))))) (v2:=S (rS (aR (bv false (au (body b)-au (body a)%au (body b)))))) (v3:=.int .i64 0) Z D Vn Z Z Z;refine I ?_;exact k4 (t:=4) (u:=5) (s:=6) (v1:=S []) (v2:=S []) (v3:=.int .i64 (rE (aR (bv (!((neg a)==(neg b))) (au (body a)/au (body b)+1))))) Z D Vn Z Z Z;have Ab:au (body a)%au (body b)=0:=gI (B:=10) U (hr.len.trans U);have E:=Kw (a:=a) G (Or.inr Ab);have O:au (body a)%au (body b)<=au (body b):=Ad;refine I ?_;refine ab (i6 (a:=neg a) (b:=neg b) (q:=(!((neg a)==(neg b)))) U4 Z Z Z ?_);refine I ?_
 refine clb qY (hc:=fE hq U (!((neg a)==(neg b)))) (hk:=?_);rintro _ _ As rfl;have hr:=aa9 As.2 hr;have D:=xt D As.2;refine I ?_;refine clb yg (hc:=iP hr U false) (hk:=?_);rintro _ _ B1 rfl;have D:=xt D B1.2;rw[rJ (ji cw O)];refine I ?_;by_cases aoq:(rE (aR (bv (!((neg a)==(neg b))) (au (body a)/au (body b)))))=0;refine I ?_;exact k4 (t:=4) (u:=5) (s:=6) (v1:=S (rS (aR (bv (!((neg a)==(neg b))) (au (body a)/au (body b)))))) (v2:=S (rS (aR (bv false (au (body a)%au (body b)))))) (v3:=.int .i64 0) Z D Vn Z Z Z;refine I ?_;exact k4 (t:=4) (u:=5) (s:=6) (v1:=S []) (v2:=S []) (v3:=.int .i64 (rE (aR (bv (!((neg a)==(neg b))) (au (body a)/au (body b)))))) Z D Vn Z Z Z;have E:=Kw G (Or.inl ly);have O:au (body a)%au (body b)<=au (body b):=Ad;refine I ?_;refine ab (i6 (a:=neg a) (b:=neg b) (q:=(!((neg a)==(neg b)))) U4 Z Z Z ?_);refine I ?_;refine clb qY (hc:=fE hq U (!((neg a)==(neg b)))) (hk:=?_);rintro _ _ Ao rfl;have hr:=aa9 Ao.2 hr;have D:=xt D Ao.2;refine I ?_
 refine clb yg (hc:=iP hr U false) (hk:=?_);rintro _ _ B2 rfl;have D:=xt D B2.2;rw[rJ (ji cw O)];refine I ?_;by_cases aor:(rE (aR (bv (!((neg a)==(neg b))) (au (body a)/au (body b)))))=0;refine I ?_;exact k4 (t:=4) (u:=5) (s:=6) (v1:=S (rS (aR (bv (!((neg a)==(neg b))) (au (body a)/au (body b)))))) (v2:=S (rS (aR (bv false (au (body a)%au (body b)))))) (v3:=.int .i64 0) Z D Vn Z Z Z;refine I ?_;exact k4 (t:=4) (u:=5) (s:=6) (v1:=S []) (v2:=S []) (v3:=.int .i64 (rE (aR (bv (!((neg a)==(neg b))) (au (body a)/au (body b)))))) Z D Vn Z Z Z;refine I ?_;refine clb gt (hc:=aZ a _ U) (hk:=?_);rintro _ _ Ay rfl;have Af:=Ay.2;refine I ?_;refine clb gt (hc:=aZ b _ U) (hk:=?_);rintro _ _ D2 rfl;have Af:=xt Af D2.2;refine I ?_;exact k4 (t:=4) (u:=5) (s:=6) (v1:=S []) (v2:=S []) (v3:=.int .i64 30) Z Af (by rw[rA (xB cw)];rfl) Z Z Z;refine I ?_;refine clb gt (hc:=aZ a _ U) (hk:=?_);rintro _ _ E1 rfl;have E4:=E1.2;refine I ?_
 exact k4 (t:=4) (u:=5) (s:=6) (v1:=S []) (v2:=S []) (v3:=.int .i64 30) Z E4 (by rw[rA (xA cv)];rfl) Z Z Z
def pm (a b:List UInt8)(w:World)(sa:a.length<=1000000)(sb:b.length<=1000000):
 CL 75 #[S a,S b] w (aH w λv w'=>v=eE (bD a b)):=by
 refine aC func75 Z (I ?_);rcases qa4 (isInt a)with cf|cf;refine I ?_;refine clb gt (hc:=aZ a _ U) (hk:=?_);rintro _ _ Ap rfl;have E:=Ap.2;refine I ?_;refine clb gt (hc:=aZ b _ U) (hk:=?_);rintro _ _ Ao rfl;have E:=xt E Ao.2;refine I ?_;rcases qa4 (isInt b)with cw|cw;refine I ?_;refine cl mh (cg _ _ cf) ?_;rintro _ _ Ad ⟨E9,B1,E4,rfl,D⟩;have E:=xt E Ad.2;have D:=D.mono (lo':=w.heap.size) U;have M1:=dJ D (eZ cf);have M5:=D.row.hi;refine I ?_;refine cl mh (cg _ _ cw) ?_;rintro _ _ wr ⟨od,D1,Aw,rfl,H⟩;have D:=aa9 wr.2 D;have E:=xt E wr.2;have H:=H.mono (lo':=w.heap.size) U;have EW:=dJ H (eZ cw);have M3:=H.row.hi;refine I ?_;refine cM [(7,7),(9,11),(30,40)] (λAv e W=>∃Ax:Option Addr,∃kd:Nat,∃g:Nat,∃x:Nat,∃Ay:Option Addr,∃ny:Nat,∃kk:Nat,∃y:Nat,(y=Av)/\(e 7=.slice Ax kd g)/\(e 9=.slice Ay ny kk)/\(kd<=200)/\(ny<=200)/\(Nat.gcd x y=Nat.gcd (au (body a)) (au (body b)))/\(a8 w W)/\(Dg W w.heap.size Ax kd g x)/\(Dg W w.heap.size Ay ny kk y)) (au (body b)) ⟨E9,B1,E4,au (body a),od,D1,Aw,au (body b),rfl,rfl,rfl,(dJ D (eZ cf)),(dJ H (eZ cw)),rfl,E,D,H⟩ ?_;rintro _ _ _ ⟨Ax,kd,g,x,Ay,ny,kk,y,rfl,Jx,L2,Ix,B2,q3,G,hx,hy⟩
 have M2:=bz G;by_cases hm:0<ny;have O:0<y:=jS (B:=10) U (by rw[hy.len];omega);have E7:=hx.row.hi;have K2:=hy.row.hi;refine I ?_;refine clb Ep (hc:=tp hx U hy U O) (hk:=?_);rintro _ _ Ab ⟨Aq,M4,M0,Ar,D2,Af,rfl,hq,hr⟩;have hy:=aa9 Ab.2 hy;have G:=xt G Ab.2;have hr:=hr.mono (lo':=w.heap.size) U;have Kp:=hr.row.hi;refine I ?_;exact bQ (hk:=by exact Nat.mod_lt _ O) ⟨Ay,ny,kk,y,Ar,D2,Af,x%y,rfl,rfl,rfl,U,(by rw[<-hr.len];exact qa8 (dx U (Nat.le_of_lt (Nat.mod_lt _ O))) (by rw[hy.len];exact B2)),(tc q3),G,hy,hr⟩;have O:y=0:=gI (B:=10) U (hy.len.trans U);rw[O,Nat.gcd_zero_right]at q3;have E7:=hx.row.hi;refine I ?_;refine clb qY (hc:=fE hx U false) (hk:=?_);rintro _ _ E1 rfl;have G:=xt G E1.2;refine I ?_;exact aW (t:=4) (u:=5) (v1:=S (rS (aR (bv false x)))) (v2:=.int .i64 (rE (aR (bv false x)))) Z G (by rw[wa (e8 cf cw),<-q3];rfl) Z Z;refine I ?_;exact aW (t:=4) (u:=5) (v1:=S []) (v2:=.int .i64 30) Z E (by rw[ry (xB cw)];rfl) Z Z;refine I ?_;refine clb gt (hc:=aZ a _ U) (hk:=?_);rintro _ _ As rfl;have Am:=As.2;refine I ?_;exact aW (t:=4) (u:=5) (v1:=S []) (v2:=.int .i64 30) Z Am (by rw[ry (xA cf)];rfl) Z Z
def aB {p:Prop}(h:p:=by assumption):p:=h
def Gi (a b:List UInt8):Int:=((Int.gcd (ao a) (ao b):Nat):Int)
def xC (n d:List UInt8):Option R:=if isInt n&&isInt d then jq (ao n) (ao d)else none
section
variable {x y:List UInt8}
def G2 (h:ao y≠0):0<Gi x y:=by
 have:0<Int.gcd (ao x) (ao y):=Int.gcd_pos_of_ne_zero_right _ h
 unfold Gi;omega
def kj (hy:isInt y=true)(h:ao y≠0):fits (Gi x y)=true:=nM (eL hy) (by
 have hd:Gi x y∣ao y:=Int.gcd_dvd_right ..
 exact Nat.le_of_dvd U (Int.natAbs_dvd_natAbs.2 hd))
def tu (hx:isInt x=true)(hy:isInt y=true)(h:ao y≠0):bD x y=some (aa (Gi x y)):=by
 unfold bD;rw[if_pos (by rw[hx,hy];rfl)];unfold aR
 show(if fits (Gi x y)=true then some (aa (Gi x y))else none)=_
 rw[if_pos (kj hy h)]
def lO {z:List UInt8}(hz:isInt z=true)(hy:isInt y=true)(h:ao y≠0)(hd:Gi x y∣ao z):cR z (aa (Gi x y))=some (aa (ao z/Gi x y),aa (ao z%Gi x y)):=by
 have D:=G2 (x:=x) h
 rw[lG (by rw[hz,bV (kj hy h)];rfl) (by rw[dI,ee];omega),aG]
 obtain⟨g,hg⟩:∃g:Nat,Gi x y=(g:Int):=⟨_,rfl⟩
 rw[hg]at hd D ⊢
 unfold aR
 rw[if_pos (nM (eL hz) (mW _ _ U hd))]
 rfl
def Jo:Gi x y∣ao x:=Int.gcd_dvd_left ..
def Jp:Gi x y∣ao y:=Int.gcd_dvd_right ..
def km (q r:List UInt8):lF (some (q,r))=.tuple #[S q,S r,.int .i64 0]:=rfl
def kn (q:List UInt8):eE (some q)=.tuple #[S q,.int .i64 0]:=rfl
def uS (h:isInt x=false):none=xC x y:=by unfold xC;rw[h];rfl
def uT (h:isInt y=false):none=xC x y:=by unfold xC;rw[h];simp
def uV (h:y=[48]):none=xC x y:=by
 unfold xC jq;subst h;rw[iN];simp
def nO (hy:isInt y=true)(h:¬y=[48]):ao y≠0:=λe=>h ((fw hy).1 e)
def G3 (hx:isInt x=true)(hy:isInt y=true)(h0:¬y=[48])(hs:¬eC y [48]<0):some (aa (ao x/Gi x y),aa (ao y/Gi x y))=xC x y:=by
 rw[gQ hy,fC]at hs
 unfold xC jq cE bI
 rw[hx,hy,Bool.and_self,if_pos Z,if_neg (nO hy h0),if_neg hs,if_neg hs];rfl
def G4 (hx:isInt x=true)(hy:isInt y=true)(h0:¬y=[48])(hs:eC y [48]<0):
 some (aa (ao (aa (-ao x))/Gi (aa (-ao x)) (aa (-ao y))),aa (ao (aa (-ao y))/Gi (aa (-ao x)) (aa (-ao y))))=xC x y:=by
 rw[gQ hy,fC]at hs
 unfold xC jq cE bI Gi
 rw[hx,hy,Bool.and_self,if_pos Z,if_neg (nO hy h0),if_pos hs,if_pos hs,aG,aG,Int.gcd_neg,Int.neg_gcd]
def G5 (hy:isInt y=true)(h0:¬y=[48]):ao (aa (-ao y))≠0:=by rw[aG];have:=nO hy h0;omega
end
def mz:Value.tuple #[.agg #[S [],S []],.int .i64 40]=gg none:=rfl
def qD (a b:List UInt8):Value.tuple #[.agg #[S a,S b],.int .i64 0]=gg (some (a,b)):=rfl
def gC (h:isInt l=true):l.length<=1000000:=by have:=mw h;omega
def kS (x y:List UInt8)(w:World)(s1:x.length<=1000000)(s2:y.length<=1000000):
 CL 119 #[.agg #[S x,S y]] w (aH w λv w'=>v=.bool (ew (x,y))):=by
 refine aC func119 Z (I ?_);refine bx (λ_ W E=>?_);have D:=W.2;refine I ?_;refine clb gt (hc:=aZ x _ aB) (hk:=?_);rintro _ _ H rfl;have⟨E,D⟩:=bn H.2 E D;refine I ?_;refine clb gt (hc:=aZ y _ aB) (hk:=?_);rintro _ _ G rfl;have⟨E,D⟩:=bn G.2 E D;refine I ?_;rcases qa4 (isInt x)with cv|cv;rcases qa4 (isInt y)with cr|cr;refine I ?_;refine clb jE (hc:=lM y [48] _ aB dc) (hk:=?_);rintro _ _ kk rfl;have⟨E,D⟩:=bn kk.2 E D;refine I ?_;by_cases fy:(eC y [48])<=0;refine I ?_;exact an (t:=2) (v:=.bool false) Z D Vp Z;refine I ?_;refine clb FK (hc:=pm x y _ aB aB) (hk:=?_);rintro _ _ O rfl;have D:=xt D O.2;refine I ?_;by_cases cw:(rE (bD x y))=0;refine I ?_;refine k0 (b:=[49]) (I ?_);exact an (t:=2) (v:=.bool (decide ((rS (bD x y))=([49])))) Z D Vp Z
 refine I ?_;exact an (t:=2) (v:=.bool false) Z D Vp Z;refine I ?_;exact an (t:=2) (v:=.bool false) Z D Vp Z;refine I ?_;exact an (t:=2) (v:=.bool false) Z D Vp Z
def xD (x y:List UInt8)(w:World)(s1:x.length<=1000000)(s2:y.length<=1000000):
 CL 36 #[S x,S y] w (aH w λv w'=>v=gg (xC x y)):=by
 refine aC func36 Z (I ?_);refine al bi (λ_ Ao E=>?_);have D:=Ao.2;refine I ?_;refine clb gt (hc:=aZ x _ aB) (hk:=?_);rintro _ _ As rfl;have⟨E,D⟩:=bn As.2 E D;refine I ?_;refine clb gt (hc:=aZ y _ aB) (hk:=?_);rintro _ _ Ad rfl;have⟨E,D⟩:=bn Ad.2 E D;refine I ?_;rcases qa4 (isInt x)with cr|cr;rcases qa4 (isInt y)with cv|cv;refine I ?_;refine k0 (b:=[48]) (I ?_);by_cases cx:y=([48]);refine I ?_;refine SA E (λ_ kk Ay=>?_);have D:=eK kk D;have E4:=dX kk;refine I ?_;refine aK (v:=.tuple #[.agg #[S [],S []],.int .i64 40]) (cJ (r1:=.cell 4 23) (r2:=.tmp 5) Z ?_ ?_) D Vz;refine ah (t:=4) (cs:=[S [],S []]) (b:=w.heap.size) (o:=0) j8 Z dv ?_ ?_;exact Z;exact aa0 Ay (i:=0) Z;exact aE (t:=5) Ve _;have hx:=cr;have hy:=cv;have H:=cx;have B2:=nO hy H;refine I ?_;refine clb jE (hc:=lM y [48] _ aB dc) (hk:=?_);rintro _ _ Ab rfl;have⟨E,D⟩:=bn Ab.2 E D;refine I ?_;by_cases cw:(eC y [48])<0;have hs:=cw;have hX:=kh hx
 have hY:=kh hy;have hY0:=G5 hy H;refine I ?_;refine clb FJ (hc:=pk [48] x _ dc aB) (hk:=?_);rintro _ _ Aq G;have⟨E,D⟩:=bn Aq.2 E D;rw[kg hx,kn]at G;subst G;refine I ?_;refine clb FJ (hc:=pk [48] y _ dc aB) (hk:=?_);rintro _ _ Ax G;have⟨E,D⟩:=bn Ax.2 E D;rw[kg hy,kn]at G;subst G;refine I ?_;refine cl FK (pm (aa (-ao x)) (aa (-ao y)) _ (gC hX) (gC hY)) ?_;rintro _ _ Ar G;have⟨E,D⟩:=bn Ar.2 E D;rw[tu hX hY hY0,kn]at G;subst G;refine I ?_;refine cl sv (gk (aa (-ao x)) (aa (Gi (aa (-ao x)) (aa (-ao y)))) _ (gC hX) (gC (bV (kj hY hY0)))) ?_;rintro _ _ g G;have⟨E,D⟩:=bn g.2 E D;rw[lO hX hY hY0 Jo,km]at G;subst G;refine I ?_;refine cl sv (gk (aa (-ao y)) (aa (Gi (aa (-ao x)) (aa (-ao y)))) _ (gC hY) (gC (bV (kj hY hY0)))) ?_;rintro _ _ D1 G;have⟨E,D⟩:=bn D1.2 E D;rw[lO hY hY hY0 Jp,km]at G;subst G;refine I ?_;refine SA E (λ_ W Av=>?_);have D:=eK W D;have E1:=dX W;refine I ?_
 refine aK (v:=.tuple #[.agg #[S (aa (ao (aa (-ao x))/Gi (aa (-ao x)) (aa (-ao y)))),S (aa (ao (aa (-ao y))/Gi (aa (-ao x)) (aa (-ao y))))],.int .i64 0]) (cJ (r1:=.cell 4 23) (r2:=.tmp 5) Z ?_ ?_) D (by rw[qD,G4 hx hy H hs]);refine ah (t:=4) (cs:=[S (aa (ao (aa (-ao x))/Gi (aa (-ao x)) (aa (-ao y)))),S (aa (ao (aa (-ao y))/Gi (aa (-ao x)) (aa (-ao y))))]) (b:=w.heap.size) (o:=0) j8 Z dv ?_ ?_;exact Z;exact aa0 Av (i:=0) Z;exact aE (t:=5) Ve _;have hs:=cw;have hX:=hx;have hY:=hy;have hY0:=B2;refine I ?_;refine cl FK (pm x y _ (gC hX) (gC hY)) ?_;rintro _ _ Aw G;have⟨E,D⟩:=bn Aw.2 E D;rw[tu hX hY hY0,kn]at G;subst G;refine I ?_;refine cl sv (gk x (aa (Gi x y)) _ (gC hX) (gC (bV (kj hY hY0)))) ?_;rintro _ _ B1 G;have⟨E,D⟩:=bn B1.2 E D;rw[lO hX hY hY0 Jo,km]at G;subst G;refine I ?_;refine cl sv (gk y (aa (Gi x y)) _ (gC hY) (gC (bV (kj hY hY0)))) ?_;rintro _ _ Ap G;have⟨E,D⟩:=bn Ap.2 E D;rw[lO hY hY hY0 Jp,km]at G;subst G;refine I ?_;refine SA E (λ_ kd wr=>?_);have D:=eK kd D;have E7:=dX kd;refine I ?_
 refine aK (v:=.tuple #[.agg #[S (aa (ao x/Gi x y)),S (aa (ao y/Gi x y))],.int .i64 0]) (cJ (r1:=.cell 4 23) (r2:=.tmp 5) Z ?_ ?_) D (by rw[qD,G3 hx hy H hs]);refine ah (t:=4) (cs:=[S (aa (ao x/Gi x y)),S (aa (ao y/Gi x y))]) (b:=w.heap.size) (o:=0) j8 Z dv ?_ ?_;exact Z;exact aa0 wr (i:=0) Z;exact aE (t:=5) Ve _;refine I ?_;refine SA E (λ_ ny Af=>?_);have D:=eK ny D;have E9:=dX ny;refine I ?_;refine aK (v:=.tuple #[.agg #[S [],S []],.int .i64 40]) (cJ (r1:=.cell 4 23) (r2:=.tmp 5) Z ?_ ?_) D Vz;refine ah (t:=4) (cs:=[S [],S []]) (b:=w.heap.size) (o:=0) j8 Z dv ?_ ?_;exact Z;exact aa0 Af (i:=0) Z;exact aE (t:=5) Ve _;refine I ?_;refine SA E (λ_ O Am=>?_);have D:=eK O D;have D2:=dX O;refine I ?_;refine aK (v:=.tuple #[.agg #[S [],S []],.int .i64 40]) (cJ (r1:=.cell 4 23) (r2:=.tmp 5) Z ?_ ?_) D Vz;refine ah (t:=4) (cs:=[S [],S []]) (b:=w.heap.size) (o:=0) j8 Z dv ?_ ?_;exact Z;exact aa0 Am (i:=0) Z
 exact aE (t:=5) Ve _
def G6 (n:Int):∃ng x,n=bv ng x/\(ng=true->0<x)/\x=n.natAbs:=by
 by_cases h:n<0
 · exact⟨true,n.natAbs,by simp[bv];omega,λ_=>by omega,rfl⟩
 · exact⟨false,n.natAbs,by simp[bv];omega,by simp,rfl⟩
def G7 (h:ng=true->0<x):nl (decide (bv ng x<0)) x=aa (bv ng x):=by
 rw[<-my]
 congr 1
 cases ng with
 | false=>
   have:decide (bv false x<0)=false:=qa2 (by show¬(x:Int)<0;omega)
   rw[this]
 | true=>
   have:=h Z
   have:decide (bv true x<0)=true:=qa1 (by show -(x:Int)<0;omega)
   rw[this]
def pn :bv ng x=0↔x=0:=by cases ng <;>simp[bv] <;>omega
def uW {ng:Bool}{x:Nat}:-(x:Int)<=bv ng x/\bv ng x<=(x:Int):=by cases ng <;>simp[bv] <;>omega
def zV (h:ng=true/\0<d):bv ng d<0/\-bv ng d=(d:Int):=by rw[h.1];simp[bv];omega
def G8 (h:¬(ng=true/\0<d)):bv ng d=(d:Int):=by cases ng <;>simp_all [bv]
def tv (h:¬x=0):aj 10 x=x%10::aj 10 (x/10):=eo 10 x U U
def c8 (c n:Int):Int:=(if c<0 then -(c+1)else c)%n
def lP (c n:Int)(h:0<n):0<=c8 c n/\c8 c n<n:=⟨Int.emod_nonneg _ U,Int.emod_lt_of_pos _ h⟩
def zX {c n:Int}(h:c<0):-(c+1)%n=c8 c n:=by unfold c8;rw[if_pos h]
def zY {c n:Int}(h:¬c<0):c%n=c8 c n:=by unfold c8;rw[if_neg h]
def po (s:List UInt8):List UInt8:=if s=[48]then s else[49]
def tw (hng:ng=true->0<x0)(hx0:x0<=100000000):
 CL 200 #[.int .i64 (bv ng x0)] w (aH w λv w'=>v=S (aa (bv ng x0))):=by
 have Av:(aj 10 x0).length<=9:=(aF 10 U x0 9).2 U;refine aC func200 Z (I ?_);have Aw:World.ownsRow w w.heap.size 3 1 (.slice none 0 0) 0 (ints []):=ic;have Ar:=aa4 w;refine cM [(3,5),(9,22)] (λAp e W=>∃x:Nat,∃ds:List Nat,∃G:Value,(x=Ap)/\(e 4=.int .i64 (bv ng x))/\(e 3=G)/\(aj 10 x0=ds++aj 10 x)/\(x<=100000000)/\(a8 w W)/\(W.ownsRow w.heap.size 3 1 G ds.length (ints ds))) (x0) ⟨x0,[],.slice none 0 0,rfl,rfl,rfl,rfl,hx0,Ar,Aw⟩ ?_;rintro _ _ _ ⟨x,ds,G,rfl,Jx,kd,E,E9,D,ho⟩;have E7:=bz D;by_cases hx:x=0;rw[hx,eH,List.append_nil]at E;obtain⟨_,_,rfl,Ad⟩:=mx ho E.symm;have EW:=Ad.row.hi;have L2:ds.length<=9:=by rw[<-E];exact Av
 have D1:=show bv ng x=0 from pn.2 hx;refine I ?_;refine clb yg (hc:=iP Ad U (decide ((bv ng x0)<0))) (hk:=?_);rintro _ _ Aq rfl;have D:=xt D Aq.2;refine I ?_;exact an (t:=2) (v:=S (nl (decide ((bv ng x0)<0)) x0)) Z D (by rw[G7 hng]) Z;by_cases hd:ng=true/\0<x%10;rw[tv hx]at E;have H:=qb1 List.length E;rw[List.length_append,List.length_cons]at H;have K2:=show¬bv ng x=0 from λh=>hx (pn.1 h);refine I ?_;refine ab (yN (a:=bv ng x) (b:=10) (c:=bv ng (x%10)) Z Z dc (by rw[tq]) ?_);have Ix:=(zV hd).1;refine I ?_;refine ab (sr (a:=bv ng (x%10)) Z (by have:=@uW ng (x%10);unfold In64;omega) ?_);rw[(zV hd).2];refine I ?_;refine ab (cW (v:=G) kd ?_);refine I ?_;refine BS (λ_ O _ Ax=>?_);have E1:=bO ho;have ho:=aD O ho;have D:=xt D O;have E4:=bz O;refine AP ho (aa3 Ax) (λAm _ As Ab _=>?_);have D:=de ho U U D Ab;have wr:=Ab.size;refine ab (bJ (v:=Am) Z ?_);refine I ?_;refine ab (yM (a:=bv ng x) (b:=10) (c:=bv ng (x/10)) Z Z dc (tr _ _) (by have:=@uW ng (x/10);unfold In64;omega) ?_);refine I ?_;exact bQ ⟨x/10,ds++[x%10],Am,rfl,rfl,rfl,(by rw[List.append_assoc];exact E),U,D,(cL As Vk (by rw[dO]))⟩
 rw[tv hx]at E;have H:=qb1 List.length E;rw[List.length_append,List.length_cons]at H;have B2:=show¬bv ng x=0 from λh=>hx (pn.1 h);refine I ?_;refine ab (yN (a:=bv ng x) (b:=10) (c:=((x%10:Nat):Int)) Z Z dc (by rw[tq];exact G8 hd) ?_);refine I ?_;refine ab (cW (v:=G) kd ?_);refine I ?_;refine BS (λ_ kk _ Ao=>?_);have D2:=bO ho;have ho:=aD kk ho;have D:=xt D kk;have B1:=bz kk;refine AP ho (aa3 Ao) (λAf _ Ay g _=>?_);have D:=de ho U U D g;have Kp:=g.size;refine ab (bJ (v:=Af) Z ?_);refine I ?_;refine ab (yM (a:=bv ng x) (b:=10) (c:=bv ng (x/10)) Z Z dc (tr _ _) (by have:=@uW ng (x/10);unfold In64;omega) ?_);refine I ?_;exact bQ ⟨x/10,ds++[x%10],Af,rfl,rfl,rfl,(by rw[List.append_assoc];exact E),U,D,(cL Ay Vk (by rw[dO]))⟩
def uX (n:Int)(w:World)(h:-100000000<=n/\n<=100000000):CL 200 #[.int .i64 n] w (aH w λv _=>v=S (aa n)):=by
 obtain⟨ng,x,rfl,h1,D⟩:=G6 n
 exact tw h1 (by have:=fS ng x;omega)
def ko (x:List UInt8)(w:World):
 CL 120 #[S x] w (aH w λv w'=>v=S (po x)):=by
 refine aC func120 Z (I ?_);refine k0 (b:=[48]) (I ?_);by_cases cf:x=([48]);refine I ?_;exact an (t:=2) (v:=S x) Z (aa4 _) (by simp[po, *]) Z;refine I ?_;exact an (t:=2) (v:=S [49]) Z (aa4 _) (by simp[po, *]) Z
end
section
open Go Go.Eng Go.RowKit Tryz
def nS (n:Nat):List UInt8:=aa (n:Int)
def Fi (n:Nat):Prop:=n<10^200
def Fz (z:Int):Prop:=z.natAbs<10^200
def Fz.fits {z:Int}(h:Fz z):fits z=true:=qa1 h
def Fi.z (h:Fi n):Fz (n:Int):=by simpa[Fz,Fi]using h
def Fz.int {z:Int}(h:Fz z):isInt (aa z)=true:=bV h.fits
def uY {a b:Int}(ha:Fz a)(hb:Fz b)(h:Fz (a+b)):pJ (aa a) (aa b)=some (aa (a+b)):=by
 rw[nJ VF,aG,aG];unfold aR;rw[if_pos h.fits]
def zZ {a b:Int}(ha:Fz a)(hb:Fz b)(h:Fz (a-b)):aN (aa a) (aa b)=some (aa (a-b)):=by
 rw[lE VF,aG,aG];unfold aR;rw[if_pos h.fits]
def uZ {a b:Int}(ha:Fz a)(hb:Fz b)(h:Fz (a*b)):av (aa a) (aa b)=some (aa (a*b)):=by
 rw[fA VF,aG,aG];unfold aR;rw[if_pos h.fits]
def jV {a b:Int}(ha:Fz a)(hb:Fz b)(h0:b≠0)(h:Fz (a/b)):cR (aa a) (aa b)=some (aa (a/b),aa (a%b)):=by
 rw[lG VF (by rw[dI,ee];omega),aG,aG];unfold aR;rw[if_pos h.fits];rfl
def pp {a b:Int}(ha:Fz a)(hb:Fz b):eC (aa a) (aa b)=aw a b:=by
 unfold eC;rw[if_pos VF,aG,aG]
def C2:([48]:List UInt8)=nS 0:=by decide +kernel
def g8:([49]:List UInt8)=nS 1:=by decide +kernel
def jl:([50]:List UInt8)=nS 2:=by decide +kernel
def G9:([52]:List UInt8)=nS 4:=by decide +kernel
def bS {z:Int}:(aa z=[48])↔z=0:=⟨λh=>gP (h.trans C2),λh=>by subst h;exact C2.symm⟩
def eU {a b:Int}(h:Fz a)(hb:0<b):Fz (a/b):=by
 unfold Fz at *
 refine Nat.lt_of_le_of_lt ?_ h
 obtain⟨k,rfl⟩:∃k:Nat,b=k:=⟨b.toNat,by omega⟩
 rcases Int.eq_nat_or_neg a with⟨n,rfl|rfl⟩
 · have:((n:Int)/(k:Int))=((n/k:Nat):Int):=rfl
   rw[this,Int.natAbs_natCast,Int.natAbs_natCast];exact Nat.div_le_self _ _
 · have h1:-(n:Int)<=-(n:Int)/(k:Int):=by
    rw[Int.le_ediv_iff_mul_le hb]
    have:(n:Int)<=(n:Int)*(k:Int):=by have:=Int.mul_le_mul_of_nonneg_left (show(1:Int)<=k by omega) (show(0:Int)<=n by omega);simpa using this
    rw[Int.neg_mul];omega
   have D:-(n:Int)/(k:Int)<=0:=by
    refine Int.ediv_le_of_le_mul hb ?_
    simp
   omega
abbrev N2:=Nat×Nat
def gF (a b:Nat):Nat:=if a%b=0 then a/b else a/b+1
def aM (S n d:Nat):N2:=(n*S/d,gF (n*S) d)
def a7 (S:Nat)(a b:N2):N2:=(a.1*b.1/S,gF (a.2*b.2) S)
def iD (S:Nat)(a b:N2):N2:=(a.1*S/b.2,gF (a.2*S) b.1)
def ba (a:N2)(n d:Nat):N2:=(a.1*n/d,gF (a.2*n) d)
def dA (a b:N2):N2:=(a.1+b.1,a.2+b.2)
def l9 (a b:N2):Int×Int:=((a.1:Int)-b.2,(a.2:Int)-b.1)
def zP (a:N2):Int×Int:=((a.1:Int),(a.2:Int))
def iE (hb:0<b):gF a b<=a:=by
 unfold gF
 split
 · exact Nat.div_le_self _ _
 · rename_i h
   have h1:=Nat.div_add_mod a b
   have D:a/b<=b*(a/b):=Nat.le_mul_of_pos_left _ hb
   omega
def Bk (k:Nat)(p:N2):Prop:=p.1<10^k/\p.2<10^k
def gJ (p:N2):Bool:=decide (p.1<10^95)&&decide (p.2<10^95)
def bm {p:N2}(h:gJ p=true):Bk 95 p:=by simpa[gJ,Bk]using h
structure Sc (S:Nat):Prop where
 pos:0<S
 lt:S<10^95
def dl {m:Nat}(ha:a<10^k)(hb:b<10^m):a*b<10^(k+m):=by
 rw[Nat.pow_add];exact Nat.mul_lt_mul'' ha hb
def dF {m:Nat}(h:a<10^k)(hl:k<=m):a<10^m:=qb0 h (Nat.pow_le_pow_right U hl)
def Bk.mono {m:Nat}{p:N2}(h:Bk k p)(hl:k<=m):Bk m p:=⟨dF h.1 hl,dF h.2 hl⟩
def Bk.fi {p:N2}(h:Bk k p)(hl:k<=200):Fi p.1/\Fi p.2:=⟨dF h.1 hl,dF h.2 hl⟩
def bT (h:a<10^k)(hl:k<=200):Fi a:=dF h hl
def bC {m:Nat}(ha:a<10^k)(hb:b<10^m)(hl:k+m<=200):Fi (a*b):=bT (dl ha hb) hl
def jW {S:Nat}{a b:N2}(hS:0<S)(ha:Bk 95 a)(hb:Bk 95 b):Bk 190 (a7 S a b):=
 ⟨Nat.lt_of_le_of_lt (Nat.div_le_self _ _) (dl ha.1 hb.1),Nat.lt_of_le_of_lt (iE hS) (dl ha.2 hb.2)⟩
def pq {a:N2}{m:Nat}(hd:0<d)(ha:Bk k a)(hn:n<10^m):Bk (k+m) (ba a n d):=
 ⟨Nat.lt_of_le_of_lt (Nat.div_le_self _ _) (dl ha.1 hn),Nat.lt_of_le_of_lt (iE hd) (dl ha.2 hn)⟩
def rK {S:Nat}{a b:N2}(hS:Sc S)(h0:0<b.1)(ha:Bk 95 a):Bk 190 (iD S a b):=
 ⟨Nat.lt_of_le_of_lt (Nat.div_le_self _ _) (dl ha.1 hS.lt),Nat.lt_of_le_of_lt (iE h0) (dl ha.2 hS.lt)⟩
def kT (nx:Nat->N2->N2)(t0:N2):Nat->N2
 |0=>t0
 |k+1=>nx (k+1) (kT nx t0 k)
def lQ (T:Nat->N2):Nat->N2
 |0=>(0,0)
 |k+1=>dA (lQ T k) (T k)
def z6 (nx:Nat->N2->N2):Nat->Nat->N2->N2->Nat->Option N2
 |0,_,_,_,_=>none
 | f +1,n,t,a,l=>if gJ t=true then
  (if 2<=n/\t.2<=2/\t.2*2<=l+2 then some (a.1+t.1,a.2+t.2+(t.2+4))else z6 nx f (n+1) (nx n t) (dA a t) t.2)
   else none
def kU (nx:Nat->N2->N2)(t0:N2):Option N2:=z6 nx 1000 1 t0 (0,0) 0
structure pO (T:Nat->N2)(m:Nat):Prop where
 lt:m<1000
 bd:∀k≤m,Bk 95 (T k)
 go:∀k<m,k=0\/¬((T k).2<=2/\(T k).2*2<=(T (k-1)).2+2)
 pos:0<m
 stop:(T m).2<=2/\(T m).2*2<=(T (m-1)).2+2
def nn (T:Nat->N2)(m:Nat):N2:=((lQ T (m+1)).1,(lQ T (m+1)).2+((T m).2+4))
def tz {nx:Nat->N2->N2}{t0 r:N2}:∀(f k l:Nat),k+f<=1000->(k=0\/l=(kT nx t0 (k-1)).2)->(∀j<k,Bk 95 (kT nx t0 j))->(∀j<k,j=0\/¬((kT nx t0 j).2<=2/\(kT nx t0 j).2*2<=(kT nx t0 (j-1)).2+2))->
 z6 nx f (k+1) (kT nx t0 k) (lQ (kT nx t0) k) l=some r->∃m,pO (kT nx t0) m/\nn (kT nx t0) m=r
 |0,_,_,_,_,_,_,h=>by simp[z6]at h
 | f + 1,k,l,hk,hl,hb,hg,h=>by
   unfold z6 at h
   by_cases h1:gJ (kT nx t0 k)=true
   · rw [if_pos h1]at h
     have hb':∀j≤k,Bk 95 (kT nx t0 j):=λj D=>by
      by_cases e:j=k
      · subst e;exact bm h1
      · exact hb j U
     split at h
     · rename_i hs
       cases h
       have hl':l=(kT nx t0 (k-1)).2:=by rcases hl with e|e;omega;exact e
       exact⟨k,⟨by omega,hb',hg,by omega,hs.2.1,by rw[<-hl'];exact hs.2.2⟩,rfl⟩
     · rename_i hs
       refine tz f (k+1) _ U (Or.inr Z) (λj D=>hb' j U) (λj D=>?_) h
       by_cases e:j=k
       · subst e
         by_cases e0:j=0
         · exact Or.inl e0
         · refine Or.inr λhc=>hs ⟨by omega,hc.1,?_⟩
           rcases hl with e|e;omega;rw[e];exact hc.2
       · exact hg j U
   · rw[if_neg h1]at h;cases h
def iQ {nx:Nat->N2->N2}{t0 r:N2}(h:kU nx t0=some r):∃m,pO (kT nx t0) m/\nn (kT nx t0) m=r:=
 tz 1000 0 0 U (Or.inl Z) (λj D=>by omega) (λj D=>by omega) h
def wn {T:Nat->N2}{m:Nat}(hT:∀k≤m,Bk 95 (T k)):∀k≤m+1,(lQ T k).1<=k*10^95/\(lQ T k).2<=k*10^95
 |0,_=>by simp[lQ]
 | k+1,hk=>by
   obtain⟨h1,h2⟩:=wn hT k U
   obtain⟨D,E⟩:=hT k U
   simp only[lQ,dA,Nat.add_mul,Nat.one_mul]
   exact⟨by omega,by omega⟩
def pO.tot {T:Nat->N2}{m:Nat}(h:pO T m)(hk:k<=m+1):Bk 99 (lQ T k):=by
 obtain⟨_,_⟩:=wn h.bd k hk
 have D:k*10^95<=1000*10^95:=Nat.mul_le_mul_right _ (by have:=h.lt;omega)
 have E:1000*10^95<10^99:=by decide
 exact⟨by omega,by omega⟩
def pO.res {T:Nat->N2}{m:Nat}(h:pO T m):Bk 100 (nn T m):=by
 obtain⟨_,_⟩:=h.tot (qa0 (m+1))
 have D:=(h.bd m (qa0 m)).2
 unfold nn
 exact⟨by omega,by simp only;omega⟩
def g9 (S:Nat):Nat->N2->Nat->Option (N2×Nat)
 |0,_,_=>none
 |f+1,x,h=>if S<x.2*2 then g9 S f (ba x 1 2) (h+1)else some (x,h)
def u0 (S:Nat):Nat->N2->Option N2
 |0,a=>if gJ a=true then some a else none
 |h+1,a=>if gJ a=true then u0 S h (a7 S a a)else none
def z7 (S:Nat)(x:N2)(n:Nat)(t:N2):N2:=ba (a7 S t x) 1 n
def kV (S:Nat)(x:N2):Option N2:=if gJ x=true then(g9 S 200 x 0).bind λp=>(kU (z7 S p.1) (1*S,1*S)).bind (u0 S p.2)else none
def C3 {x:N2}(h:Bk k x):Bk k (ba x 1 2):=
 ⟨Nat.lt_of_le_of_lt (by simpa[ba]using Nat.div_le_self _ _) h.1,Nat.lt_of_le_of_lt (by simpa[ba]using iE (a:=x.2) (b:=2) U) h.2⟩
def Ha {S:Nat}{x:N2}{p:N2×Nat}(hh:g9 S f x h=some p)(hl:S<x.2*2):∃g,f=g+1/\g9 S g (ba x 1 2) (h+1)=some p:=by
 cases f with
 |zero=>simp[g9]at hh
 |succ g=>unfold g9 at hh;rw[if_pos hl]at hh;exact⟨g,rfl,hh⟩
def Hb {S:Nat}{x:N2}{p:N2×Nat}(hh:g9 S f x h=some p)(hl:¬S<x.2*2):p=(x,h):=by
 cases f with
 |zero=>simp[g9]at hh
 |succ g=>unfold g9 at hh;rw[if_neg hl]at hh;cases hh;rfl
def Jq {S:Nat}{a r:N2}(hh:u0 S (h-i) a=some r)(hl:i<h):Bk 95 a/\u0 S (h-(i+1)) (a7 S a a)=some r:=by
 obtain⟨k,hk⟩:∃k,h-i=k+1:=⟨h-i-1,by omega⟩
 rw[hk]at hh
 unfold u0 at hh
 rw[show h-(i+1)=k by omega]
 split at hh
 · rename_i h1;exact⟨bm h1,hh⟩
 · cases hh
def Jr {S:Nat}{a r:N2}(hh:u0 S (h-i) a=some r)(hl:¬i<h):a=r/\Bk 95 r:=by
 rw[show h-i=0 by omega]at hh
 unfold u0 at hh
 split at hh
 · rename_i h1;cases hh;exact⟨rfl,bm h1⟩
 · cases hh
def wo {S:Nat}{x r:N2}(h:kV S x=some r):Bk 95 x/\∃p s,g9 S 200 x 0=some p/\kU (z7 S p.1) (1*S,1*S)=some s/\u0 S p.2 s=some r:=by
 unfold kV at h
 split at h
 · rename_i h1
   refine⟨bm h1,?_⟩
   cases hp:g9 S 200 x 0 with
   |none=>rw[hp]at h;cases h
   | some p=>
     rw[hp,Option.bind_some]at h
     cases hs:kU (z7 S p.1) (1*S,1*S)with
     |none=>rw[hs]at h;cases h
     |some s=>rw[hs,Option.bind_some]at h;exact⟨p,s,rfl,hs,h⟩
 · cases h
def EQ {S:Nat}:∀{h:Nat} {a r:N2},u0 S h a=some r->Bk 95 r
 |0,a,r,h=>by unfold u0 at h;split at h;rename_i h1;cases h;exact bm h1;cases h
 |k+1,a,r,h=>by unfold u0 at h;split at h;exact EQ h;cases h
def rL {S:Nat}{x r:N2}(h:kV S x=some r):Bk 95 r:=by
 obtain⟨_,p,s,_,_,D⟩:=wo h
 exact EQ D
def z8 (S:Nat)(q:N2)(n:Nat)(u:N2):N2:=ba (a7 S u q) (2*n-1) (2*n+1)
def pP (S:Nat)(t:N2):Option N2:=if gJ t=true then(if gJ (a7 S t t)=true then(kU (z8 S (a7 S t t)) t).map λr=>ba r 2 1 else none)else none
def ws {S:Nat}{t r:N2}(h:pP S t=some r):Bk 95 t/\Bk 95 (a7 S t t)/\∃s,kU (z8 S (a7 S t t)) t=some s/\r=ba s 2 1:=by
 unfold pP at h
 split at h
 · rename_i h1
   split at h
   · rename_i h2
     cases hs:kU (z8 S (a7 S t t)) t with
     |none=>rw[hs]at h;cases h
     |some s=>rw[hs]at h;cases h;exact⟨bm h1,bm h2,s,rfl,rfl⟩
   · cases h
 · cases h
def Js (S:Nat)(q:N2)(n:Nat)(u:N2):N2:=ba (a7 S u q) 1 (2*n+1)
def Hc (S:Nat)(y:N2)(fr n:Nat)(u:N2):N2:=ba (a7 S u y) 2 (fr+2*n)
end
section
set_option maxRecDepth 100000
open Go Go.Eng Go.RowKit Tryz
attribute [local irreducible] wpListIn Code.wpIn Oper.wpIn Exit.then Exit.inBlock Exit.noGoto
set_option maxHeartbeats 40000000
section
variable {f:FuncId}{a:Array Value}
def gT {X Y:Value}(h:CL f a w (aH w λv _=>v=X))(e:X=Y):CL f a w (aH w λv _=>v=Y):=e▸h
def cB {X Y:Bool}(h:CL f a w (aH w λv _=>v=.bool X))(e:X=Y):CL f a w (aH w λv _=>v=.bool Y):=e▸h
end
def Jt (h:nS (a%b)=[48]):S (nS (a/b))=S (nS (gF a b)):=by
 have:=bS.1 h
 unfold gF;rw[if_pos U]
def Ju (h:¬nS (a%b)=[48]):S (nS (a/b+1))=S (nS (gF a b)):=by
 unfold gF;rw[if_neg λe=>h (by rw[e];rfl)]
def He (h:Fi a):Fi (a/b):=Nat.lt_of_le_of_lt (Nat.div_le_self _ _) h
def Hf (h:Fi a)(hb:0<b):Fi (gF a b):=Nat.lt_of_le_of_lt (iE hb) h
def ER (h:Fi a)(hb:0<b)(h0:¬nS (a%b)=[48]):Fi (a/b+1):=by
 have h1:=Hf h hb
 unfold gF at h1
 rwa [if_neg λe=>h0 (by rw[e];rfl)]at h1
def Jv:Fi 1:=by unfold Fi;decide
def rM (h:Fi (a+b)):Fi a/\Fi b:=by unfold Fi at *;omega
def Aa (ha:Fi a)(hb:Fi b)(h0:0<b):cR (nS a) (nS b)=some (nS (a/b),nS (a%b)):=jV ha.z hb.z U (He ha).z
def lR {a b:Int}(hl:l=aa a)(hm:m=aa b)(ha:Fz a)(hb:Fz b)(h:Fz (a+b))(ht:Tb w):
 CL 24 #[S l,S m] w (aH w λv w'=>v=S (aa (a+b))):=by
 subst hl hm;refine aC func24 Z (I ?_);refine cl yn (gT (Y:=.tuple #[S (aa (a+b)),.int .i64 0]) (rC _ _ _ (ht.ext (aa4 _))) (qb1 eE (uY ha hb h))) ?_;rintro _ _ E rfl;have D:=E.2;refine I ?_;exact an (t:=4) (v:=S (aa (a+b))) Z D Z Z
def fZ {a b:Int}(hl:l=aa a)(hm:m=aa b)(ha:Fz a)(hb:Fz b)(h:Fz (a-b))(ht:Tb w):
 CL 22 #[S l,S m] w (aH w λv w'=>v=S (aa (a-b))):=by
 subst hl hm;refine aC func22 Z (I ?_);refine cl vA (gT (Y:=.tuple #[S (aa (a-b)),.int .i64 0]) (nK _ _ _ (ht.ext (aa4 _))) (qb1 eE (zZ ha hb h))) ?_;rintro _ _ E rfl;have D:=E.2;refine I ?_;exact an (t:=4) (v:=S (aa (a-b))) Z D Z Z
def lS {a b:Int}(hl:l=aa a)(hm:m=aa b)(ha:Fz a)(hb:Fz b)(h:Fz (a*b))(ht:Tb w):
 CL 20 #[S l,S m] w (aH w λv w'=>v=S (aa (a*b))):=by
 subst hl hm;refine aC func20 Z (I ?_);refine cl EA (gT (Y:=.tuple #[S (aa (a*b)),.int .i64 0]) (wd _ _ _ (ht.ext (aa4 _))) (qb1 eE (uZ ha hb h))) ?_;rintro _ _ E rfl;have D:=E.2;refine I ?_;exact an (t:=4) (v:=S (aa (a*b))) Z D Z Z
def jX {a b:Int}(hl:l=aa a)(hm:m=aa b)(ha:Fz a)(hb:Fz b)(hp:0<b)(ht:Tb w):
 CL 23 #[S l,S m] w (aH w λv w'=>v=S (aa (a/b))):=by
 subst hl hm;have E:b≠0:=U;refine aC func23 Z (I ?_);refine clb xe (hc:=gT (Y:=.tuple #[S (aa (a/b)),S (aa (a%b)),.int .i64 0]) (kf _ _ _ (ht.ext (aa4 _))) (qb1 lF (jV ha hb E (eU ha U)))) (hk:=?_);rintro _ _ G rfl;have D:=G.2;refine I ?_;exact an (t:=4) (v:=S (aa (a/b))) Z D Z Z
def ik (hl:l=nS a)(hm:m=nS b)(h:Fi (a+b))(ht:Tb w):CL 24 #[S l,S m] w (aH w λv _=>v=S (nS (a+b))):=lR hl hm (rM h).1.z (rM h).2.z h.z ht
def ez (hl:l=nS a)(hm:m=nS b)(ha:Fi a)(hb:Fi b)(h:Fi (a*b))(ht:Tb w):CL 20 #[S l,S m] w (aH w λv _=>v=S (nS (a*b))):=lS hl hm ha.z hb.z h.z ht
def lT (hl:l=nS a)(hm:m=nS b)(ha:Fi a)(hb:Fi b)(hp:0<b)(ht:Tb w):CL 23 #[S l,S m] w (aH w λv _=>v=S (nS (a/b))):=jX hl hm ha.z hb.z U ht
def rO (hl:l=nS a)(hm:m=nS b)(ha:Fi a)(hb:Fi b)(hp:0<b)(ht:Tb w):
 CL 79 #[S l,S m] w (aH w λv w'=>v=S (nS (gF a b))):=by
 subst hl hm;refine aC func79 Z (I ?_);refine cl xe (gT (Y:=.tuple #[S (nS (a/b)),S (nS (a%b)),.int .i64 0]) (kf _ _ _ (ht.ext (aa4 _))) (qb1 lF (Aa ha hb hp))) ?_;rintro _ _ E rfl;have D:=E.2;refine I ?_;refine k0 (b:=[48]) (I ?_);by_cases cm:(nS (a%b))=([48]);refine I ?_;exact an (t:=4) (v:=S (nS (a/b))) Z D (Jt cm) Z;refine I ?_;refine cl gv (ik Z g8 (ER ha hp cm) (ht.ext D)) ?_;rintro _ _ G rfl;have D:=xt D G.2;refine I ?_;exact an (t:=4) (v:=S (nS (a/b+1))) Z D (Ju cm) Z
def pr (hn:n<1000000000)(ht:Tb w):
 CL 54 #[.int .i64 n] w (aH w λv w'=>v=S (nS n)):=by
 refine aC func54 Z (I ?_);refine clb yl (hc:=gT (Y:=S (nS n)) (rr _ _ U U (ht.ext (aa4 _))) (qb1 S (s7 n))) (hk:=?_);rintro _ _ E rfl;have D:=E.2;refine I ?_;exact an (t:=2) (v:=S (nS n)) Z D Z Z
end
end Go.Proofs.YtgcfffdpcefifaaGreatDoor
