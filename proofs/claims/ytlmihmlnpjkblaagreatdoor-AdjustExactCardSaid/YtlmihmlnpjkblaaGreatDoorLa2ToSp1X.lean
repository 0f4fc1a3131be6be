/- Part of the proof of a statement about an adjustment. -/
import Derived.Test.YtlmihmlnpjkblaaGreatDoorLin13ToLa1X
set_option linter.all false
namespace La
variable {k i n p:Nat}
def sg (i:Nat):Rat:=if i%2=0 then 1 else -1
def s5 (i:Nat):sg (i+1)= -sg i:=by
 unfold sg
 rcases Nat.mod_two_eq_zero_or_one i with h|h
 · rw[if_neg J,if_pos h]
 · rw[if_pos J,if_neg J];grind
def mn (i:Nat)(A:Mx):Mx:=λr c=>A (sk i r) (c+1)
def det:Nat->Mx->Rat
 |0,_=>1
 |n+1,A=>sm (n+1) λi=>sg i*A i 0*det n (mn i A)
def mr (k:Nat)(A:Mx):Mx:=λr c=>A (r+1) (sk k c)
def AN:Nat->Mx->Rat
 |0,_=>1
 |n+1,A=>sm (n+1) λk=>sg k*A 0 k*AN n (mr k A)
def Rv (h:i<n):sk k i<n+1:=by unfold sk;split <;>omega
def e9:∀{n:Nat} {A B:Mx},lQ n n A B->det n A=det n B
 |0,_,_,_=>rfl
 | n+1,A,B,h=>av λi hi=>by
   rw[h i hi 0 J,e9 (A:=mn i A) (B:=mn i B) λr hr c hc=>h _ (Rv hr) _ J]
def Lm:∀(n:Nat) (A:Mx),det n (tr A)=AN n A
 |0,_=>rfl
 | n+1,A=>av λi _=>by
   show sg i*A 0 i*det n (mn i (tr A))=_
   rw[show mn i (tr A)=tr (mr i A)from rfl,Lm n]
def g9 (f:Nat->Rat):∀n,sm (n+1) f=f 0+sm n (λi=>f (i+1))
 |0=>by simp only[sm];grind
 | n+1=>by
   rw[show sm (n+1+1) f=sm (n+1) f+f (n+1)from rfl,g9 f n]
   simp only[sm];grind
def sk0 (r:Nat):sk 0 r=r+1:=by simp[sk]
def Rx (i:Nat):sk (i+1) 0=0:=by simp[sk]
def Ry (i r:Nat):sk (i+1) (r+1)=sk i r+1:=by unfold sk;split <;>split <;>omega
def pY:∀(n:Nat) (A:Mx),det n A=AN n A
 |0,_=>rfl
 |1,A=>by simp[det,AN,sm]
 | n +2,A=>by
   rw[det,g9,AN,g9 (λk=>sg k*A 0 k*AN (n+1) (mr k A))]
   have h0:mn 0 A=mr 0 A:=by funext r c;simp[mn,mr,sk0]
   rw[h0,pY (n+1) (mr 0 A)]
   let D:Nat->Nat->Mx:=λi k r c=>A (sk i r+1) (sk k c+1)
   have h1:∀i,i<n+1->sg (i+1)*A (i+1) 0*det (n+1) (mn (i+1) A)=sm (n+1) λk=> -(sg i*sg k)*(A (i+1) 0*A 0 (k+1))*det n (D i k):=by
    intro i _
    rw[pY (n+1),AN,<-dz]
    refine av λk _=>?_
    rw[show mr k (mn (i+1) A)=D i k by funext r c;simp[mr,mn,D,Ry],<-pY n,s5]
    show _*(sg k*A (sk (i+1) 0) (k+1)*_)=_
    rw[Rx];grind
   have h2:∀k,k<n+1->sg (k+1)*A 0 (k+1)*AN (n+1) (mr (k+1) A)=sm (n+1) λi=> -(sg i*sg k)*(A (i+1) 0*A 0 (k+1))*det n (D i k):=by
    intro k _
    rw[<-pY (n+1),det,<-dz]
    refine av λi _=>?_
    rw[show mn i (mr (k+1) A)=D i k by funext r c;simp[mr,mn,D,Ry],s5]
    show _*(sg i*A (i+1) (sk (k+1) 0)*_)=_
    rw[Rx];grind
   rw[av h1,av h2,ju]
def ks (n:Nat)(A:Mx):det n (tr A)=det n A:=by rw[Lm,pY]
def ur (A:Mx)(k:Nat)(u:Nat->Rat):Mx:=λi j=>if i=k then u j else A i j
def oD {A:Mx}{u:Nat->Rat}:mn k (ur A k u)=mn k A:=by
 funext r c;unfold mn ur;rw[if_neg (by unfold sk;split <;>omega)]
def pk (i k:Nat):Nat:=if k<i then k else k-1
def Ln {A:Mx}{u:Nat->Rat}(h:i≠k):mn i (ur A k u)=ur (mn i A) (pk i k) (λj=>u (j+1)):=by
 funext r c;unfold mn ur
 have:(sk i r=k)↔(r=pk i k):=by unfold sk pk;split <;>split <;>omega
 by_cases e:sk i r=k
 · rw[if_pos e,if_pos (this.1 e)]
 · rw[if_neg e,if_neg (λh=>e (this.2 h))]
def s6:∀(n:Nat) (A:Mx) (k:Nat) (u v:Nat->Rat) (c:Rat),k<n->det n (ur A k (λj=>u j+c*v j))=det n (ur A k u)+c*det n (ur A k v)
 |0,_,_,_,_,_,h=>absurd h J
 | n +1,A,k,u,v,c,h=>by
   simp only[det]
   rw[<-dz,<-lJ]
   refine av λi hi=>?_
   by_cases e:i=k
   · subst e
     rw[oD,oD,oD]
     simp only[ur,if_true];grind
   · rw[Ln e,Ln e,Ln e,s6 n _ _ (λj=>u (j+1)) (λj=>v (j+1)) c (by unfold pk;split <;>omega)]
     simp only[ur,if_neg e];grind
def s7 (A:Mx)(k:Nat):ur A k (A k)=A:=by funext i j;unfold ur;split <;>simp_all
def wT {A:Mx}(u:Nat->Rat)(c:Rat)(h:k<n):det n (ur A k (λj=>c*u j))=c*det n (ur A k u):=by
 have h1:=s6 n A k u u (c-1) h
 rw[show(λj=>u j+(c-1)*u j)=λj=>c*u j by funext j;grind]at h1
 rw[h1];grind
def AO {A:Mx}(h:k<n)(hz:∀j,j<n->A k j=0):det n A=0:=by
 have h1:=wT (A:=A) (A k) 0 h
 rw[s7]at h1
 rw[<-Rat.zero_mul (det n A),<-h1]
 refine e9 λi _ j E=>?_
 unfold ur
 split
 · rename_i e;subst e;rw[hz j E];grind
 · rfl
def sa (k i:Nat):Nat:=if i=k then k+1 else if i=k+1 then k else i
def Rz (f:Nat->Rat)(k:Nat):∀n,k+1<n->sm n (λi=>f (sa k i))=sm n f
 |0,h=>absurd h J
 | n +1,h=>by
   by_cases e:k+1=n
   · subst e
     show sm k (λi=>f (sa k i))+f (sa k k)+f (sa k (k+1))=sm k f+f k+f (k+1)
     rw[av (g:=f) (n:=k) (λi hi=>by unfold sa;rw[if_neg J,if_neg J])]
     rw[show sa k k=k+1 by simp[sa],show sa k (k+1)=k by simp[sa]];grind
   · show sm n (λi=>f (sa k i))+f (sa k n)=sm n f+f n
     rw[Rz f k n J,show sa k n=n by unfold sa;rw[if_neg J,if_neg J]]
def UB {r:Nat}:sa i (sk i r)=sk (i+1) r:=by unfold sa sk;grind
def UC {r:Nat}:sa k (sk (k+1) r)=sk k r:=by unfold sa sk;grind
def UD {r:Nat}(e1:¬i=k)(e2:¬i=k+1):sa k (sk i r)=sk i (sa (if k<i then k else k-1) r):=by unfold sa sk;grind
def uX:∀(n:Nat) (A:Mx) (k:Nat),k+1<n->det n (λi j=>A (sa k i) j)= -det n A
 |0,_,_,h=>absurd h J
 | n + 1,A,k,h=>by
   simp only[det]
   rw[<-Rz (λi=>sg i*A i 0*det n (mn i A)) k (n+1) h,show∀x:Rat,- x=(-1)*x by intro x;grind,<-dz]
   refine av λi hi=>?_
   by_cases e1:i=k
   · subst e1
     rw[show mn i (λi' j=>A (sa i i') j)=mn (i+1) A by
      funext r c;show A (sa i (sk i r)) (c+1)=A (sk (i+1) r) (c+1);rw[UB]]
     rw[show sa i i=i+1 by simp[sa],s5];grind
   · by_cases e2:i=k+1
     · subst e2
       rw[show mn (k+1) (λi' j=>A (sa k i') j)=mn k A by
        funext r c;show A (sa k (sk (k+1) r)) (c+1)=A (sk k r) (c+1);rw[UC]]
       rw[show sa k (k+1)=k by simp[sa],s5];grind
     · rw[show sa k i=i by unfold sa;rw[if_neg e1,if_neg e2]]
       rw[show mn i (λi' j=>A (sa k i') j)=λr j=>mn i A (sa (if k<i then k else k-1) r) j by
        funext r c;show A (sa k (sk i r)) (c+1)=A (sk i (sa (if k<i then k else k-1) r)) (c+1);rw[UD e1 e2]]
       rw[uX n _ _ kd1];grind
def sx (p r i:Nat):Nat:=if i=p then r else if i=r then p else i
def Do:∀(d n:Nat) (A:Mx) (p:Nat),p+d+1<n->det n (λi j=>A (sx p (p+d+1) i) j)= -det n A
 | 0,n,A,p,h=>by
   rw[show(λi j=>A (sx p (p+0+1) i) j)=λi j=>A (sa p i) j from rfl];exact uX n A p h
 | d +1,n,A,p,h=>by
   have h1:=uX n (λi j=>A (sx (p+1) (p+1+d+1) (sa p i)) j) p J
   have h2:=Do d n (λi j=>A (sa p i) j) (p+1) J
   have h3:=uX n A p J
   have h4:=uX n (λi j=>A (sa p (sx (p+1) (p+1+d+1) i)) j) p J
   rw[show(λi j=>A (sx p (p+(d+1)+1) i) j)=λi j=>A (sa p (sx (p+1) (p+1+d+1) (sa p i))) j by
    funext i j;congr 1;unfold sx sa;split <;>(try split) <;>(try split) <;>(try split) <;>(try split) <;>(try split) <;>(try split) <;>omega]
   rw[h4,h2,h3];grind
def AQ {A:Mx}{r:Nat}(hp:p<n)(hr:r<n)(hne:p≠r):det n (λi j=>A (sx p r i) j)= -det n A:=by
 rcases Nat.lt_or_gt_of_ne hne with h|h
 · obtain⟨d,rfl⟩:∃d,r=p+d+1:=⟨r-p-1,by omega⟩
   exact Do d n A p hr
 · obtain⟨d,rfl⟩:∃d,p=r+d+1:=⟨p-r-1,by omega⟩
   rw[<-Do d n A r hp]
   congr 1
   funext i j;congr 1;unfold sx;split <;>split <;>(try split) <;>omega
def AR {A:Mx}{r:Nat}(hp:p<n)(hr:r<n)(hne:p≠r)(h:∀j,j<n->A p j=A r j):det n A=0:=by
 have h1:=AQ (A:=A) hp hr hne
 rw [e9 (A:=λi j=>A (sx p r i) j) (B:=A) (λi _ j E=>by
  show A (sx p r i) j=A i j
  unfold sx;split
  · rename_i e;rw[e,h j E]
  · split
    · rename_i e;rw[e,h j E]
    · rfl)]at h1
 grind
def Dp {A:Mx}(c:Rat)(hi:i<n)(hk:k<n)(hne:i≠k):det n (ur A i (λj=>A i j+c*A k j))=det n A:=by
 rw[s6 n A i (A i) (A k) c hi,s7,AR (A:=ur A i (A k)) hi hk hne (λj _=>by unfold ur;rw[if_pos Z,if_neg (λe=>hne e.symm)])]
 grind
def yC:∀n,det n one=1
 |0=>rfl
 | n+1=>by
   rw[det,g9,dH (n:=n) (λi _=>by unfold one;rw[if_neg J];grind)]
   rw[e9 (A:=mn 0 one) (B:=one) (λi _ j _=>by unfold mn one;rw[sk0];simp),yC n]
   unfold one sg;simp;grind
end La
namespace Go.Proofs.YtlmihmlnpjkblaaGreatDoor
open Go Go.Eng Go.RowKit Tryz
variable {a:Addr}{u s d:Int}{lb:List Value}{b n N D N' D' lo lo' i k C CY CB lo2 lo3 CX lo4 gf b2 pl sO:Nat}{H G F:Nat->Value}{A Y B X:Option Addr}{x y:Rat}{v:Value}{W W' w w':World}
section
def qv (a:R):Rat:=(aj a.1:Rat)/(aj a.2:Rat)
def Po {a:R}(h:bL a=true):Int.gcd (aj a.1) (aj a.2)=1:=by
 have h1:=jo h
 have h2:=gu h
 simp only[bL,Bool.and_eq_true,decide_eq_true_eq]at h
 have h3:=h.2
 unfold bQ bc at h3
 rw[h1,h2,Bool.and_self,if_pos Z]at h3
 split at h3
 · have h4:ae ((Int.gcd (aj a.1) (aj a.2):Nat):Int)=ae 1:=by
    have:ae 1=[49]:=by decide +kernel
    rw[this];exact qb5 h3
   have:=mQ h4
   omega
 · cases h3
def mH {a b:Int}(h:(a:Rat)=b):a=b:=by simpa using h
def dP {a:Int}(h:a≠0):(a:Rat)≠0:=λe=>h (mH (by simpa using e))
def hH {a:R}(h:bL a=true):(aj a.2:Rat)≠0:=dP (by have:=cX h;omega)
def uZ {a:R}(h:bL a=true)(hs:s≠0)(hq:qv a=(u:Rat)/(s:Rat)):aj a.1*s=u*aj a.2:=by
 have h1:=hH h
 have h2:=dP hs
 unfold qv at hq
 refine mH ?_
 rw[Rat.intCast_mul,Rat.intCast_mul]
 grind
def u3 {a b c:Int}(h:a∣b*c)(hg:Int.gcd a c=1):a∣b:=by
 have h1:a.natAbs∣b.natAbs*c.natAbs:=by rw[<-Int.natAbs_mul];exact Int.natAbs_dvd_natAbs.2 h
 exact Int.natAbs_dvd_natAbs.1 (Nat.Coprime.dvd_of_dvd_mul_right (show Nat.Coprime a.natAbs c.natAbs from hg) h1)
def Pp {a:R}(h:bL a=true)(hs:s≠0)(hq:qv a=(u:Rat)/(s:Rat)):aj a.1∣u/\aj a.2∣s:=by
 have hc:=uZ h hs hq
 have E:=Po h
 constructor
 · exact u3 (c:=aj a.2) ⟨s,by rw[<-hc]⟩ E
 · exact u3 (c:=aj a.1) ⟨u,by rw[Int.mul_comm,hc,Int.mul_comm]⟩ (by rw[Int.gcd_comm];exact E)
def kY {a b:Int}(hb:b≠0)(h:a∣b):a.natAbs<=b.natAbs:=Nat.le_of_dvd U (Int.natAbs_dvd_natAbs.2 h)
def UE {a:R}(h:bL a=true)(hs:s≠0)(hq:qv a=(u:Rat)/(s:Rat)):(aj a.1).natAbs<=u.natAbs:=by
 by_cases hu:u=0
 · have:=uZ h hs hq
   subst hu
   have E:aj a.1*s=0:=by rw[this];simp
   rcases Int.mul_eq_zero.1 E with e|e
   · rw[e];simp
   · exact absurd e hs
 · exact kY hu (Pp h hs hq).1
def UF {a:R}(h:bL a=true)(hs:s≠0)(hq:qv a=(u:Rat)/(s:Rat)):(aj a.2).natAbs<=s.natAbs:=kY hs (Pp h hs hq).2
def Dq {a b:R}(ha:bL a=true)(hb:bL b=true)(h:qv a=qv b):a=b:=by
 have O:=cX ha
 have pb:=cX hb
 have h1:=Pp ha (u:=aj b.1) (s:=aj b.2) U h
 have h2:=Pp hb (u:=aj a.1) (s:=aj a.2) U h.symm
 have e2:aj a.2=aj b.2:=Int.dvd_antisymm U U h1.2 h2.2
 have hc:=uZ ha (u:=aj b.1) (s:=aj b.2) U h
 rw[e2]at hc
 have E:aj a.1=aj b.1:=Int.eq_of_mul_eq_mul_right U hc
 exact Prod.ext (qu (jo ha) (jo hb) E) (qu (gu ha) (gu hb) e2)
def mI:qv z0=0:=by
 unfold qv z0;rw[show aj [48]=0 by decide +kernel];simp;grind
def RA:qv o1=1:=by
 unfold qv o1;rw[show aj [49]=1 by decide +kernel];simp;grind
def FA {a:R}(h:bL a=true):qv a=0↔a=z0:=
 ⟨λe=>Dq h us (by rw[e];exact mI.symm),λe=>by rw[e];exact mI⟩
def u4 {n:Int}(hd:d≠0){q:R}(h:ii n d=some q):qv q=(n:Rat)/(d:Rat):=by
 unfold ii at h
 rw[if_neg hd]at h
 cases h
 unfold qv
 rw[aK,aK]
 unfold qc dh
 have A0:0<Int.gcd n d:=Int.gcd_pos_of_ne_zero_right _ hd
 obtain⟨g,hgg⟩:∃g:Nat,Int.gcd n d=g:=⟨_,rfl⟩
 rw[hgg]at A0 ⊢
 obtain⟨x,hx⟩:(g:Int)∣n:=by rw[<-hgg];exact Int.gcd_dvd_left ..
 obtain⟨y,hy⟩:(g:Int)∣d:=by rw[<-hgg];exact Int.gcd_dvd_right ..
 have E:(g:Int)≠0:=J
 have O:y≠0:=λe=>hd (by rw[hy,e];simp)
 have A1:=dP E
 have A2:=dP O
 by_cases hs:d<0
 · rw[if_pos hs,if_pos hs,hx,hy,<-Int.mul_neg,<-Int.mul_neg,Int.mul_ediv_cancel_left _ E,Int.mul_ediv_cancel_left _ E]
   rw[Rat.intCast_mul,Rat.intCast_mul,Rat.intCast_neg,Rat.intCast_neg]
   grind
 · rw[if_neg hs,if_neg hs,hx,hy,Int.mul_ediv_cancel_left _ E,Int.mul_ediv_cancel_left _ E]
   rw[Rat.intCast_mul,Rat.intCast_mul]
   grind
def pZ {n:Int}(hd:d≠0)(h1:fits n=true)(h2:fits d=true):∃q,ij n d=some q/\bL q=true/\qv q=(n:Rat)/(d:Rat):=by
 unfold ij
 rw[h1,h2,Bool.and_self,if_pos Z]
 cases h:ii n d with
 |none=>unfold ii at h;rw[if_neg hd]at h;cases h
 |some q=>exact⟨q,rfl,uB h1 h2 h,u4 hd h⟩
def Hc {n:Int}{q:R}(h:ij n d=some q):fits n=true/\fits d=true:=by
 unfold ij at h
 cases h1:fits n <;>cases h2:fits d <;>simp[h1,h2]at h ⊢
def dQ:Nat:=10^200
def gC {n:Int}(h:n.natAbs<=b)(hb:b<dQ):fits n=true:=by unfold fits;exact qa1 (Nat.lt_of_le_of_lt h hb)
structure Bq (a:R)(x:Rat)(N D:Nat):Prop where
 ok:bL a=true
 eq:qv a=x
 num:(aj a.1).natAbs<=N
 den:(aj a.2).natAbs<=D
def Bq.of {a:R}(h:bL a=true)(hs:s≠0)(hq:qv a=(u:Rat)/(s:Rat))(hu:u.natAbs<=N)(hd:s.natAbs<=D):Bq a ((u:Rat)/(s:Rat)) N D:=
 ⟨h,hq,qa8 (UE h hs hq) hu,qa8 (UF h hs hq) hd⟩
def p0 {a b:R}(ha:Bq a x N D)(hb:Bq b y N' D')(h1:N*N'<dQ)(h2:D*D'<dQ):∃q,qr a b=some q/\bL q=true/\qv q=x*y:=by
 have E:=cX ha.ok
 have p2:=cX hb.ok
 obtain⟨q,e,ok,hv⟩:=pZ (n:=aj a.1*aj b.1) (d:=aj a.2*aj b.2) (Int.ne_of_gt (Int.mul_pos E p2))
  (gC (b:=N*N') (by rw[Int.natAbs_mul];exact qb9 ha.num hb.num) h1) (gC (b:=D*D') DQ h2)
 refine⟨q,by unfold qr;rw[ha.ok,hb.ok,Bool.and_self,if_pos Z];exact e,ok,?_⟩
 rw[hv,<-ha.eq,<-hb.eq,Rat.intCast_mul,Rat.intCast_mul]
 unfold qv
 have O:=hH ha.ok
 have A0:=hH hb.ok
 grind
def AS {a b:R}(ha:Bq a x N D)(hb:Bq b y N' D')(h0:y≠0)(h1:N*D'<dQ)(h2:D*N'<dQ):∃q,mB a b=some q/\bL q=true/\qv q=x/y:=by
 have A0:=cX ha.ok
 have O:=hH ha.ok
 have A2:=hH hb.ok
 have E:aj b.1≠0:=λe=>h0 (by rw[<-hb.eq];unfold qv;rw[e];simp;grind)
 have A1:=dP E
 obtain⟨q,e,ok,hv⟩:=pZ (n:=aj a.1*aj b.2) (d:=aj a.2*aj b.1) (λe=>by rcases Int.mul_eq_zero.1 e with e|e <;>omega)
  (gC (b:=N*D') (by rw[Int.natAbs_mul];exact qb9 ha.num hb.den) h1) (gC (b:=D*N') (by rw[Int.natAbs_mul];exact qb9 ha.den hb.num) h2)
 refine⟨q,by unfold mB;rw[ha.ok,hb.ok,Bool.and_self,if_pos Z];exact e,ok,?_⟩
 rw[hv,<-ha.eq,<-hb.eq,Rat.intCast_mul,Rat.intCast_mul]
 unfold qv
 grind
def u5 {a b:R}(ha:Bq a x N D)(hb:Bq b y N' D')(h1:N*D'+N'*D<dQ)(h2:D*D'<dQ):∃q,dx a b=some q/\bL q=true/\qv q=x-y:=by
 have E:=cX ha.ok
 have p2:=cX hb.ok
 have f1:(aj a.1*aj b.2).natAbs<=N*D':=by rw[Int.natAbs_mul];exact qb9 ha.num hb.den
 have f2:(aj b.1*aj a.2).natAbs<=N'*D:=by rw[Int.natAbs_mul];exact qb9 hb.num ha.den
 obtain⟨q,e,ok,hv⟩:=pZ (n:=aj a.1*aj b.2-aj b.1*aj a.2) (d:=aj a.2*aj b.2) (Int.ne_of_gt (Int.mul_pos E p2))
  (gC (b:=N*D'+N'*D) U h1) (gC (b:=D*D') DQ h2)
 refine⟨q,by unfold dx;rw[ha.ok,hb.ok,Bool.and_self,if_pos Z,gC f1 U,gC f2 U,Bool.and_self,if_pos Z];exact e,ok,?_⟩
 rw[hv,<-ha.eq,<-hb.eq,Rat.intCast_mul,Rat.intCast_sub,Rat.intCast_mul,Rat.intCast_mul]
 unfold qv
 have O:=hH ha.ok
 have A0:=hH hb.ok
 grind
def Lo {a b:R}(ha:Bq a x N D)(hb:Bq b y N' D')(h1:N*D'+N'*D<dQ)(h2:D*D'<dQ):∃q,jL a b=some q/\bL q=true/\qv q=x+y:=by
 have E:=cX ha.ok
 have p2:=cX hb.ok
 have f1:(aj a.1*aj b.2).natAbs<=N*D':=by rw[Int.natAbs_mul];exact qb9 ha.num hb.den
 have f2:(aj b.1*aj a.2).natAbs<=N'*D:=by rw[Int.natAbs_mul];exact qb9 hb.num ha.den
 obtain⟨q,e,ok,hv⟩:=pZ (n:=aj a.1*aj b.2+aj b.1*aj a.2) (d:=aj a.2*aj b.2) (Int.ne_of_gt (Int.mul_pos E p2))
  (gC (b:=N*D'+N'*D) U h1) (gC (b:=D*D') DQ h2)
 refine⟨q,by unfold jL;rw[ha.ok,hb.ok,Bool.and_self,if_pos Z,gC f1 U,gC f2 U,Bool.and_self,if_pos Z];exact e,ok,?_⟩
 rw[hv,<-ha.eq,<-hb.eq,Rat.intCast_mul,Rat.intCast_add,Rat.intCast_mul,Rat.intCast_mul]
 unfold qv
 have O:=hH ha.ok
 have A0:=hH hb.ok
 grind
end
section
attribute [local irreducible] wpListIn Code.wpIn Oper.wpIn Exit.then Exit.inBlock Exit.noGoto
set_option maxHeartbeats 40000000
section
variable {P:Program}{r:Option Nat}{e:Nat->Value}{ds:List Deferred}{Q:Exit->Act->World->Prop}{K:Act->World->Prop}
variable {d ty:Nat}{pos:String}{af:Array Edge}{g:Option (Nat×Bool)}{u:Value}{x y:Operand}{t t':TypeId}
def Xy {k:IntKind}{a b m:Int}{ats:Array TypeId}(hx:ev N e x=.int k a)(hy:ev N e y=.int k b)(hm:(if b<a then b else a)=m)(hk:K (act N (upd e d (.int k m)) ds) w):
 Oper.wpIn (Fw r) n P ⟨some d,.call {callee:=.builtin .min,args:=#[x,y],argTypes:=ats},ty,pos,af,g⟩ (act N e ds) w K Q:=
 cJ (v:=.int k m) (w':=w) Z (by subst hm;simp[execOp,resolve,invoke,builtin,Builtin.min_,hx,hy,Builtin.min2,List.foldlM]) KK
end
structure YE (W:World)(A:Option Addr)(n:Nat)(H:Nat->Value)(L:Rows):Prop where
 cell:∀{i},i<n->A=some ⟨ci A,gH A,none⟩/\W.cell? ⟨ci A,gH A+i,none⟩=some (.slice (sA (H i)) (L i).length (sC (H i)))
 elem:∀{i k},i<n->k<(L i).length->sA (H i)=some ⟨ci (sA (H i)),gH (sA (H i)),none⟩/\∀j u,[S (ar (L i) k).1,S (ar (L i) k).2][j]?=some u->W.cell? ⟨ci (sA (H i)),gH (sA (H i))+k*2+j,none⟩=some u
def YE.ext {L:Rows}(k:aP W W')(h:YE W A n H L):YE W' A n H L:=
 ⟨λhi=>⟨(h.cell hi).1,k.cell (h.cell hi).2⟩,λhi hk=>⟨(h.elem hi hk).1,λj u hu=>k.cell ((h.elem hi hk).2 j u hu)⟩⟩
def Mt.z {L:Rows}(h:Mt W lo A n H L):YE W A n H L:=⟨λhi=>h.cell hi,λhi hk=>h.elem hi hk⟩
def YF (n:Nat)(L:Rows):Prop:=n<=9/\∀i,i<n->(L i).length<=9/\∀k,k<(L i).length->C3 (ar (L i) k)
def YF.bd {L:Rows}(h:YF n L):Bd n L:=⟨by have:=h.1;omega,λi hi=>⟨by have:=(h.2 i hi).1;omega,(h.2 i hi).2⟩⟩
def Xz (l:List R):Prop:=l.length<=9/\∀k,k<l.length->C3 (ar l k)
def Xz.bd {l:List R}(h:Xz l):BdV l:=⟨by have:=h.1;omega,h.2⟩
def AT (lo:Nat)(w:World)(v:Value)(l:List R):Prop:=∃P cp,v=.slice P l.length cp/\l.length<=cp/\Rw w lo P (ag l)
def AU {l:List R}(h:w.ownsRow lo 33 2 v l.length (ag l))(hl:lo'<=lo):AT lo' w v l:=⟨sA v,sC v,dl h,m0 h,(fh h).mono hl⟩
def Lp {o:Option R}(ho:o.isSome=true)(h:∀q,o=some q->bL q=true):bL (rN o,rD o)=true:=by
 cases o with
 |none=>cases ho
 |some q=>exact h q Z
def Lq {n d:List UInt8}(hn:isInt n=true)(hd:isInt d=true)(h0:aj d≠0):(qV n d).isSome=true:=by
 unfold qV;rw[hn,hd,Bool.and_self,if_pos Z];unfold ii;rw[if_neg h0];rfl
def iJ {a:Int}(h:-1000<=a/\a<=1000):fits a=true:=by
 unfold fits
 have h2:a.natAbs<=1000:=J
 have h3:(1000:Nat)<10^200:=by decide +kernel
 first|(exact qa1 U)|(simp;omega)
def UG {a b:Int}(ha:-1000<=a/\a<=1000)(hb:-1000<=b/\b<=1000)(h0:b≠0):bL (rN (qV (ae a) (ae b)),rD (qV (ae a) (ae b)))=true:=
 Lp (Lq (bi (iJ ha)) (bi (iJ hb)) (by rw[aK];exact h0)) (λq hq=>OC hq)
def s8 {l:List R}{f:Nat->R}(hl:l.length=i)(h:∀j,j<i->ar l j=f j):∀j,j<i+1->ar (l++[f i]) j=f j:=λj E=>by
 by_cases e:j<i
 · rw[jS U];exact h j e
 · rw[kV U,show j=i by omega,hl,Nat.sub_self];rfl
def aS (a b:Int):R:=(rN (qV (ae a) (ae b)),rD (qV (ae a) (ae b)))
def SmR (q:R):Prop:=bL q=true/\(-8<=aj q.1/\aj q.1<=8)/\aj q.2<=3
def SmR.len {q:R}(h:SmR q):C3 q:=sX h.1
def Lr {P:R->Prop}{l:List R}{q:R}(hl:l.length=k)(h:∀j,j<k->P (ar l j))(hq:P q):∀j,j<k+1->P (ar (l++[q]) j):=λj E=>by
 by_cases e:j<l.length
 · rw[jS e];exact h j U
 · rw[kV e,show j-l.length=0 by omega];exact hq
set_option maxRecDepth 100000
def Ls (a:R)(w:World)(ht:Tb w):
 CL 76 #[.agg #[S ((a).1),S ((a).2)]] w (aI w λv w'=>v=.bool (!bL a)):=by
 refine aE func76 Z (I ?_);refine bx (λ_ O _=>?_);have E:=O.2;refine I ?_;refine cl r9 (dU _ _ _ (ht.ext E)) ?_;rintro _ _ A0 rfl;have E:=xt E A0.2;refine I ?_;exact am (t:=2) (v:=.bool (!(bL a))) Z E Z Z
def UH (ys:List R)(h:ys.all bL=true):decide (ec (λk=> !bL (ar ys k)) ys.length 0<ys.length)=false:=by
 have h1:=E3 ys
 rw[h]at h1
 cases e:decide (ec (λk=>!bL (ar ys k)) ys.length 0<ys.length)with
 |false=>rfl
 |true=>rw[e]at h1;cases h1
def iK {L V:Rows}{ys:List R}(hM:Mt w lo A ys.length H L)(hB:Bd ys.length L)(hy:Rw w lo2 Y (ag ys))(hV:Mt w lo3 B ys.length G V)(hB3:Bd ys.length V)(hcb:ys.length<=CB)(hv:vM ys.length L=true)(hv3:vM ys.length V=true)(hVl:(V 0).length=ys.length)(hLl:(L 0).length<=ys.length)(hyo:ys.all bL=true)(hp:pQ ys.length V=some true)(ht:Tb w):
 CL 32 #[.agg #[.slice A ys.length C,.slice Y ys.length CY,.slice B ys.length CB]] w (aI w λv w'=>v=.bool true):=by
 have Ap:=(iG hv).1;have Aq:=(iG hv).2.1;refine aE func32 Z (I ?_);refine bx (λ_ A0 O=>?_);have E:=A0.2;refine I ?_;refine cl r7 (l8 (Y:=.bool true) (val_ok (hM.ext E) hB (ht.ext E)) (qb2 Value.bool hv)) ?_;rintro _ _ Ao rfl;have⟨O,E⟩:=bn Ao.2 O E;refine I ?_;refine cl r7 (l8 (Y:=.bool true) (val_ok (hV.ext E) hB3 (ht.ext E)) (qb2 Value.bool hv3)) ?_;rintro _ _ A2 rfl;have⟨O,E⟩:=bn A2.2 O E;have Af:=ab2 (hV.ext E) (i:=0) U;refine I ?_;refine gR Af ?_ (i:=0);have Am:=ab2 (hM.ext E) (i:=0) U;refine I ?_;refine gR Am ?_ (i:=0);refine I ?_;refine clb V3 (hc:=l8 (Y:=.bool false) (Kz (lb:=[]) (p:=λk=>!bL (ar ys k)) (hy.ext E) SR (λi W hi hE=>Ls _ _ (ht.ext (xt E hE))) U) (qb2 Value.bool (UH ys hyo))) (hk:=?_);rintro _ _ Ab rfl;have⟨O,E⟩:=bn Ab.2 O E;refine I ?_;refine cl YL (l8 (Y:=.tuple #[.bool true,.int .i64 0]) (Pj (hV.ext E) hB3 hcb (ht.ext E)) (qb2 GZ hp)) ?_;rintro _ _ A1 rfl;have E:=xt E A1.2;refine I ?_;exact am (t:=2) (v:=.bool (decide (0=0))) Z E Z Z
def wU {l l':List R}(h:l.length=l'.length)(e:∀k,k<l.length->ar l k=ar l' k):l=l':=List.ext_getElem h λk h1 h2=>by have:=e k h1;rwa [ek h1,ek h2]at this
def Lt {L:Rows}{xs:List R}(hM:Mt w lo A n H L)(hl:∀i,i<n->0<(L i).length)(hxl:xs.length=n)(hx:∀i,i<n->ar xs i=ar (L i) 0)(hn:n<=8):
 CL 94 #[.slice A n C] w (aI w λv w'=>AT w.heap.size w' v xs):=by
 refine aE func94 Z (I ?_);have Aq:World.ownsRow w w.heap.size 33 2 (.slice none 0 0) 0 (ag []):=bM;have Ar:=aa1 w;refine cg [(2,2),(4,4),(7,17)] (λAs e W=>∃i:Nat,∃O:List R,∃A0:Value,(n-i=As)/\(e 7=.int .i64 i)/\(e 2=A0)/\(i<=n)/\(O.length=i)/\(∀j,j<i->ar O j=ar (L j) 0)/\(w.heap.size<=W.heap.size)/\(aP w W)/\(W.ownsRow w.heap.size 33 2 A0 O.length (ag O))) (n-0) ⟨0,[],.slice none 0 0,rfl,rfl,rfl,(qa7 _),rfl,(λj _=>by omega),(qa0 _),Ar,Aq⟩ ?_;rintro _ _ _ ⟨i,O,A0,rfl,B0,Am,hi_i,hal_ac,Ab,Ay,E,A1⟩;by_cases hli:i<n;have Az:=hl i hli;have Av:=ab2 (hM.ext E) (i:=(i)) U;refine I ?_;refine gR Av (I ?_);refine aa (aT (v:=A0) Am ?_);have Aw:=ad3 (hM.ext E) (i:=(i)) (k:=0) U U;refine I ?_;refine lU Aw ?_ (i:=0);refine I ?_;refine BS (λ_ Ao _ Ax=>?_);have A1:=ab Ao A1;have E:=xt E Ao;refine AP A1 (aa7 Ax) (λA2 _ Ap Af _=>?_);have E:=bo A1 U U E Af;have od:=Af.size;refine aa (aL (v:=A2) Z ?_);refine I ?_;refine gO (I ?_);exact bJ ⟨i+1,O++[ar (L i) 0],A2,rfl,rfl,rfl,U,j0,(s8 (f:=λj=>ar (L j) 0) hal_ac Ab),U,E,(aQ Ap JT (dn _ _))⟩;refine I ?_;refine aa (aT (v:=A0) Am ?_)
 refine aa (aL (v:=A0) Z ?_);refine I ?_;exact am (t:=2) (v:=A0) Z E (by have e:O=xs:=wU U (λk _=>by rw[Ab k U,hx k U]);subst e;exact(AU A1 U)) Z
set_option maxRecDepth 100000 in
def AV {L V:Rows}{ys:List R}(hM:Mt w lo A ys.length H L)(hB:Bd ys.length L)(hy:Rw w lo2 Y (ag ys))(hV:Mt w lo3 B ys.length G V)(hB3:Bd ys.length V)(hcb:ys.length<=CB)(hv:vM ys.length L=true){K:Rows}(hX:Mt w lo4 X k F K)(hB4:Bd k K){P:Rows}{rs:List R}(eP:dp ys.length L k K=some P)(hBP:Bd ys.length P)(hPl:∀i,i<ys.length->0<(P i).length)(hrl:rs.length=ys.length)(hr:∀i,i<ys.length->dx (ar ys i) (ar (P i) 0)=some (ar rs i))(ht:Tb w):
 CL 60 #[.agg #[.slice A ys.length C,.slice Y ys.length CY,.slice B ys.length CB],.slice X k CX] w (aI w λv w'=>AT w.heap.size w' v rs):=by
 have Wa:=(iG hv).2.1;refine aE func60 Z (I ?_);refine bx (λE7 Ix Ar=>?_);have Ao:=Ix.2;refine I ?_;refine cl lg (jt (hM.ext Ao) hB (hX.ext Ao) hB4 eP (ht.ext Ao)) ?_;rintro _ Af La ⟨H2,W0,ES,rfl,W2,Li⟩;have⟨Ar,Ao⟩:=bn La.2 Ar Ao;have Az:=ab1 Li;refine I ?_;have P0:World.ownsRow Af Af.heap.size 33 2 (.slice none 0 0) 0 (ag []):=bM;refine cg [(4,6),(13,34)] (λKM e W=>∃i:Nat,∃A1:List R,∃A2:Value,(ys.length-i=KM)/\(e 13=.int .i64 i)/\(e 4=A2)/\(i<=ys.length)/\(A1.length=i)/\(∀j,j<i->ar A1 j=ar rs j)/\(Af.heap.size<=W.heap.size)/\((A2).ownBlock≠some w.heap.size)/\(aP w W)/\(ao W w.heap.size 82 #[.slice A ys.length C,.slice Y ys.length CY,.slice B ys.length CB])/\(nH W E7.heap.size Af.heap.size H2 ys.length ES P)/\(W.ownsRow Af.heap.size 33 2 A2 A1.length (ag A1))) (ys.length-0) ⟨0,[],.slice none 0 0,rfl,rfl,rfl,(qa7 _),rfl,(λj _=>by omega),(qa0 _),(λe=>by cases e),Ao,Ar,Az,P0⟩ ?_;rintro _ _ E5 ⟨i,A1,A2,rfl,a9,E6,hi_i,hal_ac,G0,Vm,GC,E,Ar,Az,FR⟩;by_cases hli:i<ys.length;have ce:=hPl i hli;have K2:=ab2 (Az).mt (i:=(i)) U;refine I ?_;refine gR K2 (I ?_);have As:=ac1 E5
 refine xL 15 (λls e W=>∃O:Nat,(aP w W)/\(E5.heap.size<=W.heap.size)/\(ls 14=true->e 32=.slice (some ⟨O,0,none⟩) 1 1)/\(ls 14=true->E5.heap.size<=O/\O<W.heap.size)/\(ao W w.heap.size 82 #[.slice A ys.length C,.slice Y ys.length CY,.slice B ys.length CB])/\(nH W E7.heap.size Af.heap.size H2 ys.length ES P)/\(W.ownsRow Af.heap.size 33 2 A2 A1.length (ag A1))/\(ls 14=true->(World.ownsRow W O 33 2 (.slice (some ⟨O,0,none⟩) 1 1) 1 [S ((ar rs i).1),S ((ar rs i).2)]))) ⟨0,(xt E As),(bz As),(ff Z),(ff Z),(be As Ar),(aa5 As Az),(ab As FR),(λh=>ff Z h)⟩ ?_;refine de (λbb bd a4 _ bp ch _=>by refine aa (aT (v:=A2) E6 ?_);refine I ?_;exact aG) ?_;refine sf ?_;refine de (λcf ac bW _ S9 a3 _=>by obtain⟨_,_,_,_,_,Ab,_⟩:=S9;refine I ?_;exact aG) ?_;refine sf ?_;refine de (λT3 ad WV _ N0 a5 _=>by obtain⟨_,E,_⟩:=N0;have Q0:=bA (hy.ext E) (k:=(i)) U;refine I ?_;refine lU Q0 ?_;refine I ?_;exact aG) ?_;refine de (λbZ VW X2 _ P2 X0 _=>by obtain⟨_,E,_⟩:=P2;have c9:=bA (hy.ext E) (k:=(i)) U;refine I ?_;exact aG) ?_;refine sf ?_;refine de (λW3 bv a0 _ Lj cT _=>by obtain⟨_,_,_,_,_,_,A0,_⟩:=Lj;have KY:=ad3 (A0).mt (i:=(i)) (k:=0) U U;refine I ?_;refine lU KY ?_ (i:=0);refine I ?_;exact aG) ?_
 refine de (λa2 a6 a8 _ No cc _=>by obtain⟨_,_,_,_,_,_,A0,_⟩:=No;have b0:=ad3 (A0).mt (i:=(i)) (k:=0) U U;refine I ?_;exact aG) ?_;refine Ja (V:=.tuple #[.agg #[S ((ar rs i).1),S ((ar rs i).2)],.int .i64 0]) (λ_ _ _ H4 EW Ne _=>?_) ?_;obtain⟨O,E,C1,Ap,Aq,Ab,A0,Am,Aw⟩:=H4;have E4:=Ab;have CG:=A0;have wr:=Am;refine cl D7 (J5 (ar ys i) (ar (P i) 0) _ (ht.ext E)) ?_;rintro _ _ Ax hv;have E4:=be Ax.2 E4;have CG:=aa5 Ax.2 CG;have wr:=ab Ax.2 wr;have E:=xt E Ax.2;rw[hr i hli]at hv;subst hv;refine I ?_;exact fs ⟨rfl,O,E,U,Ap,(λx=>by have:=Aq x;omega),E4,CG,wr,(λL4=>ff (bU EW (i:=13) (j:=14) Z (bU EW (i:=10) (j:=13) Z Ne)) L4)⟩;refine sf ?_;refine Ja (V:=.agg #[S ((ar rs i).1),S ((ar rs i).2)]) (λ_ _ _ Lk K3 P1 _=>?_) ?_;obtain⟨O,E,C1,Ap,Aq,Ab,A0,Am,Aw⟩:=Lk;have ny:=Ab;have B2:=A0;have B1:=Am;refine cl qD kX ?_;rintro _ _ od rfl;have ny:=be od.2 ny;have B2:=aa5 od.2 B2;have B1:=ab od.2 B1;have E:=xt E od.2;refine I ?_;exact fs ⟨rfl,O,E,U,Ap,(λx=>by have:=Aq x;omega),ny,B2,B1,(λRm=>ff (bU K3 (i:=13) (j:=14) Z P1) Rm)⟩;refine gt (λ_ L1 _ L3 _ _ _=>?_) ?_;obtain⟨O,E,C1,Ap,Aq,Ab,A0,Am,Aw⟩:=L3;have E1:=Ab;have B0:=A0;have D2:=Am;refine BS (λ_ nm _ Kp=>?_)
 have E1:=be nm E1;have B0:=aa5 nm B0;have D2:=ab nm D2;have E:=xt E nm;refine I ?_;exact fs ⟨L1.heap.size,E,U,(λ_=>rfl),(λ_=>⟨by omega,by omega⟩),E1,B0,D2,(λ_=>Kp)⟩;refine sf ?_;rintro S0 _ _ E0 ⟨O,E,C1,Ap,Aq,Ab,A0,Am,Aw⟩;have W1:=bz E;have an:=Aq (E0 14 Z);have Ay:=Ab;have Cr:=A0;have D1:=Am;have T2:=Aw (E0 14 Z);have bq:S0 32=.slice (some ⟨O,0,none⟩) 1 (1):=(Ap (E0 14 Z));refine AP D1 (aa7 T2) (λE9 _ L2 Av H3=>?_);have KC:=aU H3 GC (bt Ay);have Ay:=aa3 Av (λe=>GC e.symm) Ay;have Cr:=nH.gr Av (λg e=>by have:=aV D1 _ e;omega) Cr;have E:=bo D1 U U E Av;have cb:=Av.size;refine aa (aL (v:=E9) Z ?_);refine I ?_;refine gO (I ?_);exact bJ ⟨i+1,A1++[ar rs i],E9,rfl,rfl,rfl,U,j0,(s8 (f:=λj=>ar rs j) hal_ac G0),U,KC,E,Ay,Cr,(aQ L2 JT (dn _ _))⟩;refine I ?_;refine aa (aT (v:=A2) E6 ?_);refine aa (aL (v:=A2) Z ?_);refine I ?_;exact am (t:=4) (v:=A2) Z E (by have e:A1=rs:=wU U (λk _=>G0 k U);subst e;exact(AU FR U)) Z
def oN (n:Nat)(o:Option Rows):Nat:=if o.isSome then n else 0
def oR (o:Option Rows):Rows:=o.getD pL
def oV (o:Option (List R×Bool)):List R:=(o.map (·.1)).getD []
def oB (o:Option (List R×Bool)):Bool:=(o.map (·.2)).getD false
def nh.get {o:Option Rows}(h:nh lo w n o v):
 ∃A C H,v=.tuple #[.slice A (oN n o) C,.int .i64 (Ro o.isSome)]/\Mt w lo A (oN n o) H (oR o):=by
 cases o with
 | none=>
   obtain⟨A,C,H,e,_,m⟩:=@AD lo w pL
   cases e;cases h
   exact⟨none,0,H,rfl,m⟩
 |some K=>obtain⟨u,rfl,A,C,H,rfl,_,m⟩:=h;exact⟨A,C,H,rfl,m⟩
def Xp.get {o:Option (List R×Bool)}(h:Xp lo w o v):
 ∃P cp,v=.tuple #[.slice P (oV o).length cp,.bool (oB o),.int .i64 (Ro o.isSome)]/\Rw w lo P (ag (oV o)):=by
 cases o with
 |none=>cases h;exact⟨none,0,rfl,Rw.nil w lo⟩
 |some x=>obtain⟨x,q⟩:=x;exact h
def Lu {m:Nat}{L:Rows}(h:qt n m L)(hn:n<=1000000)(hm:m<=1000000):Bd n L:=⟨hn,λi hi=>⟨by rw[(h i hi).1];exact hm,λk hk=>sX ((h i hi).2 k (by rw[<-(h i hi).1];exact hk))⟩⟩
def yD {L:Rows}:Bd 0 L:=⟨by omega,λi hi=>by omega⟩
def He {l:List R}:ar (l.drop n) k=ar l (n+k):=by unfold ar;simp[List.getD,List.getElem?_drop]
def Pq {n:Nat}{L:Rows}:Bd (oN n (eN n L)) (oR (eN n L)):=by
 cases e:eN n L with
 |none=>exact yD
 | some K=>
   unfold eN at e
   split at e
   · rename_i hs
     obtain⟨hv,E⟩:=nG hs
     have hb:=m6 hv
     rw[<-E]at hb
     cases he:elim n (n+n) n (jR n L)with
     |none=>rw[he]at e;cases e
     | some s=>
       rw[he]at e
       simp only[Option.bind_some,yp]at e
       split at e
       · cases e
       · cases e
         have ho:=(mG hb U he).1
         have O:=hv.2.1
         exact Lu (n:=n) (m:=n) (λi hi=>⟨by simp[oR,(ho i hi).1],λk _=>by simp only[oR,Option.getD_some];rw[He];exact(ho i hi).2 (n+k) U⟩) U U
   · cases e
def FB {a:List R}{B:Rows}:∀{f j:Nat} {l l':List R},lX a B f j l=some l'->(∀k,k<l.length->bL (ar l k)=true)->l'.length=l.length+f/\∀k,k<l'.length->bL (ar l' k)=true
 |0,_,_,_,h,hl=>by cases h;exact⟨rfl,hl⟩
 | f +1,j,l,l',h,hl=>by
   unfold lX at h
   cases h1:kS a B j a.length 0 z0 with
   |none=>rw[h1]at h;cases h
   | some s=>
     rw[h1]at h
     have:=FB h (λk hk=>Lr (P:=λq=>bL q=true) (k:=l.length) Z hl (Fa Rn h1) k (by simpa using hk))
     exact⟨by rw[this.1];simp;omega,this.2⟩
def FC {L B:Rows}{p:Nat}:∀{f i:Nat} {K K':Rows},pK L B p f i K=some K'->(∀x,x<i->(K x).length=p/\∀k,k<p->bL (ar (K x) k)=true)->qt (i+f) p K'
 |0,_,_,_,h,hl=>by cases h;exact hl
 | f + 1,i,K,K',h,hl=>by
   unfold pK at h
   cases h1:lX (L i) B p 0 []with
   |none=>rw[h1]at h;cases h
   | some l=>
     rw[h1]at h
     have hr:=FB h1 (λk hk=>by simp at hk)
     have:=FC h (λx hx=>by
      by_cases e:x=i
      · subst e;rw[bj];exact⟨by simpa using hr.1,λk hk=>hr.2 k (by rw[hr.1];simpa using hk)⟩
      · rw[bm _ _ e];exact hl x U)
     rwa [show i+1+f=i+(f+1)by omega]at this
def Pr {n m:Nat}{L B:Rows}:Bd (oN n (dp n L m B)) (oR (dp n L m B)):=by
 cases e:dp n L m B with
 |none=>exact yD
 | some K=>
   unfold dp at e
   split at e
   · rename_i hs
     have h1:=iG hs.1
     have h2:=iG hs.2.1
     have:=FC (show pK L B (B 0).length n 0 pL=some K from e) (λx _=>by omega)
     rw[Nat.zero_add]at this
     have a:=h1.2.1
     have b:=h2.2.2.2.1
     exact Lu (n:=n) this U U
   · cases e
def XC {n:Nat}{L:Rows}:Bd (if vM n L=true then(L 0).length else 0) (λj=>l5 L n j):=by
 split
 · rename_i h
   have hv:=iG h
   have a:=hv.2.1
   have b:=hv.2.2.2.1
   exact Lu (m:=n) (λi hi=>⟨pJ _ _ _,λk hk=>by rw[uH _ _ hk];exact(hv.ok k hk).2 i hi⟩) U U
 · exact yD
section
variable {m:Nat}{L K:Rows}{xs:List R}
def wW (hx:Rw w lo A (ag xs))(hy:Rw w lo2 B (ag xs))(hn:xs.length<=1000000):CL 16 #[.slice A xs.length C,.slice B xs.length D] w (aI w λv w'=>v=.bool true):=by
 have h:=ON (C:=C) (D:=D) hx hy hn
 rwa [decide_eq_true Z]at h
end
def lR (W:World)(hi:Nat)(v:Value):Prop:=∃A C H n L,v=.slice A n C/\n<=C/\YF n L/\nH W 0 hi A n H L
structure Hf (W:World)(hi:Nat)(A:Option Addr)(vs:List Value):Prop where
 rw:ni W 0 hi A vs
 good:∀i,i<vs.length->lR W hi (vs.getD i .nilIface)
section
variable {hi hi':Nat}{vs:List Value}
def lR.ext (k:aP W W')(h:lR W hi v):lR W' hi v:=by obtain⟨A,C,H,n,L,e,c,f,m⟩:=h;exact⟨A,C,H,n,L,e,c,f,m.ext k⟩
def lR.put (k:ez W W' b)(hb:b<0\/hi<=b)(h:lR W hi v):lR W' hi v:=by obtain⟨A,C,H,n,L,e,c,f,m⟩:=h;exact⟨A,C,H,n,L,e,c,f,m.put k hb⟩
def lR.up (hh:hi<=hi')(h:lR W hi v):lR W hi' v:=by
 obtain⟨A,C,H,n,L,e,c,f,m⟩:=h
 exact⟨A,C,H,n,L,e,c,f,⟨m.mt,λE h=>qb1 (m.o E h) hh,λi hi E h=>qb1 (m.r i hi E h) hh⟩⟩
def Hf.ext (k:aP W W')(h:Hf W hi A vs):Hf W' hi A vs:=⟨h.rw.ext k,λi hi=>(h.good i hi).ext k⟩
def Hf.put (k:ez W W' b)(hb:b<0\/hi<=b)(h:Hf W hi A vs):Hf W' hi A vs:=⟨h.rw.put k hb,λi hi=>(h.good i hi).put k hb⟩
def lR.of {L:Rows}(h:dy lo W v n L)(hf:YF n L):lR W W.heap.size v:=by
 obtain⟨A,C,H,e,c,m⟩:=h;exact⟨A,C,H,n,L,e,c,hf,ab1 (m.mono (qa7 _))⟩
end
def dy.get {L:Rows}(h:dy lo w v n L):∃A C H,v=.slice A n C/\n<=C/\Mt w lo A n H L:=h
def gw {m:Nat}{L B K:Rows}(e:dp n L m B=some K):Bd n K:=by
 have h:=@Pr n m L B
 rw[e]at h;exact h
def p7 {L K:Rows}(e:eN n L=some K):Bd n K:=by
 have h:=@Pq n L
 rw[e]at h;exact h
def Dr {L:Rows}(hv:vM n L=true)(hl:(L 0).length=k):Bd k (λj=>l5 L n j):=by
 have h:=@XC n L
 rw[if_pos hv,hl]at h;exact h
def k8 {L:Rows}(h:vM n L=true):Bd n L:=by
 have hv:=iG h
 have ok:=VM.ok hv
 have E:=hv.2.2.2.1
 exact⟨by have:=hv.2.1;omega,λi hi=>⟨by rw[(ok i hi).1];omega,λk hk=>sX ((ok i hi).2 k (by rw[<-(ok i hi).1];exact hk))⟩⟩
structure Ps (m k:Nat)(L V:Rows)(ys:List R)(W B G C D X P:Rows)(rs xs:List R)(Q S:Rows):Prop where
 eW:eN m V=some W
 eB:dp k (λj=>l5 L m j) m W=some B
 eG:dp k B m L=some G
 eC:eN k G=some C
 eD:dp k B m (bI ys)=some D
 eX:dp k C k D=some X
 eP:dp m L k X=some P
 hPl:∀i,i<m->0<(P i).length
 hrl:rs.length=m
 hr:∀i,i<m->dx (ar ys i) (ar (P i) 0)=some (ar rs i)
 hvr:vM m (bI rs)=true
 eQ:dp 1 (λj=>l5 (bI rs) m j) m W=some Q
 eS:dp 1 Q m (bI rs)=some S
 hXl:∀i,i<k->0<(X i).length
 hxl:xs.length=k
 hx:∀i,i<k->ar xs i=ar (X i) 0
 hSl:0<(S 0).length
def nl (lo:Nat)(w:World)(v:Value)(k:Nat)(xs:List R)(C:Rows)(chi:R)(fr:Int):Prop:=∃A cp B D H,v=.agg #[.slice A xs.length cp,.slice B k D,S chi.1,S chi.2,.int .i64 fr]/\xs.length<=cp/\Rw w lo A (ag xs)/\k<=D/\Mt w lo B k H C
def Pt {L V:Rows}{ys:List R}(hM:Mt w lo A ys.length H L)(hB:Bd ys.length L)(hy:Rw w lo2 Y (ag ys))(hV:Mt w lo3 B ys.length G V)(hB3:Bd ys.length V)(hcb:ys.length<=CB){W0 B0 G0 C0 D0 X0 P0 Q0 S0:Rows}{rs xs:List R}(hv:vM ys.length L=true)(hk:(L 0).length=k)(hvl:vM ys.length (bI ys)=true)(e:Ps ys.length k L V ys W0 B0 G0 C0 D0 X0 P0 rs xs Q0 S0)(ht:Tb w):
 CL 41 #[.agg #[.slice A ys.length C,.slice Y ys.length CY,.slice B ys.length CB]] w (aI w λv w'=>nl w.heap.size w' v k xs C0 (ar (S0 0) 0) (((ys.length:Nat):Int)-(k:Int))):=by
 have dC:=(iG hv).1;have bv:=(iG hv).2.1;have e3:=(iG hv).2.2.2.1;have cc:=e.hSl;have e4:=e.hrl;have f9:=e.hxl;refine aE func41 Z (I ?_);refine bx (λES bW O=>?_);have E:=bW.2;refine al dD (λE7 GC A0=>?_);have⟨O,E⟩:=bn GC.2 O E;refine I ?_;refine bH 7 ?_;refine sf ?_;refine bC (fun(v:Value) (W:World)=>∃A C H,v=Value.slice A ys.length C/\ys.length<=C/\Mt W E7.heap.size A ys.length H (bI ys)) (hs:=λ_ _ _ k h=>by obtain⟨A,C,H,e,c,r⟩:=h;exact⟨A,C,H,e,c,r.ext k⟩) (λ_ _ EW _=>?_) ?_;refine clb xy (hc:=lI (hy.ext (xt E EW)) U) (hk:=?_);rintro _ _ bZ ⟨bd,cT,ej,rfl,W1,P1⟩;have a0:=ab1 P1;refine I ?_;exact fs ⟨bZ.2,⟨_,_,_,rfl,W1,((a0).mt).mono (by have:=bz EW;omega)⟩⟩;refine sf ?_;intro Li L3 W3 KY;have⟨O,A0,E⟩:=cj W3.2 O A0 E;have K3:∃A C H,Li 17=Value.slice A ys.length C/\ys.length<=C/\Mt L3 E7.heap.size A ys.length H (bI ys):=(KY 6 17 Z Z);(with_reducible obtain⟨_,_,_,_,_,VW⟩:=K3);have Am:=ab1 VW;refine I ?_;refine cl xA (yy (hV.ext E) hB3 e.eW (ht.ext E)) ?_;rintro _ _ E5 ⟨d0,dq,fP,rfl,ct,L4⟩;have⟨O,A0⟩:=gg E5.2 O A0;have Am:=aa5 E5.2 Am;have E:=xt E E5.2;have A1:=ab1 L4;refine I ?_;refine cl B6 (uT (k:=k) (hM.ext E) hB hv hk (ht.ext E)) ?_
 rintro _ _ E1 ⟨fN,cv,cw,rfl,et,a3⟩;have⟨O,A0⟩:=gg E1.2 O A0;have Am:=aa5 E1.2 Am;have A1:=aa5 E1.2 A1;have E:=xt E E1.2;have a9:=ab1 a3;refine I ?_;refine cl lg (jt (a9).mt (Dr hv hk) (A1).mt (p7 e.eW) e.eB (ht.ext E)) ?_;rintro _ _ Cr ⟨cr,er,eb,rfl,cb,Kp⟩;have⟨O,A0⟩:=gg Cr.2 O A0;have Am:=aa5 Cr.2 Am;have A1:=aa5 Cr.2 A1;have E:=xt E Cr.2;have Ar:=ab1 Kp;refine I ?_;refine cl lg (jt (Ar).mt (gw e.eB) (hM.ext E) hB e.eG (ht.ext E)) ?_;rintro _ _ B2 ⟨d5,co,cq,rfl,fG,H2⟩;have⟨O,A0⟩:=gg B2.2 O A0;have Am:=aa5 B2.2 Am;have A1:=aa5 B2.2 A1;have Ar:=aa5 B2.2 Ar;have E:=xt E B2.2;have T2:=ab1 H2;refine cl xA (yy (T2).mt (gw e.eG) e.eC (ht.ext E)) ?_;rintro _ _ C1 ⟨Av,Ay,bq,rfl,a8,La⟩;have⟨O,A0⟩:=gg C1.2 O A0;have Am:=aa5 C1.2 Am;have A1:=aa5 C1.2 A1;have Ar:=aa5 C1.2 Ar;have E:=xt E C1.2;have A2:=ab1 La;refine I ?_;refine cl lg (jt (Ar).mt (gw e.eB) (Am).mt (k8 hvl) e.eD (ht.ext E)) ?_;rintro _ _ CG ⟨dd,eg,ask,rfl,f0,Ix⟩;have⟨O,A0⟩:=gg CG.2 O A0;have A1:=aa5 CG.2 A1;have A2:=aa5 CG.2 A2;have E:=xt E CG.2;have FR:=ab1 Ix;refine cl lg (jt (A2).mt (p7 e.eC) (FR).mt (gw e.eD) e.eX (ht.ext E)) ?_;rintro _ _ E0 ⟨e5,d3,ce,rfl,ch,WV⟩
 have⟨O,A0⟩:=gg E0.2 O A0;have A1:=aa5 E0.2 A1;have A2:=aa5 E0.2 A2;have E:=xt E E0.2;have Ab:=ab1 WV;refine I ?_;(try refine aa (aN (cs:=[.slice A ys.length C,.slice Y ys.length CY,.slice B ys.length CB]) (b:=w.heap.size) (o:=0) nw Z nN Z (aa0 O (i:=0) Z) ?_));refine I ?_;refine cl II (AV (hM.ext E) hB (hy.ext E) (hV.ext E) hB3 hcb hv (Ab).mt (gw e.eX) e.eP (gw e.eP) e.hPl e.hrl e.hr (ht.ext E)) ?_;rintro _ _ Ax ⟨f3,bb,rfl,e6,K2⟩;have⟨O,A0⟩:=gg Ax.2 O A0;have A1:=aa5 Ax.2 A1;have A2:=aa5 Ax.2 A2;have Ab:=aa5 Ax.2 Ab;have E:=xt E Ax.2;have Lk:=ab5 K2;refine clb xy (hc:=Xw (m:=ys.length) (lI (Lk).rw U) e.hrl) (hk:=?_);rintro _ _ As ⟨d4,cp,ed,rfl,fB,T3⟩;have⟨O,A0⟩:=gg As.2 O A0;have A1:=aa5 As.2 A1;have A2:=aa5 As.2 A2;have Ab:=aa5 As.2 Ab;have E:=xt E As.2;have Ap:=ab1 T3;refine I ?_;refine cl B6 (uT (k:=1) (Ap).mt (k8 e.hvr) e.hvr Z (ht.ext E)) ?_;rintro _ _ Aq ⟨bp,ea,e1,rfl,f8,Ne⟩;have⟨O,A0⟩:=gg Aq.2 O A0;have A1:=aa5 Aq.2 A1;have A2:=aa5 Aq.2 A2;have Ab:=aa5 Aq.2 Ab;have Ap:=aa5 Aq.2 Ap;have E:=xt E Aq.2;have X2:=ab1 Ne;refine I ?_;refine cl lg (jt (X2).mt (Dr e.hvr Z) (A1).mt (p7 e.eW) e.eQ (ht.ext E)) ?_
 rintro _ _ B1 ⟨eq,d6,c9,rfl,cz,Rm⟩;have⟨O,A0⟩:=gg B1.2 O A0;have A2:=aa5 B1.2 A2;have Ab:=aa5 B1.2 Ab;have Ap:=aa5 B1.2 Ap;have E:=xt E B1.2;have nm:=ab1 Rm;refine I ?_;refine cl lg (jt (nm).mt (gw e.eQ) (Ap).mt (k8 e.hvr) e.eS (ht.ext E)) ?_;rintro _ E9 D2 ⟨cy,fC,d1,rfl,cm,ac⟩;have⟨O,A0⟩:=gg D2.2 O A0;have A2:=aa5 D2.2 A2;have Ab:=aa5 D2.2 Ab;have E:=xt E D2.2;have Af:=ab1 ac;refine I ?_;refine bH 13 ?_;refine sf ?_;refine bC (fun(v:Value) (W:World)=>∃A Ao,v=Value.slice A xs.length Ao/\xs.length<=Ao/\Rw W E9.heap.size A (ag xs)) (hs:=λ_ _ _ k h=>by obtain⟨A,Ao,e,c,r⟩:=h;exact⟨A,Ao,e,c,r.ext k⟩) (λ_ _ ny _=>?_) ?_;have Ab:=aa5 ny Ab;refine clb SS (hc:=Lt (Ab).mt e.hXl e.hxl e.hx U) (hk:=?_);rintro _ _ a6 ⟨dL,cx,rfl,Vm,an⟩;have KC:=ab5 an;refine I ?_;exact fs ⟨a6.2,⟨_,_,rfl,Vm,((KC).rw).mono (by have:=bz ny;omega)⟩⟩;refine sf ?_;refine aB (λ_ _ wr _=>by have Af:=aa5 wr Af;have H4:=ab2 (Af).mt (i:=0) U;refine I ?_;refine gR H4 ?_ (i:=0);refine I ?_;exact aG) ?_;refine aB (λ_ _ W2 _=>by have Af:=aa5 W2 Af;have fD:=ab2 (Af).mt (i:=0) U;refine I ?_;exact aG) ?_
 refine aB (λ_ _ S9 _=>by have Af:=aa5 S9 Af;have Lj:=ad3 (Af).mt (i:=0) (k:=0) U U;refine I ?_;refine lU Lj ?_ (i:=0);refine I ?_;exact aG) ?_;refine aB (λ_ _ H3 _=>by have Af:=aa5 H3 Af;have cf:=ad3 (Af).mt (i:=0) (k:=0) U U;refine I ?_;exact aG) ?_;refine aB (λ_ _ ad _=>by have O:=be ad O;(try refine aa (aN (cs:=[.slice A ys.length C,.slice Y ys.length CY,.slice B ys.length CB]) (b:=w.heap.size) (o:=0) nw Z nN Z (aa0 O (i:=0) Z) ?_));refine I ?_;exact aG) ?_;refine aR (V:=.int .i64 ((ys.length:Nat):Int)) (λ_ _ _ _=>?_) ?_;refine cl xB pW ?_;rintro _ _ a2 rfl;refine I ?_;exact fs ⟨a2.2,rfl⟩;refine aB (λ_ _ a5 _=>by have O:=be a5 O;(try refine aa (aN (cs:=[.slice A ys.length C,.slice Y ys.length CY,.slice B ys.length CB]) (b:=w.heap.size) (o:=0) nw Z nN Z (aa0 O (i:=0) Z) ?_));refine I ?_;exact aG) ?_;refine aR (V:=.int .i64 k) (λ_ _ od _=>?_) ?_;refine clb SU (hc:=l8 (Y:=.int .i64 k) (Lh (hM.ext (xt E od)) U) (by rw[hk])) (hk:=?_);rintro _ _ N0 rfl;refine I ?_;exact fs ⟨N0.2,rfl⟩;refine aB (λ_ _ _ _=>by refine nY ?_;refine I ?_;exact aG) ?_;refine sf ?_;intro Wa L1 E6 b0;have⟨O,A0⟩:=gg E6.2 O A0;have A2:=aa5 E6.2 A2
 have E:=xt E E6.2;have No:∃A Ao,Wa 46=Value.slice A xs.length Ao/\xs.length<=Ao/\Rw L1 E9.heap.size A (ag xs):=(b0 1 46 Z Z);(with_reducible obtain⟨Aw,Az,a4,P2,L2⟩:=No);have E4:=ab5 L2;refine aa (bR (vs:=[(0,.slice Aw xs.length Az),(1,.slice Av k Ay),(2,.agg #[S ((ar (S0 0) 0).1),S ((ar (S0 0) 0).2)]),(3,.int .i64 (((ys.length:Nat):Int)-(k:Int)))]) (cells:=#[.slice Aw xs.length Az,.slice Av k Ay,S ((ar (S0 0) 0).1),S ((ar (S0 0) 0).2),.int .i64 (((ys.length:Nat):Int)-(k:Int))]) (pl:=[(0,1),(1,1),(2,2),(4,1)]) nu dD q0 (c6 (by exact a4) (c6 Z (c6 Z (c6 Z Z)))) q0 ?_);refine aa (bB (b:=ES.heap.size) (o:=0) (vs:=[.slice Aw xs.length Az,.slice Av k Ay,S ((ar (S0 0) 0).1),S ((ar (S0 0) 0).2),.int .i64 (((ys.length:Nat):Int)-(k:Int))]) dJ Z Z Hx A0 (qa3 Z) (λ_ D1 KM=>?_));have O:=pb D1 O;have A2:=ac5 D1 U A2;have E4:=ab9 D1 U E4;have E:=bh D1 E;refine I ?_;refine aX (v:=.agg #[.slice Aw xs.length Az,.slice Av k Ay,S ((ar (S0 0) 0).1),S ((ar (S0 0) 0).2),.int .i64 (((ys.length:Nat):Int)-(k:Int))]) (bY  rfl ?_) E ⟨_,_,_,_,_,rfl,P2,((E4).rw).mono U,a8,((A2).mt).mono U⟩
 refine ai (t:=2) (cs:=[.slice Aw xs.length Az,.slice Av k Ay,S ((ar (S0 0) 0).1),S ((ar (S0 0) 0).2),.int .i64 (((ys.length:Nat):Int)-(k:Int))]) (b:=ES.heap.size) (o:=0) nu Z dJ ?_ ?_;exact Z;exact aa0 KM (i:=0) Z
def Lv {L V:Rows}{ys:List R}(hM:Mt w lo A ys.length H L)(hB:Bd ys.length L)(hy:Rw w lo2 Y (ag ys))(hV:Mt w lo3 B ys.length G V)(hB3:Bd ys.length V)(hcb:ys.length<=CB){W0 B0 G0:Rows}(hv:vM ys.length L=true)(hk:(L 0).length=k)(hvl:vM ys.length (bI ys)=true)(hE:Er w a)(eW:eN ys.length V=some W0)(eB:dp k (λj=>l5 L ys.length j) ys.length W0=some B0)(eG:dp k B0 ys.length L=some G0)(eC:eN k G0=none)(ht:Tb w):
 CL 41 #[.agg #[.slice A ys.length C,.slice Y ys.length CY,.slice B ys.length CB]] w (k9 (pE a) w):=by
 have KY:=(iG hv).1;have GC:=(iG hv).2.1;refine gN func41 Z (I ?_);refine bx (λ_ E0 O=>?_);have E:=E0.2;refine al dD (λny od _=>?_);have⟨O,E⟩:=bn od.2 O E;refine I ?_;refine bH 7 ?_;refine sf ?_;refine bC (fun(v:Value) (W:World)=>∃A C H,v=Value.slice A ys.length C/\ys.length<=C/\Mt W ny.heap.size A ys.length H (bI ys)) (hs:=λ_ _ _ k h=>by obtain⟨A,C,H,e,c,r⟩:=h;exact⟨A,C,H,e,c,r.ext k⟩) (λ_ _ A2 _=>?_) ?_;refine clb xy (hc:=lI (hy.ext (xt E A2)) U) (hk:=?_);rintro _ _ C1 ⟨Kp,EW,FR,rfl,Az,Av⟩;have D2:=ab1 Av;refine I ?_;exact fs ⟨C1.2,⟨_,_,_,rfl,Az,((D2).mt).mono (by have:=bz A2;omega)⟩⟩;refine sf ?_;intro Ar B1 Cr Ay;have⟨O,E⟩:=bn Cr.2 O E;have Af:∃A C H,Ar 17=Value.slice A ys.length C/\ys.length<=C/\Mt B1 ny.heap.size A ys.length H (bI ys):=(Ay 6 17 Z Z);(with_reducible obtain⟨_,_,_,_,_,_⟩:=Af);refine I ?_;refine cl xA (yy (hV.ext E) hB3 eW (ht.ext E)) ?_;rintro _ _ Am ⟨nm,H3,E7,rfl,H4,Ax⟩;have E:=xt E Am.2;have A0:=ab1 Ax;refine I ?_;refine cl B6 (uT (k:=k) (hM.ext E) hB hv hk (ht.ext E)) ?_;rintro _ _ A1 ⟨ES,E5,Ix,rfl,H2,CG⟩;have A0:=aa5 A1.2 A0;have E:=xt E A1.2;have B2:=ab1 CG;refine I ?_;refine cl lg (jt (B2).mt (Dr hv hk) (A0).mt (p7 eW) eB (ht.ext E)) ?_
 rintro _ _ Aq ⟨E9,KC,KM,rfl,E6,E4⟩;have E:=xt E Aq.2;have As:=ab1 E4;refine I ?_;refine cl lg (jt (As).mt (gw eB) (hM.ext E) hB eG (ht.ext E)) ?_;rintro _ _ Ab ⟨Aw,D1,K2,rfl,K3,Ao⟩;have E:=xt E Ab.2;have Ap:=ab1 Ao;refine aa (c7 (vs:=[.slice Aw k D1]) xA Z (Lg (Ap).mt (gw eG) (ad1 E hE) eC (ht.ext E)) (λ_ E1=>?_));have E:=xt E E1;refine I ?_;exact fj ⟨E,rfl⟩
def Er.lt (h:Er w a):0<w.heap.size:=bt h
def nl.mono {xs:List R}{C:Rows}{chi:R}{fr:Int}(h:nl lo w v k xs C chi fr)(hl:lo'<=lo):nl lo' w v k xs C chi fr:=by
 obtain⟨A,E,B,D,H,e,h1,h2,h3,h4⟩:=h
 exact⟨A,E,B,D,H,e,h1,h2.mono hl,h3,h4.mono hl⟩
def Lw {xs:List R}{Cr:Rows}{chi:R}{fr:Int}(hg:Enters prog gf)(hc:∀W,aP w W->CL gf lb.toArray W (aI W λv w'=>nl W.heap.size w' v k xs Cr chi fr)):
 CL 38 #[.func (.func gf) #[] lb.toArray] w (aI w λv w'=>∃u,v=.tuple #[u,.int .i64 0]/\nl w.heap.size w' u k xs Cr chi fr):=by
 refine kR func38 Z (I ?_);refine al dD (λAm nm A2=>?_);have E:=nm.2;refine al kC (λ_ Aw A1=>?_);have⟨A2,E⟩:=bn Aw.2 A2 E;refine I ?_;refine aa (aF (vf:=[]) (vc:=[pT w.heap.size,pT Am.heap.size]) Z Z ?_);refine aa (g7 (lb:=[pT w.heap.size,pT Am.heap.size]) Z ?_);refine I ?_;refine aa (lV (f:=gf) (lb:=lb) (vs:=[]) hg Z Z (hc _ E) ?_);rintro _ _ Az ⟨Ao,As,Ar,Ap,B1,rfl,Av,Ax,B0,Ay⟩;have⟨A2,A1,E⟩:=cj Az.2 A2 A1 E;have O:=ab5 Ax;have A0:=ab1 Ay;refine aa (bB (b:=w.heap.size) (o:=0) (vs:=[.slice Ao xs.length As,.slice Ar k Ap,S chi.1,S chi.2,.int .i64 fr]) dJ Z Z Hx A2 (qa3 Z) (λ_ Ab Aq=>?_));have A1:=pb Ab A1;have O:=ab9 Ab U O;have A0:=ac5 Ab U A0;have E:=bh Ab E;refine SO A1 (λ_ Af ny=>?_);have Aq:=pb Af Aq;have O:=ab9 Af U O;have A0:=ac5 Af U A0;have E:=bh Af E;refine I ?_;refine ou (b1:=w.heap.size) (b2:=Am.heap.size) (v:=.tuple #[.agg #[.slice Ao xs.length As,.slice Ar k Ap,S chi.1,S chi.2,.int .i64 fr],.int .i64 0]) IJ (λ_ _=>Kf) E (cQ (r1:=.cell 2 40) (r2:=.cell 3 36) Z ?_ ?_) ⟨_,rfl,_,_,_,_,_,rfl,Av,((O).rw).mono U,B0,((A0).mt).mono U⟩
 refine ai (t:=2) (cs:=[.slice Ao xs.length As,.slice Ar k Ap,S chi.1,S chi.2,.int .i64 fr]) (b:=w.heap.size) (o:=0) nu Z dJ ?_ ?_;exact Z;exact aa0 Aq (i:=0) Z;refine bu (t:=3) (b:=Am.heap.size) (o:=0) yZ Z ?_ ?_;exact Z;exact ab3 ny Z
def wX (hE:Er w a)(hg:Enters prog gf)(hc:∀W,aP w W->CL gf lb.toArray W (k9 (pE a) W)):
 CL 38 #[.func (.func gf) #[] lb.toArray] w (aI w λv w'=>v=.tuple #[.agg #[.slice none 0 0,.slice none 0 0,S [],S [],.int .i64 0],.int .i64 140]):=by
 have hlt:=Er.lt hE;refine kR func38 Z (I ?_);refine al dD (λA0 A2 O=>?_);have E:=A2.2;refine al kC (λ_ Ab A1=>?_);have⟨O,E⟩:=bn Ab.2 O E;refine I ?_;refine aa (aF (vf:=[]) (vc:=[pT w.heap.size,pT A0.heap.size]) Z Z ?_);refine aa (g7 (lb:=[pT w.heap.size,pT A0.heap.size]) Z ?_);refine I ?_;refine aa (iw (f:=gf) (lb:=lb) (vs:=[]) hg Z Z (hc _ E) (λ_ Af=>?_));have⟨O,A1,E⟩:=cj Af O A1 E;refine I ?_;refine Ke (b1:=w.heap.size) (b2:=A0.heap.size) (z:=#[.slice none 0 0,.slice none 0 0,S [],S [],.int .i64 0]) (cs:=#[.slice none 0 0,.slice none 0 0,S [],S [],.int .i64 0]) (c0:=0) (v:=.tuple #[.agg #[.slice none 0 0,.slice none 0 0,S [],S [],.int .i64 0],.int .i64 140]) IJ Kk E (ad1 E hE) O Z A1 U U U U (λ_ _ c1 c2=>⟨cQ (r1:=.cell 2 40) (r2:=.cell 3 36) Z ?_ ?_,rfl⟩);refine ai (t:=2) (cs:=[.slice none 0 0,.slice none 0 0,S [],S [],.int .i64 0]) (b:=w.heap.size) (o:=0) nu Z dJ ?_ ?_;exact Z;exact aa0 c1 (i:=0) Z;refine bu (t:=3) (b:=A0.heap.size) (o:=0) yZ Z ?_ ?_;exact Z;exact ab3 c2 Z
def Lx {x:Int}(hg:Enters prog gf)(hc:∀W,aP w W->CL gf lb.toArray W (aI W λv w'=>v=.int .i64 x)):
 CL 42 #[.func (.func gf) #[] lb.toArray] w (aI w λv w'=>v=.tuple #[.int .i64 x,.int .i64 0]):=by
 refine kR func42 Z (I ?_);refine al kB (λA1 Am A0=>?_);have E:=Am.2;refine al kC (λ_ Ao O=>?_);have⟨A0,E⟩:=bn Ao.2 A0 E;refine I ?_;refine aa (aF (vf:=[]) (vc:=[pT w.heap.size,pT A1.heap.size]) Z Z ?_);refine aa (g7 (lb:=[pT w.heap.size,pT A1.heap.size]) Z ?_);refine I ?_;refine aa (lV (f:=gf) (lb:=lb) (vs:=[]) hg Z Z (hc _ E) ?_);rintro _ _ Ap rfl;have⟨A0,O,E⟩:=cj Ap.2 A0 O E;refine SO A0 (λ_ Af A2=>?_);have O:=pb Af O;have E:=bh Af E;refine SO O (λ_ Ab Aq=>?_);have A2:=pb Ab A2;have E:=bh Ab E;refine I ?_;refine ou (b1:=w.heap.size) (b2:=A1.heap.size) (v:=.tuple #[.int .i64 x,.int .i64 0]) IK (λ_ _=>Kg) E (cQ (r1:=.cell 2 3) (r2:=.cell 3 36) Z ?_ ?_) Z;refine bu (t:=2) (b:=w.heap.size) (o:=0) U3 Z ?_ ?_;exact Z;exact ab3 A2 Z;refine bu (t:=3) (b:=A1.heap.size) (o:=0) yZ Z ?_ ?_;exact Z;exact ab3 Aq Z
def Hg (hE:Er w a)(hg:Enters prog gf)(hc:∀W,aP w W->CL gf lb.toArray W (k9 (pE a) W)):
 CL 42 #[.func (.func gf) #[] lb.toArray] w (aI w λv w'=>v=.tuple #[.int .i64 0,.int .i64 140]):=by
 have hlt:=Er.lt hE;refine kR func42 Z (I ?_);refine al kB (λA0 A2 O=>?_);have E:=A2.2;refine al kC (λ_ Ab A1=>?_);have⟨O,E⟩:=bn Ab.2 O E;refine I ?_;refine aa (aF (vf:=[]) (vc:=[pT w.heap.size,pT A0.heap.size]) Z Z ?_);refine aa (g7 (lb:=[pT w.heap.size,pT A0.heap.size]) Z ?_);refine I ?_;refine aa (iw (f:=gf) (lb:=lb) (vs:=[]) hg Z Z (hc _ E) (λ_ Af=>?_));have⟨O,A1,E⟩:=cj Af O A1 E;refine I ?_;refine Ke (b1:=w.heap.size) (b2:=A0.heap.size) (z:=#[.int .i64 0]) (cs:=#[.int .i64 0]) (c0:=0) (v:=.tuple #[.int .i64 0,.int .i64 140]) IK Kl E (ad1 E hE) O Z A1 U U U U (λ_ _ c1 c2=>⟨cQ (r1:=.cell 2 3) (r2:=.cell 3 36) Z ?_ ?_,rfl⟩);refine bu (t:=2) (b:=w.heap.size) (o:=0) U3 Z ?_ ?_;exact Z;exact ab3 c1 Z;refine bu (t:=3) (b:=A0.heap.size) (o:=0) yZ Z ?_ ?_;exact Z;exact ab3 c2 Z
def Ly {xs:List R}(hg:Enters prog gf)(hc:∀W,aP w W->CL gf lb.toArray W (aI W λv w'=>AT W.heap.size w' v xs)):
 CL 58 #[.func (.func gf) #[] lb.toArray] w (aI w λv w'=>∃u,v=.tuple #[u,.int .i64 0]/\AT w.heap.size w' u xs):=by
 refine kR func58 Z (I ?_);refine al jE (λA2 Ar A1=>?_);have E:=Ar.2;refine al kC (λ_ Ao O=>?_);have⟨A1,E⟩:=bn Ao.2 A1 E;refine I ?_;refine aa (aF (vf:=[]) (vc:=[pT w.heap.size,pT A2.heap.size]) Z Z ?_);refine aa (g7 (lb:=[pT w.heap.size,pT A2.heap.size]) Z ?_);refine I ?_;refine aa (lV (f:=gf) (lb:=lb) (vs:=[]) hg Z Z (hc _ E) ?_);rintro _ _ Ap ⟨Aw,Aq,rfl,Av,As⟩;have⟨A1,O,E⟩:=cj Ap.2 A1 O E;have A0:=ab5 As;refine SO A1 (λ_ Af Am=>?_);have O:=pb Af O;have A0:=ab9 Af U A0;have E:=bh Af E;refine SO O (λ_ Ab nm=>?_);have Am:=pb Ab Am;have A0:=ab9 Ab U A0;have E:=bh Ab E;refine I ?_;refine ou (b1:=w.heap.size) (b2:=A2.heap.size) (v:=.tuple #[.slice Aw xs.length Aq,.int .i64 0]) SZ (λ_ _=>Kj) E (cQ (r1:=.cell 2 28) (r2:=.cell 3 36) Z ?_ ?_) ⟨_,rfl,_,_,rfl,Av,((A0).rw).mono U⟩;refine bu (t:=2) (b:=w.heap.size) (o:=0) sE Z ?_ ?_;exact Z;exact ab3 Am Z;refine bu (t:=3) (b:=A2.heap.size) (o:=0) yZ Z ?_ ?_;exact Z;exact ab3 nm Z
structure fL (L V:Rows)(ys:List R):Prop where
 hv:vM ys.length L=true
 hv3:vM ys.length V=true
 hVl:(V 0).length=ys.length
 hLl:(L 0).length<=ys.length
 hyo:ys.all bL=true
 hp:pQ ys.length V=some true
structure eE (w:World)(A:Option Addr)(C:Nat)(Y:Option Addr)(CY:Nat)(B:Option Addr)(CB:Nat)(L V:Rows)(ys:List R):Prop where
 m:∃lo H,Mt w lo A ys.length H L
 y:∃lo,Rw w lo Y (ag ys)
 v:∃lo G,Mt w lo B ys.length G V
 c:ys.length<=CB
def eE.ext {L V:Rows}{ys:List R}(k:aP w w')(h:eE w A C Y CY B CB L V ys):eE w' A C Y CY B CB L V ys:=by
 obtain⟨⟨a,b,c⟩,⟨d,e⟩,⟨f,g,i⟩,j⟩:=h
 exact⟨⟨a,b,c.ext k⟩,⟨d,e.ext k⟩,⟨f,g,i.ext k⟩,j⟩
def FD {ys:List R}(h:ys.all bL=true)(h1:1<=ys.length)(h8:ys.length<=8):vM ys.length (bI ys)=true:=by
 unfold vM
 refine qa1 ⟨h1,h8,qa0 _,by show 1<=8;omega,λi hi=>⟨rfl,?_⟩⟩
 exact lE.2 λk _=>by
  have E : k = 0 := by have:(bI ys i).length=1:=rfl
                       omega
  subst E
  exact lE.1 h i hi
def Lz {L V:Rows}{ys:List R}(hD:eE w A C Y CY B CB L V ys)(ok:fL L V ys)(hb:ao w b 30 #[.slice A ys.length C,.slice Y ys.length CY,.slice B ys.length CB]){W0 B0 G0 C0 D0 X0 P0 Q0 S0:Rows}{rs xs:List R}(hk:(L 0).length=k)(e:Ps ys.length k L V ys W0 B0 G0 C0 D0 X0 P0 rs xs Q0 S0)(ht:Tb w):
 CL 39 #[pT b] w (aI w λv w'=>nl w.heap.size w' v k xs C0 (ar (S0 0) 0) (((ys.length:Nat):Int)-(k:Int))):=by
 obtain⟨_,H,hM⟩:=hD.m;obtain⟨_,hy⟩:=hD.y;obtain⟨_,G,hV⟩:=hD.v;have B1:=bt hb;refine aE func39 Z (I ?_);refine al dD (λ_ Ap O=>?_);have hb:=be Ap.2 hb;have E:=Ap.2;refine I ?_;(try refine aa (aN (cs:=[.slice A ys.length C,.slice Y ys.length CY,.slice B ys.length CB]) (b:=b) (o:=0) c8 Z bf Z (aa0 hb (i:=0) Z) ?_));refine cl lf (iK (hM.ext E) (k8 ok.hv) (hy.ext E) (hV.ext E) (k8 ok.hv3) hD.c ok.hv ok.hv3 ok.hVl ok.hLl ok.hyo ok.hp (ht.ext E)) ?_;rintro _ _ Ay rfl;have⟨hb,O,E⟩:=cj Ay.2 hb O E;refine cl fe di ?_;rintro _ _ Ar rfl;have⟨hb,O,E⟩:=cj Ar.2 hb O E;refine I ?_;(try refine aa (aN (cs:=[.slice A ys.length C,.slice Y ys.length CY,.slice B ys.length CB]) (b:=b) (o:=0) c8 Z bf Z (aa0 hb (i:=0) Z) ?_));refine aa (bR (vs:=[(0,.agg #[.slice A ys.length C,.slice Y ys.length CY,.slice B ys.length CB])]) (cells:=#[.slice A ys.length C,.slice Y ys.length CY,.slice B ys.length CB]) (pl:=[(0,3)]) nw oU q0 Z q0 ?_);refine cl ID (Pt (hM.ext E) (k8 ok.hv) (hy.ext E) (hV.ext E) (k8 ok.hv3) hD.c ok.hv hk (FD ok.hyo (iG ok.hv).1 (iG ok.hv).2.1) e (ht.ext E)) ?_;rintro _ _ Ax ⟨A2,Ab,Am,A1,Az,rfl,Av,As,nm,Aq⟩;have⟨hb,O,E⟩:=cj Ax.2 hb O E
 have Ao:=ab5 As;have Af:=ab1 Aq;refine aa (bB (b:=w.heap.size) (o:=0) (vs:=[.slice A2 xs.length Ab,.slice Am k A1,S ((ar (S0 0) 0).1),S ((ar (S0 0) 0).2),.int .i64 (((ys.length:Nat):Int)-(k:Int))]) dJ Z Z Hx O (qa3 Z) (λ_ A0 Aw=>?_));have hb:=pb A0 hb;have Ao:=ab9 A0 U Ao;have Af:=ac5 A0 U Af;have E:=bh A0 E;refine I ?_;refine aX (v:=.agg #[.slice A2 xs.length Ab,.slice Am k A1,S ((ar (S0 0) 0).1),S ((ar (S0 0) 0).2),.int .i64 (((ys.length:Nat):Int)-(k:Int))]) (bY  rfl ?_) E ⟨_,_,_,_,_,rfl,Av,((Ao).rw).mono U,nm,((Af).mt).mono U⟩;refine ai (t:=1) (cs:=[.slice A2 xs.length Ab,.slice Am k A1,S ((ar (S0 0) 0).1),S ((ar (S0 0) 0).2),.int .i64 (((ys.length:Nat):Int)-(k:Int))]) (b:=w.heap.size) (o:=0) nu Z dJ ?_ ?_;exact Z;exact aa0 Aw (i:=0) Z
def Hh {L V:Rows}{ys:List R}(hD:eE w A C Y CY B CB L V ys)(ok:fL L V ys)(hb:ao w b 30 #[.slice A ys.length C,.slice Y ys.length CY,.slice B ys.length CB]){W0 B0 G0:Rows}(hk:(L 0).length=k)(hE:Er w a)(eW:eN ys.length V=some W0)(eB:dp k (λj=>l5 L ys.length j) ys.length W0=some B0)(eG:dp k B0 ys.length L=some G0)(eC:eN k G0=none)(ht:Tb w):
 CL 39 #[pT b] w (k9 (pE a) w):=by
 obtain⟨_,H,hM⟩:=hD.m;obtain⟨_,hy⟩:=hD.y;obtain⟨_,G,hV⟩:=hD.v;refine gN func39 Z (I ?_);refine al dD (λ_ O _=>?_);have hb:=be O.2 hb;have E:=O.2;refine I ?_;(try refine aa (aN (cs:=[.slice A ys.length C,.slice Y ys.length CY,.slice B ys.length CB]) (b:=b) (o:=0) c8 Z bf Z (aa0 hb (i:=0) Z) ?_));refine cl lf (iK (hM.ext E) (k8 ok.hv) (hy.ext E) (hV.ext E) (k8 ok.hv3) hD.c ok.hv ok.hv3 ok.hVl ok.hLl ok.hyo ok.hp (ht.ext E)) ?_;rintro _ _ A0 rfl;have⟨hb,E⟩:=bn A0.2 hb E;refine cl fe di ?_;rintro _ _ A1 rfl;have⟨hb,E⟩:=bn A1.2 hb E;refine I ?_;(try refine aa (aN (cs:=[.slice A ys.length C,.slice Y ys.length CY,.slice B ys.length CB]) (b:=b) (o:=0) c8 Z bf Z (aa0 hb (i:=0) Z) ?_));refine aa (bR (vs:=[(0,.agg #[.slice A ys.length C,.slice Y ys.length CY,.slice B ys.length CB])]) (cells:=#[.slice A ys.length C,.slice Y ys.length CY,.slice B ys.length CB]) (pl:=[(0,3)]) nw oU q0 Z q0 ?_)
 refine aa (c7 (vs:=[.agg #[.slice A ys.length C,.slice Y ys.length CY,.slice B ys.length CB]]) ID Z (Lv (hM.ext E) (k8 ok.hv) (hy.ext E) (hV.ext E) (k8 ok.hv3) hD.c ok.hv hk (FD ok.hyo (iG ok.hv).1 (iG ok.hv).2.1) (ad1 E hE) eW eB eG eC (ht.ext E)) (λ_ A2=>?_));have E:=xt E A2;refine I ?_;exact fj ⟨E,rfl⟩
def yF {L V:Rows}{ys:List R}(hD:eE w A C Y CY B CB L V ys)(ok:fL L V ys){W0 B0 G0 C0 D0 X0 P0 Q0 S0:Rows}{rs xs:List R}(hk:(L 0).length=k)(e:Ps ys.length k L V ys W0 B0 G0 C0 D0 X0 P0 rs xs Q0 S0)(ht:Tb w):
 CL 14 #[.agg #[.slice A ys.length C,.slice Y ys.length CY,.slice B ys.length CB]] w (aI w λv w'=>∃u,v=.tuple #[u,.int .i64 0]/\nl w.heap.size w' u k xs C0 (ar (S0 0) 0) (((ys.length:Nat):Int)-(k:Int))):=by
 refine aE func14 Z (I ?_);refine bx (λAq Aw O=>?_);have E:=Aw.2;refine al dD (λ_ As A2=>?_);have⟨O,E⟩:=bn As.2 O E;refine I ?_;refine aa (aF (vf:=[]) (vc:=[pT w.heap.size]) Z Z ?_);refine cl B3 (Lw (gf:=39) (lb:=[pT w.heap.size]) B4 (λW q=>Lz (hD.ext (xt E q)) ok (be q O) hk e (ht.ext (xt E q)))) ?_;rintro _ _ Ay ⟨B2,rfl,Ao,Af,Am,Ab,B1,rfl,Av,nm,Ar,Ax⟩;have⟨O,A2,E⟩:=cj Ay.2 O A2 E;have A1:=ab5 nm;have Ap:=ab1 Ax;refine I ?_;refine aa (bB (b:=Aq.heap.size) (o:=0) (vs:=[.slice Ao xs.length Af,.slice Am k Ab,S ((ar (S0 0) 0).1),S ((ar (S0 0) 0).2),.int .i64 (((ys.length:Nat):Int)-(k:Int))]) dJ Z Z Hx A2 (qa3 Z) (λ_ A0 Az=>?_));have O:=pb A0 O;have A1:=ab9 A0 U A1;have Ap:=ac5 A0 U Ap;have E:=bh A0 E;refine I ?_;refine aX (v:=.tuple #[.agg #[.slice Ao xs.length Af,.slice Am k Ab,S ((ar (S0 0) 0).1),S ((ar (S0 0) 0).2),.int .i64 (((ys.length:Nat):Int)-(k:Int))],.int .i64 0]) (cQ (r1:=.cell 2 40) (r2:=.tmp 3) Z ?_ ?_) E ⟨_,rfl,_,_,_,_,_,rfl,Av,((A1).rw).mono U,Ar,((Ap).mt).mono U⟩
 refine ai (t:=2) (cs:=[.slice Ao xs.length Af,.slice Am k Ab,S ((ar (S0 0) 0).1),S ((ar (S0 0) 0).2),.int .i64 (((ys.length:Nat):Int)-(k:Int))]) (b:=Aq.heap.size) (o:=0) nu Z dJ ?_ ?_;exact Z;exact aa0 Az (i:=0) Z;exact aM (t:=3) WD _
def LA {L V:Rows}{ys:List R}(hD:eE w A C Y CY B CB L V ys)(ok:fL L V ys){W0 B0 G0:Rows}(hk:(L 0).length=k)(hE:Er w a)(eW:eN ys.length V=some W0)(eB:dp k (λj=>l5 L ys.length j) ys.length W0=some B0)(eG:dp k B0 ys.length L=some G0)(eC:eN k G0=none)(ht:Tb w):
 CL 14 #[.agg #[.slice A ys.length C,.slice Y ys.length CY,.slice B ys.length CB]] w (aI w λv w'=>v=.tuple #[.agg #[.slice none 0 0,.slice none 0 0,S [],S [],.int .i64 0],.int .i64 140]):=by
 refine aE func14 Z (I ?_);refine bx (λA1 Ab O=>?_);have E:=Ab.2;refine al dD (λ_ Af A0=>?_);have⟨O,E⟩:=bn Af.2 O E;refine I ?_;refine aa (aF (vf:=[]) (vc:=[pT w.heap.size]) Z Z ?_);refine cl B3 (wX (gf:=39) (lb:=[pT w.heap.size]) (ad1 E hE) B4 (λW q=>Hh (hD.ext (xt E q)) ok (be q O) hk (ad1 (xt E q) hE) eW eB eG eC (ht.ext (xt E q)))) ?_;rintro _ _ Ao rfl;have⟨O,A0,E⟩:=cj Ao.2 O A0 E;refine I ?_;refine aa (bB (b:=A1.heap.size) (o:=0) (vs:=[.slice none 0 0,.slice none 0 0,S [],S [],.int .i64 0]) dJ Z Z Hx A0 (qa3 Z) (λ_ A2 Am=>?_));have O:=pb A2 O;have E:=bh A2 E;refine I ?_;refine aX (v:=.tuple #[.agg #[.slice none 0 0,.slice none 0 0,S [],S [],.int .i64 0],.int .i64 140]) (cQ (r1:=.cell 2 40) (r2:=.tmp 3) Z ?_ ?_) E Z;refine ai (t:=2) (cs:=[.slice none 0 0,.slice none 0 0,S [],S [],.int .i64 0]) (b:=A1.heap.size) (o:=0) nu Z dJ ?_ ?_;exact Z;exact aa0 Am (i:=0) Z;exact aM (t:=3) WD _
def XD :Mt w 0 none 0 (λ_=>.nilIface) pL:=⟨by simpa using Rw.nil w 0,λi h=>by omega,λi h=>by omega,λi h=>by omega⟩
def UI:vM 0 pL=false:=qa2 λh=>by have:=h.1;omega
def u9 (ht:Tb w):
 CL 32 #[.agg #[.slice none 0 0,.slice none 0 0,.slice none 0 0]] w (aI w λv w'=>v=.bool false):=by
 refine aE func32 Z (I ?_);refine bx (λ_ O _=>?_);have E:=O.2;refine I ?_;refine cl r7 (l8 (Y:=.bool false) (val_ok XD yD (ht.ext E)) (qb2 Value.bool UI)) ?_;rintro _ _ A0 rfl;have E:=xt E A0.2;refine I ?_;exact am (t:=2) (v:=.bool false) Z E Z Z
def Ds (hb:ao w b 30 #[.slice none 0 0,.slice none 0 0,.slice none 0 0])(hE:Er w a)(ht:Tb w):
 CL 39 #[pT b] w (k9 (pE a) w):=by
 refine gN func39 Z (I ?_);refine al dD (λ_ O _=>?_);have hb:=be O.2 hb;have E:=O.2;refine I ?_;(try refine aa (aN (cs:=[.slice none 0 0,.slice none 0 0,.slice none 0 0]) (b:=b) (o:=0) c8 Z bf Z (aa0 hb (i:=0) Z) ?_));refine cl lf (u9 (ht.ext E)) ?_;rintro _ _ A0 rfl;have E:=xt E A0.2;refine aa (c7 (vs:=[.bool false]) fe Z (oy (ad1 E hE)) (λ_ A1=>?_));have E:=xt E A1;refine I ?_;exact fj ⟨E,rfl⟩
def LB (hE:Er w a)(ht:Tb w):
 CL 14 #[.agg #[.slice none 0 0,.slice none 0 0,.slice none 0 0]] w (aI w λv w'=>v=.tuple #[.agg #[.slice none 0 0,.slice none 0 0,S [],S [],.int .i64 0],.int .i64 140]):=by
 refine aE func14 Z (I ?_);refine bx (λA1 Ab O=>?_);have E:=Ab.2;refine al dD (λ_ Af A0=>?_);have⟨O,E⟩:=bn Af.2 O E;refine I ?_;refine aa (aF (vf:=[]) (vc:=[pT w.heap.size]) Z Z ?_);refine cl B3 (wX (gf:=39) (lb:=[pT w.heap.size]) (ad1 E hE) B4 (λW q=>Ds (be q O) (ad1 (xt E q) hE) (ht.ext (xt E q)))) ?_;rintro _ _ Ao rfl;have⟨O,A0,E⟩:=cj Ao.2 O A0 E;refine I ?_;refine aa (bB (b:=A1.heap.size) (o:=0) (vs:=[.slice none 0 0,.slice none 0 0,S [],S [],.int .i64 0]) dJ Z Z Hx A0 (qa3 Z) (λ_ A2 Am=>?_));have O:=pb A2 O;have E:=bh A2 E;refine I ?_;refine aX (v:=.tuple #[.agg #[.slice none 0 0,.slice none 0 0,S [],S [],.int .i64 0],.int .i64 140]) (cQ (r1:=.cell 2 40) (r2:=.tmp 3) Z ?_ ?_) E Z;refine ai (t:=2) (cs:=[.slice none 0 0,.slice none 0 0,S [],S [],.int .i64 0]) (b:=A1.heap.size) (o:=0) nu Z dJ ?_ ?_;exact Z;exact aa0 Am (i:=0) Z;exact aM (t:=3) WD _
def LC {L V:Rows}{ys:List R}(hD:eE w A C Y CY B CB L V ys)(ok:fL L V ys){zs:List R}(hb:ao w b 30 #[.slice A ys.length C,.slice Y ys.length CY,.slice B ys.length CB])(hb2:ao w b2 28 #[.slice X zs.length CX])(hz:Rw w lo4 X (ag zs)){P:Rows}{rs:List R}(hzv:vM zs.length (bI zs)=true)(eP:dp ys.length L zs.length (bI zs)=some P)(hPl:∀i,i<ys.length->0<(P i).length)(hrl:rs.length=ys.length)(hr:∀i,i<ys.length->dx (ar ys i) (ar (P i) 0)=some (ar rs i))(ht:Tb w):
 CL 59 #[pT b,pT b2] w (aI w λv w'=>AT w.heap.size w' v rs):=by
 obtain⟨_,H,hM⟩:=hD.m;obtain⟨_,hy⟩:=hD.y;obtain⟨_,G,hV⟩:=hD.v;have C1:=(iG hzv).2.1;refine aE func59 Z (I ?_);(try refine aa (aN (cs:=[.slice A ys.length C,.slice Y ys.length CY,.slice B ys.length CB]) (b:=b) (o:=0) c8 Z bf Z (aa0 hb (i:=0) Z) ?_));refine cl lf (iK (hM.ext (aa1 _)) (k8 ok.hv) (hy.ext (aa1 _)) (hV.ext (aa1 _)) (k8 ok.hv3) hD.c ok.hv ok.hv3 ok.hVl ok.hLl ok.hyo ok.hp (ht.ext (aa1 _))) ?_;rintro _ _ A1 rfl;have⟨hb,hb2⟩:=gg A1.2 hb hb2;have E:=A1.2;refine cl fe di ?_;rintro _ O Ax rfl;have⟨hb,hb2,E⟩:=cj Ax.2 hb hb2 E;refine I ?_;refine bH 4 ?_;refine aB (λ_ _ A2 _=>by have hb:=be A2 hb;(try refine aa (aN (cs:=[.slice A ys.length C,.slice Y ys.length CY,.slice B ys.length CB]) (b:=b) (o:=0) c8 Z bf Z (aa0 hb (i:=0) Z) ?_));refine I ?_;exact aG) ?_;refine aB (λ_ _ _ _=>by refine aa (bR (vs:=[(0,.agg #[.slice A ys.length C,.slice Y ys.length CY,.slice B ys.length CB])]) (cells:=#[.slice A ys.length C,.slice Y ys.length CY,.slice B ys.length CB]) (pl:=[(0,3)]) nw oU q0 Z q0 ?_);refine I ?_;exact aG) ?_;refine sf ?_
 refine bC (fun(v:Value) (W:World)=>∃A C H,v=Value.slice A zs.length C/\zs.length<=C/\Mt W O.heap.size A zs.length H (bI zs)) (hs:=λ_ _ _ k h=>by obtain⟨A,C,H,e,c,r⟩:=h;exact⟨A,C,H,e,c,r.ext k⟩) (λ_ _ A0 _=>?_) ?_;refine clb xy (hc:=lI (hz.ext (xt E A0)) U) (hk:=?_);rintro _ _ B2 ⟨Cr,D1,CG,rfl,Aw,nm⟩;have As:=ab1 nm;refine I ?_;exact fs ⟨B2.2,⟨_,_,_,rfl,Aw,((As).mt).mono (by have:=bz A0;omega)⟩⟩;refine sf ?_;intro Ao B0 Ar Ap;have E:=xt E Ar.2;have ny:∃A C H,Ao 9=Value.slice A zs.length C/\zs.length<=C/\Mt B0 O.heap.size A zs.length H (bI zs):=(Ap 3 9 Z Z);(with_reducible obtain⟨_,_,_,Aq,_,B1⟩:=ny);have Ab:=ab1 B1;refine cl II (AV (hM.ext E) (k8 ok.hv) (hy.ext E) (hV.ext E) (k8 ok.hv3) hD.c ok.hv (Ab).mt (k8 hzv) eP (gw eP) hPl hrl hr (ht.ext E)) ?_ (au Z (au (by exact Aq) Z));rintro _ _ Ay ⟨Av,Af,rfl,Az,Am⟩;have E:=xt E Ay.2;have wr:=ab5 Am;refine I ?_;exact am (t:=2) (v:=.slice Av rs.length Af) Z E ⟨_,_,rfl,Az,((wr).rw).mono U⟩ Z
def Pu {L V:Rows}{ys:List R}(hD:eE w A C Y CY B CB L V ys)(ok:fL L V ys){zs:List R}(hz:Rw w lo4 X (ag zs)){P:Rows}{rs:List R}(hzv:vM zs.length (bI zs)=true)(eP:dp ys.length L zs.length (bI zs)=some P)(hPl:∀i,i<ys.length->0<(P i).length)(hrl:rs.length=ys.length)(hr:∀i,i<ys.length->dx (ar ys i) (ar (P i) 0)=some (ar rs i))(ht:Tb w):
 CL 24 #[.agg #[.slice A ys.length C,.slice Y ys.length CY,.slice B ys.length CB],.slice X zs.length CX] w (aI w λv w'=>∃u,v=.tuple #[u,.int .i64 0]/\AT w.heap.size w' u rs):=by
 obtain⟨_,H,_⟩:=hD.m;obtain⟨_,_⟩:=hD.y;obtain⟨_,G,_⟩:=hD.v;refine aE func24 Z (I ?_);refine bx (λA0 Ap O=>?_);have E:=Ap.2;refine bx (λ_ Ab Aq=>?_);have⟨O,E⟩:=bn Ab.2 O E;refine I ?_;refine aa (aF (vf:=[]) (vc:=[pT w.heap.size,pT A0.heap.size]) Z Z ?_);refine cl SP (Ly (gf:=59) (lb:=[pT w.heap.size,pT A0.heap.size]) SQ (λW q=>LC (hD.ext (xt E q)) ok (be q O) (be q Aq) (hz.ext (xt E q)) hzv eP hPl hrl hr (ht.ext (xt E q)))) ?_;rintro _ _ Af ⟨nm,rfl,Am,A2,rfl,A1,Ar⟩;have E:=xt E Af.2;have Ao:=ab5 Ar;refine I ?_;exact bw (t:=4) (u:=5) (v1:=.slice Am rs.length A2) (v2:=.int .i64 0) Z E ⟨_,rfl,_,_,rfl,A1,((Ao).rw).mono U⟩ Z Z
def Sc.fi {S:Nat}(h:Sc S):Fi S:=g8 h.lt dc
def LD (k:Nat):eA (49::List.replicate k 48)=List.replicate k 0++[1]:=by simp[eA]
def LE (k:Nat):bP 10 (List.replicate k 0++[1])=10^k:=by
 induction k with
 |zero=>rfl
 |succ k ih=>rw[List.replicate_succ,List.cons_append];show 0+10*bP 10 (List.replicate k 0++[1])=_;rw[ih,Nat.pow_succ];omega
def Pv (h:k<200):(49::List.replicate k 48:List UInt8)=nS (10^k):=by
 have h1:ef (49::List.replicate k 48)=true:=by
  simp only[ef,Bool.and_eq_true,Bool.or_eq_true,decide_eq_true_eq]
  refine⟨⟨⟨by simp,by simp;omega⟩,?_⟩,Or.inr JT⟩
  rw[List.all_cons,List.all_eq_true.2]
  · decide
  · intro x hx;rw[List.eq_of_mem_replicate hx];decide
 have h2:=tW h1
 have h3:aH (49::List.replicate k 48)=10^k:=by unfold aH;rw[LD,LE]
 rw[h3]at h2
 rw[<-h2];unfold nS ae
 rw[if_neg U,Int.natAbs_natCast]
def q7 (k:Nat):Lib.repeatL [48] k=List.replicate k 48:=by
 induction k with
 |zero=>rfl
 |succ k ih=>simp[Lib.repeatL,List.replicate_succ]at ih ⊢;exact ih
def p9 (h:k<200):([49]:List UInt8)++Lib.repeatL [48] k=nS (10^k):=by rw[q7,<-Pv h];rfl
def LF {a:Nat}(ha:a<10^199)(hb:b<10^199):Fz ((a:Int)-(b:Int)):=by unfold Fz;omega
def na (hp:pl<200)(ht:Tb w):
 CL 202 #[.int .i64 pl] w (aI w λv w'=>v=.agg #[.int .i64 pl,S (nS (10^pl))]):=by
 refine aE func202 Z (I ?_);refine al oT (λ_ A2 O=>?_);have E:=A2.2;refine I ?_;refine clb Ij (hc:=qM [48] pl _ U dc) (hk:=?_);rintro _ _ Ab rfl;have⟨O,E⟩:=bn Ab.2 O E;refine aa (xo (a:=[49]) (b:=Lib.repeatL [48] pl) Z Z (by rw[q7];simp;omega) ?_);refine I ?_;refine SA O (λ_ A1 A0=>?_);have E:=bh A1 E;refine I ?_;refine aX (v:=.agg #[.int .i64 pl,S (([49])++(Lib.repeatL [48] pl))]) (bY  rfl ?_) E (by rw[p9 hp]);refine ai (t:=2) (cs:=[.int .i64 pl,S (([49])++(Lib.repeatL [48] pl))]) (b:=w.heap.size) (o:=0) DW Z H9 ?_ ?_;exact Z;exact aa0 A0 (i:=0) Z
def gJ {a b:List UInt8}:
 CL 149 #[S a,S b] w (aI w λv w'=>v=.agg #[S a,S b]):=by
 refine aE func149 Z (I ?_);refine al aY (λ_ A2 O=>?_);have E:=A2.2;refine I ?_;refine SA O (λ_ A1 A0=>?_);have E:=bh A1 E;refine I ?_;refine aX (v:=.agg #[S a,S b]) (bY  rfl ?_) E Z;refine ai (t:=4) (cs:=[S a,S b]) (b:=w.heap.size) (o:=0) iO Z bV ?_ ?_;exact Z;exact aa0 A0 (i:=0) Z
def Pw {d:Nat}(hS:Sc sO)(hn:Fi n)(hd:Fi d)(h0:0<d)(hm:Fi (n*sO))(ht:Tb w):
 CL 188 #[.agg #[.int .i64 pl,S (nS sO)],.agg #[S (nS n),S (nS d)]] w (aI w λv w'=>v=.agg #[S (nS ((qk sO n d).1)),S (nS ((qk sO n d).2))]):=by
 refine aE func188 Z (I ?_);refine bx (λ_ ny O=>?_);have E:=ny.2;refine bx (λAr Am A0=>?_);have⟨O,E⟩:=bn Am.2 O E;refine al bN (λ_ Aq A1=>?_);have⟨O,A0,E⟩:=cj Aq.2 O A0 E;refine I ?_;refine cl iu (gd Z Z hn hS.fi hm (ht.ext E)) ?_;rintro _ _ Ao rfl;have⟨O,A0,A1,E⟩:=eY Ao.2 O A0 A1 E;refine I ?_;refine bH 7 ?_;refine sf ?_;refine aR (V:=S (nS ((n*sO)/d))) (λ_ _ As _=>?_) ?_;refine cl xu (pU Z Z hm hd h0 (ht.ext (xt E As))) ?_;rintro _ _ Af rfl;have od:=Af.2;refine I ?_;exact fs ⟨od,rfl⟩;refine sf ?_;intro _ _ Ap _;have⟨O,A0,A1,E⟩:=eY Ap.2 O A0 A1 E;refine cl xx (yx Z Z hm hd h0 (ht.ext E)) ?_;rintro _ _ Ab rfl;have⟨O,A0,A1,E⟩:=eY Ab.2 O A0 A1 E;refine I ?_;refine SA A1 (λ_ A2 Av=>?_);have⟨O,A0⟩:=kI A2 O A0;have E:=bh A2 E;refine I ?_;refine aX (v:=.agg #[S (nS ((n*sO)/d)),S (nS (sZ (n*sO) d))]) (bY  rfl ?_) E Z;refine ai (t:=4) (cs:=[S (nS ((n*sO)/d)),S (nS (sZ (n*sO) d))]) (b:=Ar.heap.size) (o:=0) jn Z fw ?_ ?_;exact Z;exact aa0 Av (i:=0) Z
def iL (hS:Sc sO)(h9:n<10^9)(hm:Fi (n*sO))(ht:Tb w):
 CL 191 #[.agg #[.int .i64 pl,S (nS sO)],.int .i64 n] w (aI w λv w'=>v=.agg #[S (nS ((n*sO,n*sO).1)),S (nS ((n*sO,n*sO).2))]):=by
 have Ao:Fi n:=g8 (k:=9) h9 dc;refine aE func191 Z (I ?_);refine bx (λAm As O=>?_);have E:=As.2;refine al bN (λ_ A2 A0=>?_);have⟨O,E⟩:=bn A2.2 O E;refine I ?_;refine bH 4 ?_;refine sf ?_;refine aR (V:=S (nS n)) (λ_ _ Ar _=>?_) ?_;refine cl tz (uS h9 (ht.ext (xt E Ar))) ?_;rintro _ _ Ap rfl;have Aq:=Ap.2;refine I ?_;exact fs ⟨Aq,rfl⟩;refine sf ?_;intro _ _ Af _;have⟨O,A0,E⟩:=cj Af.2 O A0 E;refine cl iu (gd Z Z Ao hS.fi hm (ht.ext E)) ?_;rintro _ _ Ab rfl;have⟨O,A0,E⟩:=cj Ab.2 O A0 E;refine I ?_;refine SA A0 (λ_ A1 nm=>?_);have O:=pb A1 O;have E:=bh A1 E;refine I ?_;refine aX (v:=.agg #[S (nS (n*sO)),S (nS (n*sO))]) (bY  rfl ?_) E Z;refine ai (t:=4) (cs:=[S (nS (n*sO)),S (nS (n*sO))]) (b:=Am.heap.size) (o:=0) jn Z fw ?_ ?_;exact Z;exact aa0 nm (i:=0) Z
def Hi {a b:N2}(h1:Fi (a.1+b.1))(h2:Fi (a.2+b.2))(ht:Tb w):
 CL 223 #[.agg #[.int .i64 pl,S (nS sO)],.agg #[S (nS a.1),S (nS a.2)],.agg #[S (nS b.1),S (nS b.2)]] w (aI w λv w'=>v=.agg #[S (nS ((Rt a b).1)),S (nS ((Rt a b).2))]):=by
 refine aE func223 Z (I ?_);refine bx (λ_ Av O=>?_);have E:=Av.2;refine bx (λ_ Ax A0=>?_);have⟨O,E⟩:=bn Ax.2 O E;refine bx (λAf od A1=>?_);have⟨O,A0,E⟩:=cj od.2 O A0 E;refine al bN (λ_ Ar A2=>?_);have⟨O,A0,A1,E⟩:=eY Ar.2 O A0 A1 E;refine I ?_;refine bH 9 ?_;refine sf ?_;refine aR (V:=S (nS (a.1+b.1))) (λ_ _ Ap _=>?_) ?_;refine cl ml (kf Z Z h1 (ht.ext (xt E Ap))) ?_;rintro _ _ Am rfl;have As:=Am.2;refine I ?_;exact fs ⟨As,rfl⟩;refine sf ?_;intro _ _ Ao _;have⟨O,A0,A1,A2,E⟩:=kv Ao.2 O A0 A1 A2 E;refine cl ml (kf Z Z h2 (ht.ext E)) ?_;rintro _ _ Aq rfl;have⟨O,A0,A1,A2,E⟩:=kv Aq.2 O A0 A1 A2 E;refine I ?_;refine SA A2 (λ_ Ab Aw=>?_);have⟨O,A0,A1⟩:=mO Ab O A0 A1;have E:=bh Ab E;refine I ?_;refine aX (v:=.agg #[S (nS (a.1+b.1)),S (nS (a.2+b.2))]) (bY  rfl ?_) E Z;refine ai (t:=6) (cs:=[S (nS (a.1+b.1)),S (nS (a.2+b.2))]) (b:=Af.heap.size) (o:=0) jn Z fw ?_ ?_;exact Z;exact aa0 Aw (i:=0) Z
def vd {a b:N2}(ha:Bk 199 a)(hb:Bk 199 b)(ht:Tb w):
 CL 197 #[.agg #[.int .i64 pl,S (nS sO)],.agg #[S (nS a.1),S (nS a.2)],.agg #[S (nS b.1),S (nS b.2)]] w (aI w λv w'=>v=.agg #[S (ae ((BD a b).1)),S (ae ((BD a b).2))]):=by
 have Am:=ha.fi dc;have Af:=hb.fi dc;refine aE func197 Z (I ?_);refine bx (λ_ Az O=>?_);have E:=Az.2;refine bx (λ_ Av A0=>?_);have⟨O,E⟩:=bn Av.2 O E;refine bx (λAo od A1=>?_);have⟨O,A0,E⟩:=cj od.2 O A0 E;refine al bN (λ_ Ar A2=>?_);have⟨O,A0,A1,E⟩:=eY Ar.2 O A0 A1 E;refine I ?_;refine bH 9 ?_;refine sf ?_;refine aR (V:=S (ae (((a.1:Nat):Int)-((b.2:Nat):Int)))) (λ_ _ Aw _=>?_) ?_;refine cl Ir (Fy Z Z Am.1.z Af.2.z (LF ha.1 hb.2) (ht.ext (xt E Aw))) ?_;rintro _ _ Ap rfl;have Ay:=Ap.2;refine I ?_;exact fs ⟨Ay,rfl⟩;refine sf ?_;intro _ _ Aq _;have⟨O,A0,A1,A2,E⟩:=kv Aq.2 O A0 A1 A2 E;refine cl Ir (Fy Z Z Am.2.z Af.1.z (LF ha.2 hb.1) (ht.ext E)) ?_;rintro _ _ Ax rfl;have⟨O,A0,A1,A2,E⟩:=kv Ax.2 O A0 A1 A2 E;refine I ?_;refine SA A2 (λ_ Ab As=>?_);have⟨O,A0,A1⟩:=mO Ab O A0 A1;have E:=bh Ab E;refine I ?_;refine aX (v:=.agg #[S (ae (((a.1:Nat):Int)-((b.2:Nat):Int))),S (ae (((a.2:Nat):Int)-((b.1:Nat):Int)))]) (bY  rfl ?_) E Z;refine ai (t:=6) (cs:=[S (ae (((a.1:Nat):Int)-((b.2:Nat):Int))),S (ae (((a.2:Nat):Int)-((b.1:Nat):Int)))]) (b:=Ao.heap.size) (o:=0) jn Z fw ?_ ?_;exact Z;exact aa0 As (i:=0) Z
def gK {a b:N2}(hS:Sc sO)(ha:Bk 95 a)(hb:Bk 95 b)(ht:Tb w):
 CL 193 #[.agg #[.int .i64 pl,S (nS sO)],.agg #[S (nS a.1),S (nS a.2)],.agg #[S (nS b.1),S (nS b.2)]] w (aI w λv w'=>v=.agg #[S (nS ((m9 sO a b).1)),S (nS ((m9 sO a b).2))]):=by
 have Am:=ha.fi dc;have Af:=hb.fi dc;refine aE func193 Z (I ?_);refine bx (λ_ Aw O=>?_);have E:=Aw.2;refine bx (λ_ Ax A0=>?_);have⟨O,E⟩:=bn Ax.2 O E;refine bx (λC1 D1 A1=>?_);have⟨O,A0,E⟩:=cj D1.2 O A0 E;refine al bN (λ_ Aq A2=>?_);have⟨O,A0,A1,E⟩:=eY Aq.2 O A0 A1 E;refine I ?_;refine bH 15 ?_;refine sf ?_;refine aR (V:=S (nS (a.1*b.1))) (λ_ _ Ay _=>?_) ?_;refine clb iu (hc:=gd Z Z Am.1 Af.1 (fK ha.1 hb.1 dc) (ht.ext (xt E Ay))) (hk:=?_);rintro _ _ Ap rfl;have B1:=Ap.2;refine I ?_;exact fs ⟨B1,rfl⟩;refine sf ?_;refine aR (V:=S (nS ((a.1*b.1)/sO))) (λ_ _ Ar _=>?_) ?_;refine clb xu (hc:=pU Z Z (fK ha.1 hb.1 dc) hS.fi hS.pos (ht.ext (xt E Ar))) (hk:=?_);rintro _ _ Az rfl;have Cr:=Az.2;refine I ?_;exact fs ⟨Cr,rfl⟩;refine sf ?_;refine aR (V:=S (nS (a.2*b.2))) (λ_ _ Ao _=>?_) ?_;refine clb iu (hc:=gd Z Z Am.2 Af.2 (fK ha.2 hb.2 dc) (ht.ext (xt E Ao))) (hk:=?_);rintro _ _ B2 rfl;have CG:=B2.2;refine I ?_;exact fs ⟨CG,rfl⟩;refine sf ?_;intro _ _ B0 _;have⟨O,A0,A1,A2,E⟩:=kv B0.2 O A0 A1 A2 E;refine clb xx (hc:=yx Z Z (fK ha.2 hb.2 dc) hS.fi hS.pos (ht.ext E)) (hk:=?_);rintro _ _ Av rfl;have⟨O,A0,A1,A2,E⟩:=kv Av.2 O A0 A1 A2 E;refine I ?_;refine SA A2 (λ_ Ab As=>?_);have⟨O,A0,A1⟩:=mO Ab O A0 A1
 have E:=bh Ab E;refine I ?_;refine aX (v:=.agg #[S (nS ((a.1*b.1)/sO)),S (nS (sZ (a.2*b.2) sO))]) (bY  rfl ?_) E Z;refine ai (t:=6) (cs:=[S (nS ((a.1*b.1)/sO)),S (nS (sZ (a.2*b.2) sO))]) (b:=C1.heap.size) (o:=0) jn Z fw ?_ ?_;exact Z;exact aa0 As (i:=0) Z
def wY {a b:N2}(hS:Sc sO)(ha:Bk 95 a)(hb:Bk 190 b)(h1:0<b.1)(h2:0<b.2)(ht:Tb w):
 CL 198 #[.agg #[.int .i64 pl,S (nS sO)],.agg #[S (nS a.1),S (nS a.2)],.agg #[S (nS b.1),S (nS b.2)]] w (aI w λv w'=>v=.agg #[S (nS ((vW sO a b).1)),S (nS ((vW sO a b).2))]):=by
 have Am:=ha.fi dc;have Af:=hb.fi dc;refine aE func198 Z (I ?_);refine bx (λ_ Aw O=>?_);have E:=Aw.2;refine bx (λ_ Ax A0=>?_);have⟨O,E⟩:=bn Ax.2 O E;refine bx (λC1 D1 A1=>?_);have⟨O,A0,E⟩:=cj D1.2 O A0 E;refine al bN (λ_ Aq A2=>?_);have⟨O,A0,A1,E⟩:=eY Aq.2 O A0 A1 E;refine I ?_;refine bH 15 ?_;refine sf ?_;refine aR (V:=S (nS (a.1*sO))) (λ_ _ Ay _=>?_) ?_;refine clb iu (hc:=gd Z Z Am.1 hS.fi (fK ha.1 hS.lt dc) (ht.ext (xt E Ay))) (hk:=?_);rintro _ _ Ap rfl;have B1:=Ap.2;refine I ?_;exact fs ⟨B1,rfl⟩;refine sf ?_;refine aR (V:=S (nS ((a.1*sO)/b.2))) (λ_ _ Ar _=>?_) ?_;refine clb xu (hc:=pU Z Z (fK ha.1 hS.lt dc) Af.2 h2 (ht.ext (xt E Ar))) (hk:=?_);rintro _ _ Az rfl;have Cr:=Az.2;refine I ?_;exact fs ⟨Cr,rfl⟩;refine sf ?_;refine aR (V:=S (nS (a.2*sO))) (λ_ _ Ao _=>?_) ?_;refine clb iu (hc:=gd Z Z Am.2 hS.fi (fK ha.2 hS.lt dc) (ht.ext (xt E Ao))) (hk:=?_);rintro _ _ B2 rfl;have CG:=B2.2;refine I ?_;exact fs ⟨CG,rfl⟩;refine sf ?_;intro _ _ B0 _;have⟨O,A0,A1,A2,E⟩:=kv B0.2 O A0 A1 A2 E;refine clb xx (hc:=yx Z Z (fK ha.2 hS.lt dc) Af.1 h1 (ht.ext E)) (hk:=?_);rintro _ _ Av rfl;have⟨O,A0,A1,A2,E⟩:=kv Av.2 O A0 A1 A2 E;refine I ?_;refine SA A2 (λ_ Ab As=>?_);have⟨O,A0,A1⟩:=mO Ab O A0 A1;have E:=bh Ab E
 refine I ?_;refine aX (v:=.agg #[S (nS ((a.1*sO)/b.2)),S (nS (sZ (a.2*sO) b.1))]) (bY  rfl ?_) E Z;refine ai (t:=6) (cs:=[S (nS ((a.1*sO)/b.2)),S (nS (sZ (a.2*sO) b.1))]) (b:=C1.heap.size) (o:=0) jn Z fw ?_ ?_;exact Z;exact aa0 As (i:=0) Z
def lK {a:N2}{d:Nat}(ha:Bk 190 a)(hn:n<10^9)(hd:d<10^9)(h0:0<d)(ht:Tb w):
 CL 187 #[.agg #[.int .i64 pl,S (nS sO)],.agg #[S (nS a.1),S (nS a.2)],.int .i64 n,.int .i64 d] w (aI w λv w'=>v=.agg #[S (nS ((lH a n d).1)),S (nS ((lH a n d).2))]):=by
 have A2:=ha.fi dc;refine aE func187 Z (I ?_);refine bx (λ_ wr O=>?_);have E:=wr.2;refine bx (λB0 As A0=>?_);have⟨O,E⟩:=bn As.2 O E;refine al bN (λ_ Am A1=>?_);have⟨O,A0,E⟩:=cj Am.2 O A0 E;refine I ?_;refine cl tz (uS hn (ht.ext E)) ?_;rintro _ _ Ax rfl;have⟨O,A0,A1,E⟩:=eY Ax.2 O A0 A1 E;refine I ?_;refine cl tz (uS hd (ht.ext E)) ?_;rintro _ _ Af rfl;have⟨O,A0,A1,E⟩:=eY Af.2 O A0 A1 E;refine I ?_;refine bH 11 ?_;refine sf ?_;refine aR (V:=S (nS (a.1*n))) (λ_ _ Ao _=>?_) ?_;refine clb iu (hc:=gd Z Z A2.1 (g8 hn dc) (fK ha.1 hn dc) (ht.ext (xt E Ao))) (hk:=?_);rintro _ _ Ay rfl;have Av:=Ay.2;refine I ?_;exact fs ⟨Av,rfl⟩;refine sf ?_;refine aR (V:=S (nS ((a.1*n)/d))) (λ_ _ Ab _=>?_) ?_;refine clb xu (hc:=pU Z Z (fK ha.1 hn dc) (g8 hd dc) h0 (ht.ext (xt E Ab))) (hk:=?_);rintro _ _ B1 rfl;have C1:=B1.2;refine I ?_;exact fs ⟨C1,rfl⟩;refine sf ?_;refine aR (V:=S (nS (a.2*n))) (λ_ _ Az _=>?_) ?_;refine clb iu (hc:=gd Z Z A2.2 (g8 hn dc) (fK ha.2 hn dc) (ht.ext (xt E Az))) (hk:=?_);rintro _ _ Ap rfl;have Aw:=Ap.2;refine I ?_;exact fs ⟨Aw,rfl⟩;refine sf ?_;intro _ _ Ar _;have⟨O,A0,A1,E⟩:=eY Ar.2 O A0 A1 E;refine clb xx (hc:=yx Z Z (fK ha.2 hn dc) (g8 hd dc) h0 (ht.ext E)) (hk:=?_)
 rintro _ _ Aq rfl;have⟨O,A0,A1,E⟩:=eY Aq.2 O A0 A1 E;refine I ?_;refine SA A1 (λ_ nm B2=>?_);have⟨O,A0⟩:=kI nm O A0;have E:=bh nm E;refine I ?_;refine aX (v:=.agg #[S (nS ((a.1*n)/d)),S (nS (sZ (a.2*n) d))]) (bY  rfl ?_) E Z;refine ai (t:=8) (cs:=[S (nS ((a.1*n)/d)),S (nS (sZ (a.2*n) d))]) (b:=B0.heap.size) (o:=0) jn Z fw ?_ ?_;exact Z;exact aa0 B2 (i:=0) Z
end
end Go.Proofs.YtlmihmlnpjkblaaGreatDoor
