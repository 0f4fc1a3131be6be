/- Part of the proof of a statement about an adjustment. -/
import Derived.Test.YtlmihmlnpjkblaaGreatDoorLin13ToLa1L
set_option linter.all false
namespace La
variable {k i n p:Nat}
def sg (i:Nat):Rat:=if i%2=0 then 1 else -1
def sM (i:Nat):sg (i+1)= -sg i:=by
 unfold sg
 rcases Nat.mod_two_eq_zero_or_one i with h|h
 · rw[if_neg J,if_pos h]
 · rw[if_pos J,if_neg J];grind
def mn (i:Nat)(A:Mx):Mx:=λr c=>A (sk i r) (c+1)
def det:Nat->Mx->Rat
 |0,_=>1
 |n+1,A=>sm (n+1) λi=>sg i*A i 0*det n (mn i A)
def mr (k:Nat)(A:Mx):Mx:=λr c=>A (r+1) (sk k c)
def AH:Nat->Mx->Rat
 |0,_=>1
 |n+1,A=>sm (n+1) λk=>sg k*A 0 k*AH n (mr k A)
def Rs (h:i<n):sk k i<n+1:=by unfold sk;split <;>omega
def e8:∀{n:Nat} {A B:Mx},jV n n A B->det n A=det n B
 |0,_,_,_=>rfl
 | n+1,A,B,h=>au λi hi=>by
   rw[h i hi 0 J,e8 (A:=mn i A) (B:=mn i B) λr hr c hc=>h _ (Rs hr) _ J]
def Ld:∀(n:Nat) (A:Mx),det n (tr A)=AH n A
 |0,_=>rfl
 | n+1,A=>au λi _=>by
   show sg i*A 0 i*det n (mn i (tr A))=_
   rw[show mn i (tr A)=tr (mr i A)from rfl,Ld n]
def g6 (f:Nat->Rat):∀n,sm (n+1) f=f 0+sm n (λi=>f (i+1))
 |0=>by simp only[sm];grind
 | n+1=>by
   rw[show sm (n+1+1) f=sm (n+1) f+f (n+1)from rfl,g6 f n]
   simp only[sm];grind
def sk0 (r:Nat):sk 0 r=r+1:=by simp[sk]
def Rt (i:Nat):sk (i+1) 0=0:=by simp[sk]
def Ru (i r:Nat):sk (i+1) (r+1)=sk i r+1:=by unfold sk;split <;>split <;>omega
def pS:∀(n:Nat) (A:Mx),det n A=AH n A
 |0,_=>rfl
 |1,A=>by simp[det,AH,sm]
 | n +2,A=>by
   rw[det,g6,AH,g6 (λk=>sg k*A 0 k*AH (n+1) (mr k A))]
   have h0:mn 0 A=mr 0 A:=by funext r c;simp[mn,mr,sk0]
   rw[h0,pS (n+1) (mr 0 A)]
   let D:Nat->Nat->Mx:=λi k r c=>A (sk i r+1) (sk k c+1)
   have h1:∀i,i<n+1->sg (i+1)*A (i+1) 0*det (n+1) (mn (i+1) A)=sm (n+1) λk=> -(sg i*sg k)*(A (i+1) 0*A 0 (k+1))*det n (D i k):=by
    intro i _
    rw[pS (n+1),AH,<-dm]
    refine au λk _=>?_
    rw[show mr k (mn (i+1) A)=D i k by funext r c;simp[mr,mn,D,Ru],<-pS n,sM]
    show _*(sg k*A (sk (i+1) 0) (k+1)*_)=_
    rw[Rt];grind
   have h2:∀k,k<n+1->sg (k+1)*A 0 (k+1)*AH (n+1) (mr (k+1) A)=sm (n+1) λi=> -(sg i*sg k)*(A (i+1) 0*A 0 (k+1))*det n (D i k):=by
    intro k _
    rw[<-pS (n+1),det,<-dm]
    refine au λi _=>?_
    rw[show mn i (mr (k+1) A)=D i k by funext r c;simp[mr,mn,D,Ru],sM]
    show _*(sg i*A (i+1) (sk (k+1) 0)*_)=_
    rw[Rt];grind
   rw[au h1,au h2,iO]
def kr (n:Nat)(A:Mx):det n (tr A)=det n A:=by rw[Ld,pS]
def ur (A:Mx)(k:Nat)(u:Nat->Rat):Mx:=λi j=>if i=k then u j else A i j
def ou {A:Mx}{u:Nat->Rat}:mn k (ur A k u)=mn k A:=by
 funext r c;unfold mn ur;rw[if_neg (by unfold sk;split <;>omega)]
def pk (i k:Nat):Nat:=if k<i then k else k-1
def Le {A:Mx}{u:Nat->Rat}(h:i≠k):mn i (ur A k u)=ur (mn i A) (pk i k) (λj=>u (j+1)):=by
 funext r c;unfold mn ur
 have:(sk i r=k)↔(r=pk i k):=by unfold sk pk;split <;>split <;>omega
 by_cases e:sk i r=k
 · rw[if_pos e,if_pos (this.1 e)]
 · rw[if_neg e,if_neg (λh=>e (this.2 h))]
def sN:∀(n:Nat) (A:Mx) (k:Nat) (u v:Nat->Rat) (c:Rat),k<n->det n (ur A k (λj=>u j+c*v j))=det n (ur A k u)+c*det n (ur A k v)
 |0,_,_,_,_,_,h=>absurd h J
 | n +1,A,k,u,v,c,h=>by
   simp only[det]
   rw[<-dm,<-lH]
   refine au λi hi=>?_
   by_cases e:i=k
   · subst e
     rw[ou,ou,ou]
     simp only[ur,if_true];grind
   · rw[Le e,Le e,Le e,sN n _ _ (λj=>u (j+1)) (λj=>v (j+1)) c (by unfold pk;split <;>omega)]
     simp only[ur,if_neg e];grind
def sP (A:Mx)(k:Nat):ur A k (A k)=A:=by funext i j;unfold ur;split <;>simp_all
def wR {A:Mx}(u:Nat->Rat)(c:Rat)(h:k<n):det n (ur A k (λj=>c*u j))=c*det n (ur A k u):=by
 have h1:=sN n A k u u (c-1) h
 rw[show(λj=>u j+(c-1)*u j)=λj=>c*u j by funext j;grind]at h1
 rw[h1];grind
def AI {A:Mx}(h:k<n)(hz:∀j,j<n->A k j=0):det n A=0:=by
 have h1:=wR (A:=A) (A k) 0 h
 rw[sP]at h1
 rw[<-Rat.zero_mul (det n A),<-h1]
 refine e8 λi _ j E=>?_
 unfold ur
 split
 · rename_i e;subst e;rw[hz j E];grind
 · rfl
def sa (k i:Nat):Nat:=if i=k then k+1 else if i=k+1 then k else i
def Rv (f:Nat->Rat)(k:Nat):∀n,k+1<n->sm n (λi=>f (sa k i))=sm n f
 |0,h=>absurd h J
 | n +1,h=>by
   by_cases e:k+1=n
   · subst e
     show sm k (λi=>f (sa k i))+f (sa k k)+f (sa k (k+1))=sm k f+f k+f (k+1)
     rw[au (g:=f) (n:=k) (λi hi=>by unfold sa;rw[if_neg J,if_neg J])]
     rw[show sa k k=k+1 by simp[sa],show sa k (k+1)=k by simp[sa]];grind
   · show sm n (λi=>f (sa k i))+f (sa k n)=sm n f+f n
     rw[Rv f k n J,show sa k n=n by unfold sa;rw[if_neg J,if_neg J]]
def UC {r:Nat}:sa i (sk i r)=sk (i+1) r:=by unfold sa sk;grind
def UD {r:Nat}:sa k (sk (k+1) r)=sk k r:=by unfold sa sk;grind
def UE {r:Nat}(e1:¬i=k)(e2:¬i=k+1):sa k (sk i r)=sk i (sa (if k<i then k else k-1) r):=by unfold sa sk;grind
def uO:∀(n:Nat) (A:Mx) (k:Nat),k+1<n->det n (λi j=>A (sa k i) j)= -det n A
 |0,_,_,h=>absurd h J
 | n + 1,A,k,h=>by
   simp only[det]
   rw[<-Rv (λi=>sg i*A i 0*det n (mn i A)) k (n+1) h,show∀x:Rat,- x=(-1)*x by intro x;grind,<-dm]
   refine au λi hi=>?_
   by_cases e1:i=k
   · subst e1
     rw[show mn i (λi' j=>A (sa i i') j)=mn (i+1) A by
      funext r c;show A (sa i (sk i r)) (c+1)=A (sk (i+1) r) (c+1);rw[UC]]
     rw[show sa i i=i+1 by simp[sa],sM];grind
   · by_cases e2:i=k+1
     · subst e2
       rw[show mn (k+1) (λi' j=>A (sa k i') j)=mn k A by
        funext r c;show A (sa k (sk (k+1) r)) (c+1)=A (sk k r) (c+1);rw[UD]]
       rw[show sa k (k+1)=k by simp[sa],sM];grind
     · rw[show sa k i=i by unfold sa;rw[if_neg e1,if_neg e2]]
       rw[show mn i (λi' j=>A (sa k i') j)=λr j=>mn i A (sa (if k<i then k else k-1) r) j by
        funext r c;show A (sa k (sk i r)) (c+1)=A (sk i (sa (if k<i then k else k-1) r)) (c+1);rw[UE e1 e2]]
       rw[uO n _ _ kd2];grind
def sx (p r i:Nat):Nat:=if i=p then r else if i=r then p else i
def Df:∀(d n:Nat) (A:Mx) (p:Nat),p+d+1<n->det n (λi j=>A (sx p (p+d+1) i) j)= -det n A
 | 0,n,A,p,h=>by
   rw[show(λi j=>A (sx p (p+0+1) i) j)=λi j=>A (sa p i) j from rfl];exact uO n A p h
 | d +1,n,A,p,h=>by
   have h1:=uO n (λi j=>A (sx (p+1) (p+1+d+1) (sa p i)) j) p J
   have h2:=Df d n (λi j=>A (sa p i) j) (p+1) J
   have h3:=uO n A p J
   have h4:=uO n (λi j=>A (sa p (sx (p+1) (p+1+d+1) i)) j) p J
   rw[show(λi j=>A (sx p (p+(d+1)+1) i) j)=λi j=>A (sa p (sx (p+1) (p+1+d+1) (sa p i))) j by
    funext i j;congr 1;unfold sx sa;split <;>(try split) <;>(try split) <;>(try split) <;>(try split) <;>(try split) <;>(try split) <;>omega]
   rw[h4,h2,h3];grind
def AJ {A:Mx}{r:Nat}(hp:p<n)(hr:r<n)(hne:p≠r):det n (λi j=>A (sx p r i) j)= -det n A:=by
 rcases Nat.lt_or_gt_of_ne hne with h|h
 · obtain⟨d,rfl⟩:∃d,r=p+d+1:=⟨r-p-1,by omega⟩
   exact Df d n A p hr
 · obtain⟨d,rfl⟩:∃d,p=r+d+1:=⟨p-r-1,by omega⟩
   rw[<-Df d n A r hp]
   congr 1
   funext i j;congr 1;unfold sx;split <;>split <;>(try split) <;>omega
def AK {A:Mx}{r:Nat}(hp:p<n)(hr:r<n)(hne:p≠r)(h:∀j,j<n->A p j=A r j):det n A=0:=by
 have h1:=AJ (A:=A) hp hr hne
 rw [e8 (A:=λi j=>A (sx p r i) j) (B:=A) (λi _ j E=>by
  show A (sx p r i) j=A i j
  unfold sx;split
  · rename_i e;rw[e,h j E]
  · split
    · rename_i e;rw[e,h j E]
    · rfl)]at h1
 grind
def Dh {A:Mx}(c:Rat)(hi:i<n)(hk:k<n)(hne:i≠k):det n (ur A i (λj=>A i j+c*A k j))=det n A:=by
 rw[sN n A i (A i) (A k) c hi,sP,AK (A:=ur A i (A k)) hi hk hne (λj _=>by unfold ur;rw[if_pos Z,if_neg (λe=>hne e.symm)])]
 grind
def yv:∀n,det n one=1
 |0=>rfl
 | n+1=>by
   rw[det,g6,dO (n:=n) (λi _=>by unfold one;rw[if_neg J];grind)]
   rw[e8 (A:=mn 0 one) (B:=one) (λi _ j _=>by unfold mn one;rw[sk0];simp),yv n]
   unfold one sg;simp;grind
end La
namespace Go.Proofs.YtlmihmlnpjkblaaGreatDoor
open Go Go.Eng Go.RowKit Tryz
variable {a u s d:Int}{lb:List Value}{b n N D N' D' lo lo' i k C CY CB lo2 lo3 CX lo4 gf b2 pl sO:Nat}{H G F:Nat->Value}{A Y B X:Option Addr}{x y:Rat}{v:Value}{W W' w w':World}
section
def qv (a:R):Rat:=(ah a.1:Rat)/(ah a.2:Rat)
def Pb {a:R}(h:bJ a=true):Int.gcd (ah a.1) (ah a.2)=1:=by
 have h1:=ii h
 have h2:=fK h
 simp only[bJ,Bool.and_eq_true,decide_eq_true_eq]at h
 have h3:=h.2
 unfold bP ba at h3
 rw[h1,h2,Bool.and_self,if_pos Z]at h3
 split at h3
 · have h4:ae ((Int.gcd (ah a.1) (ah a.2):Nat):Int)=ae 1:=by
    have:ae 1=[49]:=by decide +kernel
    rw[this];exact qb5 h3
   have:=mQ h4
   omega
 · cases h3
def mI {b:Int}(h:(a:Rat)=b):a=b:=by simpa using h
def dK (h:a≠0):(a:Rat)≠0:=λe=>h (mI (by simpa using e))
def g7 {a:R}(h:bJ a=true):(ah a.2:Rat)≠0:=dK (by have:=cE h;omega)
def uP {a:R}(h:bJ a=true)(hs:s≠0)(hq:qv a=(u:Rat)/(s:Rat)):ah a.1*s=u*ah a.2:=by
 have h1:=g7 h
 have h2:=dK hs
 unfold qv at hq
 refine mI ?_
 rw[Rat.intCast_mul,Rat.intCast_mul]
 grind
def uQ {b c:Int}(h:a∣b*c)(hg:Int.gcd a c=1):a∣b:=by
 have h1:a.natAbs∣b.natAbs*c.natAbs:=by rw[<-Int.natAbs_mul];exact Int.natAbs_dvd_natAbs.2 h
 exact Int.natAbs_dvd_natAbs.1 (Nat.Coprime.dvd_of_dvd_mul_right (show Nat.Coprime a.natAbs c.natAbs from hg) h1)
def Pd {a:R}(h:bJ a=true)(hs:s≠0)(hq:qv a=(u:Rat)/(s:Rat)):ah a.1∣u/\ah a.2∣s:=by
 have hc:=uP h hs hq
 have E:=Pb h
 constructor
 · exact uQ (c:=ah a.2) ⟨s,by rw[<-hc]⟩ E
 · exact uQ (c:=ah a.1) ⟨u,by rw[Int.mul_comm,hc,Int.mul_comm]⟩ (by rw[Int.gcd_comm];exact E)
def kT {b:Int}(hb:b≠0)(h:a∣b):a.natAbs<=b.natAbs:=Nat.le_of_dvd U (Int.natAbs_dvd_natAbs.2 h)
def UF {a:R}(h:bJ a=true)(hs:s≠0)(hq:qv a=(u:Rat)/(s:Rat)):(ah a.1).natAbs<=u.natAbs:=by
 by_cases hu:u=0
 · have:=uP h hs hq
   subst hu
   have E:ah a.1*s=0:=by rw[this];simp
   rcases Int.mul_eq_zero.1 E with e|e
   · rw[e];simp
   · exact absurd e hs
 · exact kT hu (Pd h hs hq).1
def UG {a:R}(h:bJ a=true)(hs:s≠0)(hq:qv a=(u:Rat)/(s:Rat)):(ah a.2).natAbs<=s.natAbs:=kT hs (Pd h hs hq).2
def yw {a b:R}(ha:bJ a=true)(hb:bJ b=true)(h:qv a=qv b):a=b:=by
 have O:=cE ha
 have pb:=cE hb
 have h1:=Pd ha (u:=ah b.1) (s:=ah b.2) U h
 have h2:=Pd hb (u:=ah a.1) (s:=ah a.2) U h.symm
 have e2:ah a.2=ah b.2:=Int.dvd_antisymm U U h1.2 h2.2
 have hc:=uP ha (u:=ah b.1) (s:=ah b.2) U h
 rw[e2]at hc
 have E:ah a.1=ah b.1:=Int.eq_of_mul_eq_mul_right U hc
 exact Prod.ext (tR (ii ha) (ii hb) E) (tR (fK ha) (fK hb) e2)
def mJ:qv z0=0:=by
 unfold qv z0;rw[show ah [48]=0 by decide +kernel];simp;grind
def Rx:qv o1=1:=by
 unfold qv o1;rw[show ah [49]=1 by decide +kernel];simp;grind
def Fo {a:R}(h:bJ a=true):qv a=0↔a=z0:=
 ⟨λe=>yw h uh (by rw[e];exact mJ.symm),λe=>by rw[e];exact mJ⟩
def uS {n:Int}(hd:d≠0){q:R}(h:ie n d=some q):qv q=(n:Rat)/(d:Rat):=by
 unfold ie at h
 rw[if_neg hd]at h
 cases h
 unfold qv
 rw[aI,aI]
 unfold k8 df
 have O:0<Int.gcd n d:=Int.gcd_pos_of_ne_zero_right _ hd
 obtain⟨g,hgg⟩:∃g:Nat,Int.gcd n d=g:=⟨_,rfl⟩
 rw[hgg]at O ⊢
 obtain⟨x,hx⟩:(g:Int)∣n:=by rw[<-hgg];exact Int.gcd_dvd_left ..
 obtain⟨y,hy⟩:(g:Int)∣d:=by rw[<-hgg];exact Int.gcd_dvd_right ..
 have E:(g:Int)≠0:=J
 have A0:y≠0:=λe=>hd (by rw[hy,e];simp)
 have q1:=dK E
 have A1:=dK A0
 by_cases hs:d<0
 · rw[if_pos hs,if_pos hs,hx,hy,<-Int.mul_neg,<-Int.mul_neg,Int.mul_ediv_cancel_left _ E,Int.mul_ediv_cancel_left _ E]
   rw[Rat.intCast_mul,Rat.intCast_mul,Rat.intCast_neg,Rat.intCast_neg]
   grind
 · rw[if_neg hs,if_neg hs,hx,hy,Int.mul_ediv_cancel_left _ E,Int.mul_ediv_cancel_left _ E]
   rw[Rat.intCast_mul,Rat.intCast_mul]
   grind
def pU {n:Int}(hd:d≠0)(h1:fits n=true)(h2:fits d=true):∃q,ig n d=some q/\bJ q=true/\qv q=(n:Rat)/(d:Rat):=by
 unfold ig
 rw[h1,h2,Bool.and_self,if_pos Z]
 cases h:ie n d with
 |none=>unfold ie at h;rw[if_neg hd]at h;cases h
 |some q=>exact⟨q,rfl,ut h1 h2 h,uS hd h⟩
def G7 {n:Int}{q:R}(h:ig n d=some q):fits n=true/\fits d=true:=by
 unfold ig at h
 cases h1:fits n <;>cases h2:fits d <;>simp[h1,h2]at h ⊢
def dD:Nat:=10^200
def gz {n:Int}(h:n.natAbs<=b)(hb:b<dD):fits n=true:=by unfold fits;exact qa1 (Nat.lt_of_le_of_lt h hb)
structure Bq (a:R)(x:Rat)(N D:Nat):Prop where
 ok:bJ a=true
 eq:qv a=x
 num:(ah a.1).natAbs<=N
 den:(ah a.2).natAbs<=D
def Bq.of {a:R}(h:bJ a=true)(hs:s≠0)(hq:qv a=(u:Rat)/(s:Rat))(hu:u.natAbs<=N)(hd:s.natAbs<=D):Bq a ((u:Rat)/(s:Rat)) N D:=
 ⟨h,hq,qa8 (UF h hs hq) hu,qa8 (UG h hs hq) hd⟩
def pV {a b:R}(ha:Bq a x N D)(hb:Bq b y N' D')(h1:N*N'<dD)(h2:D*D'<dD):∃q,qr a b=some q/\bJ q=true/\qv q=x*y:=by
 have E:=cE ha.ok
 have p2:=cE hb.ok
 obtain⟨q,e,ok,hv⟩:=pU (n:=ah a.1*ah b.1) (d:=ah a.2*ah b.2) (Int.ne_of_gt (Int.mul_pos E p2))
  (gz (b:=N*N') (by rw[Int.natAbs_mul];exact qb9 ha.num hb.num) h1) (gz (b:=D*D') DS h2)
 refine⟨q,by unfold qr;rw[ha.ok,hb.ok,Bool.and_self,if_pos Z];exact e,ok,?_⟩
 rw[hv,<-ha.eq,<-hb.eq,Rat.intCast_mul,Rat.intCast_mul]
 unfold qv
 have q1:=g7 ha.ok
 have O:=g7 hb.ok
 grind
def AL {a b:R}(ha:Bq a x N D)(hb:Bq b y N' D')(h0:y≠0)(h1:N*D'<dD)(h2:D*N'<dD):∃q,mB a b=some q/\bJ q=true/\qv q=x/y:=by
 have A1:=cE ha.ok
 have q1:=g7 ha.ok
 have O:=g7 hb.ok
 have E:ah b.1≠0:=λe=>h0 (by rw[<-hb.eq];unfold qv;rw[e];simp;grind)
 have A0:=dK E
 obtain⟨q,e,ok,hv⟩:=pU (n:=ah a.1*ah b.2) (d:=ah a.2*ah b.1) (λe=>by rcases Int.mul_eq_zero.1 e with e|e <;>omega)
  (gz (b:=N*D') (by rw[Int.natAbs_mul];exact qb9 ha.num hb.den) h1) (gz (b:=D*N') (by rw[Int.natAbs_mul];exact qb9 ha.den hb.num) h2)
 refine⟨q,by unfold mB;rw[ha.ok,hb.ok,Bool.and_self,if_pos Z];exact e,ok,?_⟩
 rw[hv,<-ha.eq,<-hb.eq,Rat.intCast_mul,Rat.intCast_mul]
 unfold qv
 grind
def uT {a b:R}(ha:Bq a x N D)(hb:Bq b y N' D')(h1:N*D'+N'*D<dD)(h2:D*D'<dD):∃q,dn a b=some q/\bJ q=true/\qv q=x-y:=by
 have E:=cE ha.ok
 have p2:=cE hb.ok
 have f1:(ah a.1*ah b.2).natAbs<=N*D':=by rw[Int.natAbs_mul];exact qb9 ha.num hb.den
 have f2:(ah b.1*ah a.2).natAbs<=N'*D:=by rw[Int.natAbs_mul];exact qb9 hb.num ha.den
 obtain⟨q,e,ok,hv⟩:=pU (n:=ah a.1*ah b.2-ah b.1*ah a.2) (d:=ah a.2*ah b.2) (Int.ne_of_gt (Int.mul_pos E p2))
  (gz (b:=N*D'+N'*D) U h1) (gz (b:=D*D') DS h2)
 refine⟨q,by unfold dn;rw[ha.ok,hb.ok,Bool.and_self,if_pos Z,gz f1 U,gz f2 U,Bool.and_self,if_pos Z];exact e,ok,?_⟩
 rw[hv,<-ha.eq,<-hb.eq,Rat.intCast_mul,Rat.intCast_sub,Rat.intCast_mul,Rat.intCast_mul]
 unfold qv
 have q1:=g7 ha.ok
 have O:=g7 hb.ok
 grind
def Lf {a b:R}(ha:Bq a x N D)(hb:Bq b y N' D')(h1:N*D'+N'*D<dD)(h2:D*D'<dD):∃q,jJ a b=some q/\bJ q=true/\qv q=x+y:=by
 have E:=cE ha.ok
 have p2:=cE hb.ok
 have f1:(ah a.1*ah b.2).natAbs<=N*D':=by rw[Int.natAbs_mul];exact qb9 ha.num hb.den
 have f2:(ah b.1*ah a.2).natAbs<=N'*D:=by rw[Int.natAbs_mul];exact qb9 hb.num ha.den
 obtain⟨q,e,ok,hv⟩:=pU (n:=ah a.1*ah b.2+ah b.1*ah a.2) (d:=ah a.2*ah b.2) (Int.ne_of_gt (Int.mul_pos E p2))
  (gz (b:=N*D'+N'*D) U h1) (gz (b:=D*D') DS h2)
 refine⟨q,by unfold jJ;rw[ha.ok,hb.ok,Bool.and_self,if_pos Z,gz f1 U,gz f2 U,Bool.and_self,if_pos Z];exact e,ok,?_⟩
 rw[hv,<-ha.eq,<-hb.eq,Rat.intCast_mul,Rat.intCast_add,Rat.intCast_mul,Rat.intCast_mul]
 unfold qv
 have q1:=g7 ha.ok
 have O:=g7 hb.ok
 grind
end
section
attribute [local irreducible] wpListIn Code.wpIn Oper.wpIn Exit.then Exit.inBlock Exit.noGoto
set_option maxHeartbeats 40000000
section
variable {P:Program}{r:Option Nat}{e:Nat->Value}{ds:List Deferred}{Q:Exit->Act->World->Prop}{K:Act->World->Prop}
variable {d ty:Nat}{pos:String}{af:Array Edge}{g:Option (Nat×Bool)}{u:Value}{x y:Operand}{t t':TypeId}
def Xx {k:IntKind}{b m:Int}{ats:Array TypeId}(hx:ev N e x=.int k a)(hy:ev N e y=.int k b)(hm:(if b<a then b else a)=m)(hk:K (act N (upd e d (.int k m)) ds) w):
 Oper.wpIn (Fw r) n P ⟨some d,.call {callee:=.builtin .min,args:=#[x,y],argTypes:=ats},ty,pos,af,g⟩ (act N e ds) w K Q:=
 cG (v:=.int k m) (w':=w) Z (by subst hm;simp[execOp,resolve,invoke,builtin,Builtin.min_,hx,hy,Builtin.min2,List.foldlM]) MT
end
structure YA (W:World)(A:Option Addr)(n:Nat)(H:Nat->Value)(L:Rows):Prop where
 cell:∀{i},i<n->A=some ⟨cV A,gY A,none⟩/\W.cell? ⟨cV A,gY A+i,none⟩=some (.slice (sA (H i)) (L i).length (sC (H i)))
 elem:∀{i k},i<n->k<(L i).length->sA (H i)=some ⟨cV (sA (H i)),gY (sA (H i)),none⟩/\∀j u,[S (ar (L i) k).1,S (ar (L i) k).2][j]?=some u->W.cell? ⟨cV (sA (H i)),gY (sA (H i))+k*2+j,none⟩=some u
def YA.ext {L:Rows}(k:aO W W')(h:YA W A n H L):YA W' A n H L:=
 ⟨λhi=>⟨(h.cell hi).1,k.cell (h.cell hi).2⟩,λhi hk=>⟨(h.elem hi hk).1,λj u hu=>k.cell ((h.elem hi hk).2 j u hu)⟩⟩
def Mt.z {L:Rows}(h:Mt W lo A n H L):YA W A n H L:=⟨λhi=>h.cell hi,λhi hk=>h.elem hi hk⟩
def YB (n:Nat)(L:Rows):Prop:=n<=9/\∀i,i<n->(L i).length<=9/\∀k,k<(L i).length->CP (ar (L i) k)
def YB.bd {L:Rows}(h:YB n L):Bd n L:=⟨by have:=h.1;omega,λi hi=>⟨by have:=(h.2 i hi).1;omega,(h.2 i hi).2⟩⟩
def Xy (l:List R):Prop:=l.length<=9/\∀k,k<l.length->CP (ar l k)
def Xy.bd {l:List R}(h:Xy l):BdV l:=⟨by have:=h.1;omega,h.2⟩
def yx (lo:Nat)(w:World)(v:Value)(l:List R):Prop:=∃P cp,v=.slice P l.length cp/\l.length<=cp/\Rw w lo P (ag l)
def AM {l:List R}(h:w.ownsRow lo 33 2 v l.length (ag l))(hl:lo'<=lo):yx lo' w v l:=⟨sA v,sC v,dj h,m0 h,(gi h).mono hl⟩
def Lg {o:Option R}(ho:o.isSome=true)(h:∀q,o=some q->bJ q=true):bJ (rN o,rD o)=true:=by
 cases o with
 |none=>cases ho
 |some q=>exact h q Z
def Lh {n d:List UInt8}(hn:isInt n=true)(hd:isInt d=true)(h0:ah d≠0):(qJ n d).isSome=true:=by
 unfold qJ;rw[hn,hd,Bool.and_self,if_pos Z];unfold ie;rw[if_neg h0];rfl
def iG (h:-1000<=a/\a<=1000):fits a=true:=by
 unfold fits
 have h2:a.natAbs<=1000:=J
 have h3:(1000:Nat)<10^200:=by decide +kernel
 first|(exact qa1 U)|(simp;omega)
def UH {b:Int}(ha:-1000<=a/\a<=1000)(hb:-1000<=b/\b<=1000)(h0:b≠0):bJ (rN (qJ (ae a) (ae b)),rD (qJ (ae a) (ae b)))=true:=
 Lg (Lh (bf (iG ha)) (bf (iG hb)) (by rw[aI];exact h0)) (λq hq=>On hq)
def sQ {l:List R}{f:Nat->R}(hl:l.length=i)(h:∀j,j<i->ar l j=f j):∀j,j<i+1->ar (l++[f i]) j=f j:=λj E=>by
 by_cases e:j<i
 · rw[jQ U];exact h j e
 · rw[kQ U,show j=i by omega,hl,Nat.sub_self];rfl
def br (a b:Int):R:=(rN (qJ (ae a) (ae b)),rD (qJ (ae a) (ae b)))
def SmR (q:R):Prop:=bJ q=true/\(-8<=ah q.1/\ah q.1<=8)/\ah q.2<=3
def SmR.len {q:R}(h:SmR q):CP q:=sH h.1
def Ll {P:R->Prop}{l:List R}{q:R}(hl:l.length=k)(h:∀j,j<k->P (ar l j))(hq:P q):∀j,j<k+1->P (ar (l++[q]) j):=λj E=>by
 by_cases e:j<l.length
 · rw[jQ e];exact h j U
 · rw[kQ e,show j-l.length=0 by omega];exact hq
set_option maxRecDepth 100000
def Lm (a:R)(w:World)(ht:Tb w):
 CL 76 #[.agg #[S ((a).1),S ((a).2)]] w (aG w λv w'=>v=.bool (!bJ a)):=by
 refine aC func76 Z (I ?_);refine bx (λ_ O _=>?_);have E:=O.2;refine I ?_;refine cl td (eo _ _ _ (ht.ext E)) ?_;rintro _ _ A0 rfl;have E:=xt E A0.2;refine I ?_;exact am (t:=2) (v:=.bool (!(bJ a))) Z E Z Z
def UI (ys:List R)(h:ys.all bJ=true):decide (k9 (λk=> !bJ (ar ys k)) ys.length 0<ys.length)=false:=by
 have h1:=EQ ys
 rw[h]at h1
 cases e:decide (k9 (λk=>!bJ (ar ys k)) ys.length 0<ys.length)with
 |false=>rfl
 |true=>rw[e]at h1;cases h1
def iH {L V:Rows}{ys:List R}(hM:Mt w lo A ys.length H L)(hB:Bd ys.length L)(hy:Rw w lo2 Y (ag ys))(hV:Mt w lo3 B ys.length G V)(hB3:Bd ys.length V)(hcb:ys.length<=CB)(hv:vM ys.length L=true)(hv3:vM ys.length V=true)(hVl:(V 0).length=ys.length)(hLl:(L 0).length<=ys.length)(hyo:ys.all bJ=true)(hp:pJ ys.length V=some true)(ht:Tb w):
 CL 32 #[.agg #[.slice A ys.length C,.slice Y ys.length CY,.slice B ys.length CB]] w (aG w λv w'=>v=.bool true):=by
 have Aq:=(gZ hv).1;have Ap:=(gZ hv).2.1;refine aC func32 Z (I ?_);refine bx (λ_ Ab O=>?_);have E:=Ab.2;refine I ?_;refine cl ry (nc (Y:=.bool true) (val_ok (hM.ext E) hB (ht.ext E)) (qb2 Value.bool hv)) ?_;rintro _ _ Am rfl;have⟨O,E⟩:=bn Am.2 O E;refine I ?_;refine cl ry (nc (Y:=.bool true) (val_ok (hV.ext E) hB3 (ht.ext E)) (qb2 Value.bool hv3)) ?_;rintro _ _ A0 rfl;have⟨O,E⟩:=bn A0.2 O E;have Af:=ab1 (hV.ext E) (i:=0) U;refine I ?_;refine gN Af ?_ (i:=0);have A2:=ab1 (hM.ext E) (i:=0) U;refine I ?_;refine gN A2 ?_ (i:=0);refine I ?_;refine clb V2 (hc:=nc (Y:=.bool false) (Ku (lb:=[]) (p:=λk=>!bJ (ar ys k)) (hy.ext E) SR (λi W hi hE=>Lm _ _ (ht.ext (xt E hE))) U) (qb2 Value.bool (UI ys hyo))) (hk:=?_);rintro _ _ Ao rfl;have⟨O,E⟩:=bn Ao.2 O E;refine I ?_;refine cl YJ (nc (Y:=.tuple #[.bool true,.int .i64 0]) (O5 (hV.ext E) hB3 hcb (ht.ext E)) (qb2 GU hp)) ?_;rintro _ _ A1 rfl;have E:=xt E A1.2;refine I ?_;exact am (t:=2) (v:=.bool (decide (0=0))) Z E Z Z
def Fp {l l':List R}(h:l.length=l'.length)(e:∀k,k<l.length->ar l k=ar l' k):l=l':=List.ext_getElem h λk h1 h2=>by have:=e k h1;rwa [eh h1,eh h2]at this
def Ln {L:Rows}{xs:List R}(hM:Mt w lo A n H L)(hl:∀i,i<n->0<(L i).length)(hxl:xs.length=n)(hx:∀i,i<n->ar xs i=ar (L i) 0)(hn:n<=8):
 CL 94 #[.slice A n C] w (aG w λv w'=>yx w.heap.size w' v xs):=by
 refine aC func94 Z (I ?_);have Aw:World.ownsRow w w.heap.size 33 2 (.slice none 0 0) 0 (ag []):=bK;have Ax:=aa4 w;refine cg [(2,2),(4,4),(7,17)] (λAp e W=>∃i:Nat,∃O:List R,∃A0:Value,(n-i=Ap)/\(e 7=.int .i64 i)/\(e 2=A0)/\(i<=n)/\(O.length=i)/\(∀j,j<i->ar O j=ar (L j) 0)/\(w.heap.size<=W.heap.size)/\(aO w W)/\(W.ownsRow w.heap.size 33 2 A0 O.length (ag O))) (n-0) ⟨0,[],.slice none 0 0,rfl,rfl,rfl,(qa7 _),rfl,(λj _=>by omega),(qa0 _),Ax,Aw⟩ ?_;rintro _ _ _ ⟨i,O,A0,rfl,Ay,A2,hi_i,hal_ac,Ao,B1,E,A1⟩;by_cases hli:i<n;have Az:=hl i hli;have Ar:=ab1 (hM.ext E) (i:=(i)) U;refine I ?_;refine gN Ar (I ?_);refine aa (aW (v:=A0) A2 ?_);have Aq:=ad3 (hM.ext E) (i:=(i)) (k:=0) U U;refine I ?_;refine mu Aq ?_ (i:=0);refine I ?_;refine BS (λ_ Ab _ As=>?_);have A1:=ab Ab A1;have E:=xt E Ab;refine AP A1 (aa8 As) (λAf _ Av Am _=>?_);have E:=bm A1 U U E Am;have od:=Am.size;refine aa (aK (v:=Af) Z ?_);refine I ?_;refine gP (I ?_);exact bI ⟨i+1,O++[ar (L i) 0],Af,rfl,rfl,rfl,U,q4,(sQ (f:=λj=>ar (L j) 0) hal_ac Ao),U,E,(aM Av Wf (dl _ _))⟩;refine I ?_;refine aa (aW (v:=A0) A2 ?_)
 refine aa (aK (v:=A0) Z ?_);refine I ?_;exact am (t:=2) (v:=A0) Z E (by have e:O=xs:=Fp U (λk _=>by rw[Ao k U,hx k U]);subst e;exact(AM A1 U)) Z
set_option maxRecDepth 100000 in
def AN {L V:Rows}{ys:List R}(hM:Mt w lo A ys.length H L)(hB:Bd ys.length L)(hy:Rw w lo2 Y (ag ys))(hV:Mt w lo3 B ys.length G V)(hB3:Bd ys.length V)(hcb:ys.length<=CB)(hv:vM ys.length L=true){K:Rows}(hX:Mt w lo4 X k F K)(hB4:Bd k K){P:Rows}{rs:List R}(eP:c6 ys.length L k K=some P)(hBP:Bd ys.length P)(hPl:∀i,i<ys.length->0<(P i).length)(hrl:rs.length=ys.length)(hr:∀i,i<ys.length->dn (ar ys i) (ar (P i) 0)=some (ar rs i))(ht:Tb w):
 CL 60 #[.agg #[.slice A ys.length C,.slice Y ys.length CY,.slice B ys.length CB],.slice X k CX] w (aG w λv w'=>yx w.heap.size w' v rs):=by
 have cc:=(gZ hv).2.1;refine aC func60 Z (I ?_);refine bx (λG0 P1 As=>?_);have Ao:=P1.2;refine I ?_;refine cl lf (jr (hM.ext Ao) hB (hX.ext Ao) hB4 eP (ht.ext Ao)) ?_;rintro _ Am La ⟨GC,co,EW,rfl,W3,P2⟩;have⟨As,Ao⟩:=bn La.2 As Ao;have Ay:=ab2 P2;refine I ?_;have VW:World.ownsRow Am Am.heap.size 33 2 (.slice none 0 0) 0 (ag []):=bK;refine cg [(4,6),(13,34)] (λLi e W=>∃i:Nat,∃A1:List R,∃A2:Value,(ys.length-i=Li)/\(e 13=.int .i64 i)/\(e 4=A2)/\(i<=ys.length)/\(A1.length=i)/\(∀j,j<i->ar A1 j=ar rs j)/\(Am.heap.size<=W.heap.size)/\((A2).ownBlock≠some w.heap.size)/\(aO w W)/\(ap W w.heap.size 82 #[.slice A ys.length C,.slice Y ys.length CY,.slice B ys.length CB])/\(lS W G0.heap.size Am.heap.size GC ys.length EW P)/\(W.ownsRow Am.heap.size 33 2 A2 A1.length (ag A1))) (ys.length-0) ⟨0,[],.slice none 0 0,rfl,rfl,rfl,(qa7 _),rfl,(λj _=>by omega),(qa0 _),(λe=>by cases e),Ao,As,Ay,VW⟩ ?_;rintro _ _ C1 ⟨i,A1,A2,rfl,ch,FR,hi_i,hal_ac,Ix,cp,H3,E,As,Ay,ES⟩;by_cases hli:i<ys.length;have cT:=hPl i hli;have L4:=ab1 (Ay).mt (i:=(i)) U;refine I ?_;refine gN L4 (I ?_);have Ar:=ac3 C1
 refine xI 15 (λls e W=>∃O:Nat,(aO w W)/\(C1.heap.size<=W.heap.size)/\(ls 14=true->e 32=.slice (some ⟨O,0,none⟩) 1 1)/\(ls 14=true->C1.heap.size<=O/\O<W.heap.size)/\(ap W w.heap.size 82 #[.slice A ys.length C,.slice Y ys.length CY,.slice B ys.length CB])/\(lS W G0.heap.size Am.heap.size GC ys.length EW P)/\(W.ownsRow Am.heap.size 33 2 A2 A1.length (ag A1))/\(ls 14=true->(World.ownsRow W O 33 2 (.slice (some ⟨O,0,none⟩) 1 1) 1 [S ((ar rs i).1),S ((ar rs i).2)]))) ⟨0,(xt E Ar),(bz Ar),(ff Z),(ff Z),(be Ar As),(aa1 Ar Ay),(ab Ar ES),(λh=>ff Z h)⟩ ?_;refine db (λbq cm ad _ cf a6 _=>by refine aa (aW (v:=A2) FR ?_);refine I ?_;exact aH) ?_;refine sf ?_;refine db (λW1 Wa bp _ KM cb _=>by obtain⟨_,_,_,_,_,Ab,_⟩:=KM;refine I ?_;exact aH) ?_;refine sf ?_;refine db (λb0 a8 bb _ K2 a4 _=>by obtain⟨_,E,_⟩:=K2;have L3:=bD (hy.ext E) (k:=(i)) U;refine I ?_;refine mu L3 ?_;refine I ?_;exact aH) ?_;refine db (λa9 ac a2 _ Ne ce _=>by obtain⟨_,E,_⟩:=Ne;have X2:=bD (hy.ext E) (k:=(i)) U;refine I ?_;exact aH) ?_;refine sf ?_;refine db (λW2 WV a0 _ KY a3 _=>by obtain⟨_,_,_,_,_,_,A0,_⟩:=KY;have T3:=ad3 (A0).mt (i:=(i)) (k:=0) U U;refine I ?_;refine mu T3 ?_ (i:=0);refine I ?_;exact aH) ?_
 refine db (λbd a5 bv _ No cq _=>by obtain⟨_,_,_,_,_,_,A0,_⟩:=No;have bW:=ad3 (A0).mt (i:=(i)) (k:=0) U U;refine I ?_;exact aH) ?_;refine I6 (V:=.tuple #[.agg #[S ((ar rs i).1),S ((ar rs i).2)],.int .i64 0]) (λ_ _ _ Kp H4 T2 _=>?_) ?_;obtain⟨O,E,Cr,Ap,Aq,Ab,A0,Af,Ax⟩:=Kp;have E4:=Ab;have E9:=A0;have wr:=Af;refine cl DV (J2 (ar ys i) (ar (P i) 0) _ (ht.ext E)) ?_;rintro _ _ Az hv;have E4:=be Az.2 E4;have E9:=aa1 Az.2 E9;have wr:=ab Az.2 wr;have E:=xt E Az.2;rw[hr i hli]at hv;subst hv;refine I ?_;exact fs ⟨rfl,O,E,U,Ap,(λx=>by have:=Aq x;omega),E4,E9,wr,(λKC=>ff (bS H4 (i:=13) (j:=14) Z (bS H4 (i:=10) (j:=13) Z T2)) KC)⟩;refine sf ?_;refine I6 (V:=.agg #[S ((ar rs i).1),S ((ar rs i).2)]) (λ_ _ _ Lj Q0 Vm _=>?_) ?_;obtain⟨O,E,Cr,Ap,Aq,Ab,A0,Af,Ax⟩:=Lj;have ny:=Ab;have CG:=A0;have E7:=Af;refine cl qm kS ?_;rintro _ _ od rfl;have ny:=be od.2 ny;have CG:=aa1 od.2 CG;have E7:=ab od.2 E7;have E:=xt E od.2;refine I ?_;exact fs ⟨rfl,O,E,U,Ap,(λx=>by have:=Aq x;omega),ny,CG,E7,(λLk=>ff (bS Q0 (i:=13) (j:=14) Z Vm) Lk)⟩;refine gw (λ_ S9 _ L1 _ _ _=>?_) ?_;obtain⟨O,E,Cr,Ap,Aq,Ab,A0,Af,Ax⟩:=L1;have E5:=Ab;have B2:=A0;have B1:=Af;refine BS (λ_ nm _ Rm=>?_)
 have E5:=be nm E5;have B2:=aa1 nm B2;have B1:=ab nm B1;have E:=xt E nm;refine I ?_;exact fs ⟨S9.heap.size,E,U,(λ_=>rfl),(λ_=>⟨by omega,by omega⟩),E5,B2,B1,(λ_=>Rm)⟩;refine sf ?_;rintro S0 _ _ E0 ⟨O,E,Cr,Ap,Aq,Ab,A0,Af,Ax⟩;have c9:=bz E;have an:=Aq (E0 14 Z);have Aw:=Ab;have E6:=A0;have E1:=Af;have L2:=Ax (E0 14 Z);have X0:S0 32=.slice (some ⟨O,0,none⟩) 1 (1):=(Ap (E0 14 Z));refine AP E1 (aa8 L2) (λH2 _ N0 Av K3=>?_);have P0:=aQ K3 H3 (bt Aw);have Aw:=aa3 Av (λe=>H3 e.symm) Aw;have E6:=lS.gr Av (λg e=>by have:=aU E1 _ e;omega) E6;have E:=bm E1 U U E Av;have bZ:=Av.size;refine aa (aK (v:=H2) Z ?_);refine I ?_;refine gP (I ?_);exact bI ⟨i+1,A1++[ar rs i],H2,rfl,rfl,rfl,U,q4,(sQ (f:=λj=>ar rs j) hal_ac Ix),U,P0,E,Aw,E6,(aM N0 Wf (dl _ _))⟩;refine I ?_;refine aa (aW (v:=A2) FR ?_);refine aa (aK (v:=A2) Z ?_);refine I ?_;exact am (t:=4) (v:=A2) Z E (by have e:A1=rs:=Fp U (λk _=>Ix k U);subst e;exact(AM ES U)) Z
def oN (n:Nat)(o:Option Rows):Nat:=if o.isSome then n else 0
def oR (o:Option Rows):Rows:=o.getD rO
def oV (o:Option (List R×Bool)):List R:=(o.map (·.1)).getD []
def oB (o:Option (List R×Bool)):Bool:=(o.map (·.2)).getD false
def nj.get {o:Option Rows}(h:nj lo w n o v):
 ∃A C H,v=.tuple #[.slice A (oN n o) C,.int .i64 (Rl o.isSome)]/\Mt w lo A (oN n o) H (oR o):=by
 cases o with
 | none=>
   obtain⟨A,C,H,e,_,m⟩:=@An lo w rO
   cases e;cases h
   exact⟨none,0,H,rfl,m⟩
 |some K=>obtain⟨u,rfl,A,C,H,rfl,_,m⟩:=h;exact⟨A,C,H,rfl,m⟩
def Xp.get {o:Option (List R×Bool)}(h:Xp lo w o v):
 ∃P cp,v=.tuple #[.slice P (oV o).length cp,.bool (oB o),.int .i64 (Rl o.isSome)]/\Rw w lo P (ag (oV o)):=by
 cases o with
 |none=>cases h;exact⟨none,0,rfl,Rw.nil w lo⟩
 |some x=>obtain⟨x,q⟩:=x;exact h
def Lo {m:Nat}{L:Rows}(h:qt n m L)(hn:n<=1000000)(hm:m<=1000000):Bd n L:=⟨hn,λi hi=>⟨by rw[(h i hi).1];exact hm,λk hk=>sH ((h i hi).2 k (by rw[<-(h i hi).1];exact hk))⟩⟩
def yy {L:Rows}:Bd 0 L:=⟨by omega,λi hi=>by omega⟩
def G8 {l:List R}:ar (l.drop n) k=ar l (n+k):=by unfold ar;simp[List.getD,List.getElem?_drop]
def Pe {n:Nat}{L:Rows}:Bd (oN n (ep n L)) (oR (ep n L)):=by
 cases e:ep n L with
 |none=>exact yy
 | some K=>
   unfold ep at e
   split at e
   · rename_i hs
     obtain⟨hv,E⟩:=nG hs
     have hb:=m7 hv
     rw[<-E]at hb
     cases he:elim n (n+n) n (jP n L)with
     |none=>rw[he]at e;cases e
     | some s=>
       rw[he]at e
       simp only[Option.bind_some,yj]at e
       split at e
       · cases e
       · cases e
         have ho:=(mH hb U he).1
         have O:=hv.2.1
         exact Lo (n:=n) (m:=n) (λi hi=>⟨by simp[oR,(ho i hi).1],λk _=>by simp only[oR,Option.getD_some];rw[G8];exact(ho i hi).2 (n+k) U⟩) U U
   · cases e
def Fq {a:List R}{B:Rows}:∀{f j:Nat} {l l':List R},lY a B f j l=some l'->(∀k,k<l.length->bJ (ar l k)=true)->l'.length=l.length+f/\∀k,k<l'.length->bJ (ar l' k)=true
 |0,_,_,_,h,hl=>by cases h;exact⟨rfl,hl⟩
 | f +1,j,l,l',h,hl=>by
   unfold lY at h
   cases h1:kN a B j a.length 0 z0 with
   |none=>rw[h1]at h;cases h
   | some s=>
     rw[h1]at h
     have:=Fq h (λk hk=>Ll (P:=λq=>bJ q=true) (k:=l.length) Z hl (ET Vr h1) k (by simpa using hk))
     exact⟨by rw[this.1];simp;omega,this.2⟩
def Fs {L B:Rows}{p:Nat}:∀{f i:Nat} {K K':Rows},pC L B p f i K=some K'->(∀x,x<i->(K x).length=p/\∀k,k<p->bJ (ar (K x) k)=true)->qt (i+f) p K'
 |0,_,_,_,h,hl=>by cases h;exact hl
 | f + 1,i,K,K',h,hl=>by
   unfold pC at h
   cases h1:lY (L i) B p 0 []with
   |none=>rw[h1]at h;cases h
   | some l=>
     rw[h1]at h
     have hr:=Fq h1 (λk hk=>by simp at hk)
     have:=Fs h (λx hx=>by
      by_cases e:x=i
      · subst e;rw[bg];exact⟨by simpa using hr.1,λk hk=>hr.2 k (by rw[hr.1];simpa using hk)⟩
      · rw[bh _ _ e];exact hl x U)
     rwa [show i+1+f=i+(f+1)by omega]at this
def Pf {n m:Nat}{L B:Rows}:Bd (oN n (c6 n L m B)) (oR (c6 n L m B)):=by
 cases e:c6 n L m B with
 |none=>exact yy
 | some K=>
   unfold c6 at e
   split at e
   · rename_i hs
     have h1:=gZ hs.1
     have h2:=gZ hs.2.1
     have:=Fs (show pC L B (B 0).length n 0 rO=some K from e) (λx _=>by omega)
     rw[Nat.zero_add]at this
     have a:=h1.2.1
     have b:=h2.2.2.2.1
     exact Lo (n:=n) this U U
   · cases e
def Xz {n:Nat}{L:Rows}:Bd (if vM n L=true then(L 0).length else 0) (λj=>kX L n j):=by
 split
 · rename_i h
   have hv:=gZ h
   have a:=hv.2.1
   have b:=hv.2.2.2.1
   exact Lo (m:=n) (λi hi=>⟨py _ _ _,λk hk=>by rw[uy _ _ hk];exact(hv.ok k hk).2 i hi⟩) U U
 · exact yy
section
variable {m:Nat}{L K:Rows}{xs:List R}
def G9 (hx:Rw w lo A (ag xs))(hy:Rw w lo2 B (ag xs))(hn:xs.length<=1000000):CL 16 #[.slice A xs.length C,.slice B xs.length D] w (aG w λv w'=>v=.bool true):=by
 have h:=OC (C:=C) (D:=D) hx hy hn
 rwa [decide_eq_true Z]at h
end
def lT (W:World)(hi:Nat)(v:Value):Prop:=∃A C H n L,v=.slice A n C/\n<=C/\YB n L/\lS W 0 hi A n H L
structure Ha (W:World)(hi:Nat)(A:Option Addr)(vs:List Value):Prop where
 rw:m6 W 0 hi A vs
 good:∀i,i<vs.length->lT W hi (vs.getD i .nilIface)
section
variable {hi hi':Nat}{vs:List Value}
def lT.ext (k:aO W W')(h:lT W hi v):lT W' hi v:=by obtain⟨A,C,H,n,L,e,c,f,m⟩:=h;exact⟨A,C,H,n,L,e,c,f,m.ext k⟩
def lT.put (k:eE W W' b)(hb:b<0\/hi<=b)(h:lT W hi v):lT W' hi v:=by obtain⟨A,C,H,n,L,e,c,f,m⟩:=h;exact⟨A,C,H,n,L,e,c,f,m.put k hb⟩
def lT.up (hh:hi<=hi')(h:lT W hi v):lT W hi' v:=by
 obtain⟨A,C,H,n,L,e,c,f,m⟩:=h
 exact⟨A,C,H,n,L,e,c,f,⟨m.mt,λE h=>qb1 (m.o E h) hh,λi hi E h=>qb1 (m.r i hi E h) hh⟩⟩
def Ha.ext (k:aO W W')(h:Ha W hi A vs):Ha W' hi A vs:=⟨h.rw.ext k,λi hi=>(h.good i hi).ext k⟩
def Ha.put (k:eE W W' b)(hb:b<0\/hi<=b)(h:Ha W hi A vs):Ha W' hi A vs:=⟨h.rw.put k hb,λi hi=>(h.good i hi).put k hb⟩
def lT.of {L:Rows}(h:dy lo W v n L)(hf:YB n L):lT W W.heap.size v:=by
 obtain⟨A,C,H,e,c,m⟩:=h;exact⟨A,C,H,n,L,e,c,hf,ab2 (m.mono (qa7 _))⟩
end
def dy.get {L:Rows}(h:dy lo w v n L):∃A C H,v=.slice A n C/\n<=C/\Mt w lo A n H L:=h
def eR {m:Nat}{L B K:Rows}(e:c6 n L m B=some K):Bd n K:=by
 have h:=@Pf n m L B
 rw[e]at h;exact h
def kU {L K:Rows}(e:ep n L=some K):Bd n K:=by
 have h:=@Pe n L
 rw[e]at h;exact h
def uW {L:Rows}(hv:vM n L=true)(hl:(L 0).length=k):Bd k (λj=>kX L n j):=by
 have h:=@Xz n L
 rw[if_pos hv,hl]at h;exact h
def dM {L:Rows}(h:vM n L=true):Bd n L:=by
 have hv:=gZ h
 have ok:=VM.ok hv
 have E:=hv.2.2.2.1
 exact⟨by have:=hv.2.1;omega,λi hi=>⟨by rw[(ok i hi).1];omega,λk hk=>sH ((ok i hi).2 k (by rw[<-(ok i hi).1];exact hk))⟩⟩
structure Pg (m k:Nat)(L V:Rows)(ys:List R)(W B G C D X P:Rows)(rs xs:List R)(Q S:Rows):Prop where
 eW:ep m V=some W
 eB:c6 k (λj=>kX L m j) m W=some B
 eG:c6 k B m L=some G
 eC:ep k G=some C
 eD:c6 k B m (bA ys)=some D
 eX:c6 k C k D=some X
 eP:c6 m L k X=some P
 hPl:∀i,i<m->0<(P i).length
 hrl:rs.length=m
 hr:∀i,i<m->dn (ar ys i) (ar (P i) 0)=some (ar rs i)
 hvr:vM m (bA rs)=true
 eQ:c6 1 (λj=>kX (bA rs) m j) m W=some Q
 eS:c6 1 Q m (bA rs)=some S
 hXl:∀i,i<k->0<(X i).length
 hxl:xs.length=k
 hx:∀i,i<k->ar xs i=ar (X i) 0
 hSl:0<(S 0).length
def ow (lo:Nat)(w:World)(v:Value)(k:Nat)(xs:List R)(C:Rows)(chi:R)(fr:Int):Prop:=∃A cp B D H,v=.agg #[.slice A xs.length cp,.slice B k D,S chi.1,S chi.2,.int .i64 fr]/\xs.length<=cp/\Rw w lo A (ag xs)/\k<=D/\Mt w lo B k H C
def Pi {L V:Rows}{ys:List R}(hM:Mt w lo A ys.length H L)(hB:Bd ys.length L)(hy:Rw w lo2 Y (ag ys))(hV:Mt w lo3 B ys.length G V)(hB3:Bd ys.length V)(hcb:ys.length<=CB){W0 B0 G0 C0 D0 X0 P0 Q0 S0:Rows}{rs xs:List R}(hv:vM ys.length L=true)(hk:(L 0).length=k)(hvl:vM ys.length (bA ys)=true)(e:Pg ys.length k L V ys W0 B0 G0 C0 D0 X0 P0 rs xs Q0 S0)(ht:Tb w):
 CL 41 #[.agg #[.slice A ys.length C,.slice Y ys.length CY,.slice B ys.length CB]] w (aG w λv w'=>ow w.heap.size w' v k xs C0 (ar (S0 0) 0) (((ys.length:Nat):Int)-(k:Int))):=by
 have fN:=(gZ hv).1;have fB:=(gZ hv).2.1;have bv:=(gZ hv).2.2.2.1;have f7:=e.hSl;have dq:=e.hrl;have d0:=e.hxl;refine aC func41 Z (I ?_);refine bx (λEW L3 O=>?_);have E:=L3.2;refine al dN (λGC T2 A0=>?_);have⟨O,E⟩:=bn T2.2 O E;refine I ?_;refine bL 7 ?_;refine sf ?_;refine bR (fun(v:Value) (W:World)=>∃A C H,v=Value.slice A ys.length C/\ys.length<=C/\Mt W GC.heap.size A ys.length H (bA ys)) (hs:=λ_ _ _ k h=>by obtain⟨A,C,H,e,c,r⟩:=h;exact⟨A,C,H,e,c,r.ext k⟩) (λ_ _ FR _=>?_) ?_;refine clb xu (hc:=lG (hy.ext (xt E FR)) U) (hk:=?_);rintro _ _ L2 ⟨cv,f3,e6,rfl,H2,ad⟩;have a8:=ab2 ad;refine I ?_;exact fs ⟨L2.2,⟨_,_,_,rfl,H2,((a8).mt).mono (by have:=bz FR;omega)⟩⟩;refine sf ?_;intro a0 Vm X2 KC;have⟨O,A0,E⟩:=cj X2.2 O A0 E;have Wa:∃A C H,a0 17=Value.slice A ys.length C/\ys.length<=C/\Mt Vm GC.heap.size A ys.length H (bA ys):=(KC 6 17 Z Z);(with_reducible obtain⟨_,_,_,_,_,Lj⟩:=Wa);have Am:=ab2 Lj;refine I ?_;refine cl xx (yt (hV.ext E) hB3 e.eW (ht.ext E)) ?_;rintro _ _ E6 ⟨et,cc,d5,rfl,e3,H3⟩;have⟨O,A0⟩:=dZ E6.2 O A0;have Am:=aa1 E6.2 Am;have E:=xt E E6.2;have A1:=ab2 H3;refine I ?_;refine cl BV (uK (k:=k) (hM.ext E) hB hv hk (ht.ext E)) ?_
 rintro _ _ E1 ⟨dd,e1,ej,rfl,fP,a6⟩;have⟨O,A0⟩:=dZ E1.2 O A0;have Am:=aa1 E1.2 Am;have A1:=aa1 E1.2 A1;have E:=xt E E1.2;have No:=ab2 a6;refine I ?_;refine cl lf (jr (No).mt (uW hv hk) (A1).mt (kU e.eW) e.eB (ht.ext E)) ?_;rintro _ _ E4 ⟨c9,cq,cb,rfl,e4,P2⟩;have⟨O,A0⟩:=dZ E4.2 O A0;have Am:=aa1 E4.2 Am;have A1:=aa1 E4.2 A1;have E:=xt E E4.2;have Ap:=ab2 P2;refine I ?_;refine cl lf (jr (Ap).mt (eR e.eB) (hM.ext E) hB e.eG (ht.ext E)) ?_;rintro _ _ Aw ⟨cf,dC,ce,rfl,eg,bd⟩;have⟨O,A0⟩:=dZ Aw.2 O A0;have Am:=aa1 Aw.2 Am;have A1:=aa1 Aw.2 A1;have Ap:=aa1 Aw.2 Ap;have E:=xt E Aw.2;have bb:=ab2 bd;refine cl xx (yt (bb).mt (eR e.eG) e.eC (ht.ext E)) ?_;rintro _ _ As ⟨Ax,B1,eZ,rfl,P1,VW⟩;have⟨O,A0⟩:=dZ As.2 O A0;have Am:=aa1 As.2 Am;have A1:=aa1 As.2 A1;have Ap:=aa1 As.2 Ap;have E:=xt E As.2;have A2:=ab2 VW;refine I ?_;refine cl lf (jr (Ap).mt (eR e.eB) (Am).mt (dM hvl) e.eD (ht.ext E)) ?_;rintro _ _ Cr ⟨eq,ea,ask,rfl,er,a3⟩;have⟨O,A0⟩:=dZ Cr.2 O A0;have A1:=aa1 Cr.2 A1;have A2:=aa1 Cr.2 A2;have E:=xt E Cr.2;have ac:=ab2 a3;refine cl lf (jr (A2).mt (kU e.eC) (ac).mt (eR e.eD) e.eX (ht.ext E)) ?_;rintro _ _ E0 ⟨cz,fQ,bp,rfl,f9,Kp⟩
 have⟨O,A0⟩:=dZ E0.2 O A0;have A1:=aa1 E0.2 A1;have A2:=aa1 E0.2 A2;have E:=xt E E0.2;have Ab:=ab2 Kp;refine I ?_;(try refine aa (aP (cs:=[.slice A ys.length C,.slice Y ys.length CY,.slice B ys.length CB]) (b:=w.heap.size) (o:=0) nw Z nK Z (aa0 O (i:=0) Z) ?_));refine I ?_;refine cl IE (AN (hM.ext E) hB (hy.ext E) (hV.ext E) hB3 hcb hv (Ab).mt (eR e.eX) e.eP (eR e.eP) e.hPl e.hrl e.hr (ht.ext E)) ?_;rintro _ _ C1 ⟨co,cp,rfl,dL,KM⟩;have⟨O,A0⟩:=dZ C1.2 O A0;have A1:=aa1 C1.2 A1;have A2:=aa1 C1.2 A2;have Ab:=aa1 C1.2 Ab;have E:=xt E C1.2;have Rm:=ab6 KM;refine clb xu (hc:=O9 (m:=ys.length) (lG (Rm).rw U) e.hrl) (hk:=?_);rintro _ _ Az ⟨cr,fC,cw,rfl,d3,S9⟩;have⟨O,A0⟩:=dZ Az.2 O A0;have A1:=aa1 Az.2 A1;have A2:=aa1 Az.2 A2;have Ab:=aa1 Az.2 Ab;have E:=xt E Az.2;have Aq:=ab2 S9;refine I ?_;refine cl BV (uK (k:=1) (Aq).mt (dM e.hvr) e.hvr Z (ht.ext E)) ?_;rintro _ _ Ar ⟨d1,ed,f0,rfl,e5,La⟩;have⟨O,A0⟩:=dZ Ar.2 O A0;have A1:=aa1 Ar.2 A1;have A2:=aa1 Ar.2 A2;have Ab:=aa1 Ar.2 Ab;have Aq:=aa1 Ar.2 Aq;have E:=xt E Ar.2;have bZ:=ab2 La;refine I ?_;refine cl lf (jr (bZ).mt (uW e.hvr Z) (A1).mt (kU e.eW) e.eQ (ht.ext E)) ?_
 rintro _ _ Av ⟨d4,cm,cT,rfl,ct,H4⟩;have⟨O,A0⟩:=dZ Av.2 O A0;have A2:=aa1 Av.2 A2;have Ab:=aa1 Av.2 Ab;have Aq:=aa1 Av.2 Aq;have E:=xt E Av.2;have nm:=ab2 H4;refine I ?_;refine cl lf (jr (nm).mt (eR e.eQ) (Aq).mt (dM e.hvr) e.eS (ht.ext E)) ?_;rintro _ ES CG ⟨bq,cy,d6,rfl,fD,W1⟩;have⟨O,A0⟩:=dZ CG.2 O A0;have A2:=aa1 CG.2 A2;have Ab:=aa1 CG.2 Ab;have E:=xt E CG.2;have Af:=ab2 W1;refine I ?_;refine bL 13 ?_;refine sf ?_;refine bR (fun(v:Value) (W:World)=>∃A Ao,v=Value.slice A xs.length Ao/\xs.length<=Ao/\Rw W ES.heap.size A (ag xs)) (hs:=λ_ _ _ k h=>by obtain⟨A,Ao,e,c,r⟩:=h;exact⟨A,Ao,e,c,r.ext k⟩) (λ_ _ ny _=>?_) ?_;have Ab:=aa1 ny Ab;refine clb SS (hc:=Ln (Ab).mt e.hXl e.hxl e.hx U) (hk:=?_);rintro _ _ L4 ⟨eb,cx,rfl,K3,KY⟩;have a5:=ab6 KY;refine I ?_;exact fs ⟨L4.2,⟨_,_,rfl,K3,((a5).rw).mono (by have:=bz ny;omega)⟩⟩;refine sf ?_;refine aA (λ_ _ wr _=>by have Af:=aa1 wr Af;have WV:=ab1 (Af).mt (i:=0) U;refine I ?_;refine gN WV ?_ (i:=0);refine I ?_;exact aH) ?_;refine aA (λ_ _ W2 _=>by have Af:=aa1 W2 Af;have ch:=ab1 (Af).mt (i:=0) U;refine I ?_;exact aH) ?_
 refine aA (λ_ _ bW _=>by have Af:=aa1 bW Af;have K2:=ad3 (Af).mt (i:=0) (k:=0) U U;refine I ?_;refine mu K2 ?_ (i:=0);refine I ?_;exact aH) ?_;refine aA (λ_ _ Ix _=>by have Af:=aa1 Ix Af;have fG:=ad3 (Af).mt (i:=0) (k:=0) U U;refine I ?_;exact aH) ?_;refine aA (λ_ _ Lk _=>by have O:=be Lk O;(try refine aa (aP (cs:=[.slice A ys.length C,.slice Y ys.length CY,.slice B ys.length CB]) (b:=w.heap.size) (o:=0) nw Z nK Z (aa0 O (i:=0) Z) ?_));refine I ?_;exact aH) ?_;refine aR (V:=.int .i64 ((ys.length:Nat):Int)) (λ_ _ _ _=>?_) ?_;refine cl xy pR ?_;rintro _ _ N0 rfl;refine I ?_;exact fs ⟨N0.2,rfl⟩;refine aA (λ_ _ a4 _=>by have O:=be a4 O;(try refine aa (aP (cs:=[.slice A ys.length C,.slice Y ys.length CY,.slice B ys.length CB]) (b:=w.heap.size) (o:=0) nw Z nK Z (aa0 O (i:=0) Z) ?_));refine I ?_;exact aH) ?_;refine aR (V:=.int .i64 k) (λ_ _ od _=>?_) ?_;refine clb SU (hc:=nc (Y:=.int .i64 k) (Lb (hM.ext (xt E od)) U) (by rw[hk])) (hk:=?_);rintro _ _ Ne rfl;refine I ?_;exact fs ⟨Ne.2,rfl⟩;refine aA (λ_ _ _ _=>by refine oE ?_;refine I ?_;exact aH) ?_;refine sf ?_;intro L1 an E7 T3;have⟨O,A0⟩:=dZ E7.2 O A0;have A2:=aa1 E7.2 A2
 have E:=xt E E7.2;have a2:∃A Ao,L1 46=Value.slice A xs.length Ao/\xs.length<=Ao/\Rw an ES.heap.size A (ag xs):=(T3 1 46 Z Z);(with_reducible obtain⟨Ay,B2,a9,b0,Li⟩:=a2);have E9:=ab6 Li;refine aa (bU (vs:=[(0,.slice Ay xs.length B2),(1,.slice Ax k B1),(2,.agg #[S ((ar (S0 0) 0).1),S ((ar (S0 0) 0).2)]),(3,.int .i64 (((ys.length:Nat):Int)-(k:Int)))]) (cells:=#[.slice Ay xs.length B2,.slice Ax k B1,S ((ar (S0 0) 0).1),S ((ar (S0 0) 0).2),.int .i64 (((ys.length:Nat):Int)-(k:Int))]) (pl:=[(0,1),(1,1),(2,2),(4,1)]) nu dN q0 (cY (by exact a9) (cY Z (cY Z (cY Z Z)))) q0 ?_);refine aa (bF (b:=EW.heap.size) (o:=0) (vs:=[.slice Ay xs.length B2,.slice Ax k B1,S ((ar (S0 0) 0).1),S ((ar (S0 0) 0).2),.int .i64 (((ys.length:Nat):Int)-(k:Int))]) dG Z Z KK A0 (qa3 Z) (λ_ E5 W3=>?_));have O:=pb E5 O;have A2:=ac1 E5 U A2;have E9:=ab9 E5 U E9;have E:=bi E5 E;refine I ?_;refine aX (v:=.agg #[.slice Ay xs.length B2,.slice Ax k B1,S ((ar (S0 0) 0).1),S ((ar (S0 0) 0).2),.int .i64 (((ys.length:Nat):Int)-(k:Int))]) (bY  rfl ?_) E ⟨_,_,_,_,_,rfl,b0,((E9).rw).mono U,P1,((A2).mt).mono U⟩
 refine ak (t:=2) (cs:=[.slice Ay xs.length B2,.slice Ax k B1,S ((ar (S0 0) 0).1),S ((ar (S0 0) 0).2),.int .i64 (((ys.length:Nat):Int)-(k:Int))]) (b:=EW.heap.size) (o:=0) nu Z dG ?_ ?_;exact Z;exact aa0 W3 (i:=0) Z
def Lp {L V:Rows}{ys:List R}(hM:Mt w lo A ys.length H L)(hB:Bd ys.length L)(hy:Rw w lo2 Y (ag ys))(hV:Mt w lo3 B ys.length G V)(hB3:Bd ys.length V)(hcb:ys.length<=CB){a:Addr}{W0 B0 G0:Rows}(hv:vM ys.length L=true)(hk:(L 0).length=k)(hvl:vM ys.length (bA ys)=true)(hE:Er w a)(eW:ep ys.length V=some W0)(eB:c6 k (λj=>kX L ys.length j) ys.length W0=some B0)(eG:c6 k B0 ys.length L=some G0)(eC:ep k G0=none)(ht:Tb w):
 CL 41 #[.agg #[.slice A ys.length C,.slice Y ys.length CY,.slice B ys.length CB]] w (fe (pE a) w):=by
 have KM:=(gZ hv).1;have KC:=(gZ hv).2.1;refine ia func41 Z (I ?_);refine bx (λ_ Az O=>?_);have E:=Az.2;refine al dN (λny od _=>?_);have⟨O,E⟩:=bn od.2 O E;refine I ?_;refine bL 7 ?_;refine sf ?_;refine bR (fun(v:Value) (W:World)=>∃A C H,v=Value.slice A ys.length C/\ys.length<=C/\Mt W ny.heap.size A ys.length H (bA ys)) (hs:=λ_ _ _ k h=>by obtain⟨A,C,H,e,c,r⟩:=h;exact⟨A,C,H,e,c,r.ext k⟩) (λ_ _ A2 _=>?_) ?_;refine clb xu (hc:=lG (hy.ext (xt E A2)) U) (hk:=?_);rintro _ _ Am ⟨K2,GC,Kp,rfl,B2,Ap⟩;have E6:=ab2 Ap;refine I ?_;exact fs ⟨Am.2,⟨_,_,_,rfl,B2,((E6).mt).mono (by have:=bz A2;omega)⟩⟩;refine sf ?_;intro B1 Ab Ay Ao;have⟨O,E⟩:=bn Ay.2 O E;have C1:∃A C H,B1 17=Value.slice A ys.length C/\ys.length<=C/\Mt Ab ny.heap.size A ys.length H (bA ys):=(Ao 6 17 Z Z);(with_reducible obtain⟨_,_,_,_,_,_⟩:=C1);refine I ?_;refine cl xx (yt (hV.ext E) hB3 eW (ht.ext E)) ?_;rintro _ _ CG ⟨nm,K3,EW,rfl,L2,Aq⟩;have E:=xt E CG.2;have A0:=ab2 Aq;refine I ?_;refine cl BV (uK (k:=k) (hM.ext E) hB hv hk (ht.ext E)) ?_;rintro _ _ A1 ⟨H2,H3,KY,rfl,H4,E0⟩;have A0:=aa1 A1.2 A0;have E:=xt E A1.2;have Cr:=ab2 E0;refine I ?_;refine cl lf (jr (Cr).mt (uW hv hk) (A0).mt (kU eW) eB (ht.ext E)) ?_
 rintro _ _ Aw ⟨E9,ES,E7,rfl,FR,Ar⟩;have E:=xt E Aw.2;have Ax:=ab2 Ar;refine I ?_;refine cl lf (jr (Ax).mt (eR eB) (hM.ext E) hB eG (ht.ext E)) ?_;rintro _ _ E5 ⟨Af,E4,Ix,rfl,L1,As⟩;have E:=xt E E5.2;have E1:=ab2 As;refine aa (dr (vs:=[.slice Af k E4]) xx Z (K9 (E1).mt (eR eG) (Er.ext E hE) eC (ht.ext E)) (λ_ Av=>?_));have E:=xt E Av;refine I ?_;exact gg ⟨E,rfl⟩
def Er.lt {a:Addr}(h:Er w a):0<w.heap.size:=bt h
def ow.mono {xs:List R}{C:Rows}{chi:R}{fr:Int}(h:ow lo w v k xs C chi fr)(hl:lo'<=lo):ow lo' w v k xs C chi fr:=by
 obtain⟨A,E,B,D,H,e,h1,h2,h3,h4⟩:=h
 exact⟨A,E,B,D,H,e,h1,h2.mono hl,h3,h4.mono hl⟩
def Lq {xs:List R}{Cr:Rows}{chi:R}{fr:Int}(hg:Enters prog gf)(hc:∀W,aO w W->CL gf lb.toArray W (aG W λv w'=>ow W.heap.size w' v k xs Cr chi fr)):
 CL 38 #[.func (.func gf) #[] lb.toArray] w (aG w λv w'=>∃u,v=.tuple #[u,.int .i64 0]/\ow w.heap.size w' u k xs Cr chi fr):=by
 refine lQ func38 Z (I ?_);refine al dN (λAb nm A0=>?_);have E:=nm.2;refine al lO (λ_ Az O=>?_);have⟨A0,E⟩:=bn Az.2 A0 E;refine I ?_;refine aa (aD (vf:=[]) (vc:=[pT w.heap.size,pT Ab.heap.size]) Z Z ?_);refine aa (i8 (lb:=[pT w.heap.size,pT Ab.heap.size]) Z ?_);refine I ?_;refine aa (lW (f:=gf) (lb:=lb) (vs:=[]) hg Z Z (hc _ E) ?_);rintro _ _ Ay ⟨Ar,As,Ap,Ao,B2,rfl,Aw,Av,Ax,B1⟩;have⟨A0,O,E⟩:=cj Ay.2 A0 O E;have A1:=ab6 Av;have A2:=ab2 B1;refine aa (bF (b:=w.heap.size) (o:=0) (vs:=[.slice Ar xs.length As,.slice Ap k Ao,S chi.1,S chi.2,.int .i64 fr]) dG Z Z KK A0 (qa3 Z) (λ_ Af Aq=>?_));have O:=pb Af O;have A1:=ab9 Af U A1;have A2:=ac1 Af U A2;have E:=bi Af E;refine SO O (λ_ Am ny=>?_);have Aq:=pb Am Aq;have A1:=ab9 Am U A1;have A2:=ac1 Am U A2;have E:=bi Am E;refine I ?_;refine og (b1:=w.heap.size) (b2:=Ab.heap.size) (v:=.tuple #[.agg #[.slice Ar xs.length As,.slice Ap k Ao,S chi.1,S chi.2,.int .i64 fr],.int .i64 0]) IF (λ_ _=>Kb) E (cO (r1:=.cell 2 40) (r2:=.cell 3 36) Z ?_ ?_) ⟨_,rfl,_,_,_,_,_,rfl,Aw,((A1).rw).mono U,Ax,((A2).mt).mono U⟩
 refine ak (t:=2) (cs:=[.slice Ar xs.length As,.slice Ap k Ao,S chi.1,S chi.2,.int .i64 fr]) (b:=w.heap.size) (o:=0) nu Z dG ?_ ?_;exact Z;exact aa0 Aq (i:=0) Z;refine bC (t:=3) (b:=Ab.heap.size) (o:=0) y5 Z ?_ ?_;exact Z;exact ab4 ny Z
def wS {a:Addr}(hE:Er w a)(hg:Enters prog gf)(hc:∀W,aO w W->CL gf lb.toArray W (fe (pE a) W)):
 CL 38 #[.func (.func gf) #[] lb.toArray] w (aG w λv w'=>v=.tuple #[.agg #[.slice none 0 0,.slice none 0 0,S [],S [],.int .i64 0],.int .i64 140]):=by
 have hlt:=Er.lt hE;refine lQ func38 Z (I ?_);refine al dN (λA0 Af O=>?_);have E:=Af.2;refine al lO (λ_ A2 A1=>?_);have⟨O,E⟩:=bn A2.2 O E;refine I ?_;refine aa (aD (vf:=[]) (vc:=[pT w.heap.size,pT A0.heap.size]) Z Z ?_);refine aa (i8 (lb:=[pT w.heap.size,pT A0.heap.size]) Z ?_);refine I ?_;refine aa (jE (f:=gf) (lb:=lb) (vs:=[]) hg Z Z (hc _ E) (λ_ Ab=>?_));have⟨O,A1,E⟩:=cj Ab O A1 E;refine I ?_;refine Ua (b1:=w.heap.size) (b2:=A0.heap.size) (z:=#[.slice none 0 0,.slice none 0 0,S [],S [],.int .i64 0]) (cs:=#[.slice none 0 0,.slice none 0 0,S [],S [],.int .i64 0]) (c0:=0) (v:=.tuple #[.agg #[.slice none 0 0,.slice none 0 0,S [],S [],.int .i64 0],.int .i64 140]) IF Kg E (Er.ext E hE) O Z A1 U U U U (λ_ _ c1 c2=>⟨cO (r1:=.cell 2 40) (r2:=.cell 3 36) Z ?_ ?_,rfl⟩);refine ak (t:=2) (cs:=[.slice none 0 0,.slice none 0 0,S [],S [],.int .i64 0]) (b:=w.heap.size) (o:=0) nu Z dG ?_ ?_;exact Z;exact aa0 c1 (i:=0) Z;refine bC (t:=3) (b:=A0.heap.size) (o:=0) y5 Z ?_ ?_;exact Z;exact ab4 c2 Z
def Lr {x:Int}(hg:Enters prog gf)(hc:∀W,aO w W->CL gf lb.toArray W (aG W λv w'=>v=.int .i64 x)):
 CL 42 #[.func (.func gf) #[] lb.toArray] w (aG w λv w'=>v=.tuple #[.int .i64 x,.int .i64 0]):=by
 refine lQ func42 Z (I ?_);refine al k7 (λA1 Am A0=>?_);have E:=Am.2;refine al lO (λ_ Ao O=>?_);have⟨A0,E⟩:=bn Ao.2 A0 E;refine I ?_;refine aa (aD (vf:=[]) (vc:=[pT w.heap.size,pT A1.heap.size]) Z Z ?_);refine aa (i8 (lb:=[pT w.heap.size,pT A1.heap.size]) Z ?_);refine I ?_;refine aa (lW (f:=gf) (lb:=lb) (vs:=[]) hg Z Z (hc _ E) ?_);rintro _ _ Aq rfl;have⟨A0,O,E⟩:=cj Aq.2 A0 O E;refine SO A0 (λ_ Ab A2=>?_);have O:=pb Ab O;have E:=bi Ab E;refine SO O (λ_ Af Ap=>?_);have A2:=pb Af A2;have E:=bi Af E;refine I ?_;refine og (b1:=w.heap.size) (b2:=A1.heap.size) (v:=.tuple #[.int .i64 x,.int .i64 0]) SV (λ_ _=>Kc) E (cO (r1:=.cell 2 3) (r2:=.cell 3 36) Z ?_ ?_) Z;refine bC (t:=2) (b:=w.heap.size) (o:=0) U3 Z ?_ ?_;exact Z;exact ab4 A2 Z;refine bC (t:=3) (b:=A1.heap.size) (o:=0) y5 Z ?_ ?_;exact Z;exact ab4 Ap Z
def Ls {xs:List R}(hg:Enters prog gf)(hc:∀W,aO w W->CL gf lb.toArray W (aG W λv w'=>yx W.heap.size w' v xs)):
 CL 58 #[.func (.func gf) #[] lb.toArray] w (aG w λv w'=>∃u,v=.tuple #[u,.int .i64 0]/\yx w.heap.size w' u xs):=by
 refine lQ func58 Z (I ?_);refine al jB (λA2 As A0=>?_);have E:=As.2;refine al lO (λ_ Ap O=>?_);have⟨A0,E⟩:=bn Ap.2 A0 E;refine I ?_;refine aa (aD (vf:=[]) (vc:=[pT w.heap.size,pT A2.heap.size]) Z Z ?_);refine aa (i8 (lb:=[pT w.heap.size,pT A2.heap.size]) Z ?_);refine I ?_;refine aa (lW (f:=gf) (lb:=lb) (vs:=[]) hg Z Z (hc _ E) ?_);rintro _ _ Aw ⟨Aq,Av,rfl,Ao,Ar⟩;have⟨A0,O,E⟩:=cj Aw.2 A0 O E;have A1:=ab6 Ar;refine SO A0 (λ_ Ab Af=>?_);have O:=pb Ab O;have A1:=ab9 Ab U A1;have E:=bi Ab E;refine SO O (λ_ Am nm=>?_);have Af:=pb Am Af;have A1:=ab9 Am U A1;have E:=bi Am E;refine I ?_;refine og (b1:=w.heap.size) (b2:=A2.heap.size) (v:=.tuple #[.slice Aq xs.length Av,.int .i64 0]) S1 (λ_ _=>Kf) E (cO (r1:=.cell 2 28) (r2:=.cell 3 36) Z ?_ ?_) ⟨_,rfl,_,_,rfl,Ao,((A1).rw).mono U⟩;refine bC (t:=2) (b:=w.heap.size) (o:=0) tc Z ?_ ?_;exact Z;exact ab4 Af Z;refine bC (t:=3) (b:=A2.heap.size) (o:=0) y5 Z ?_ ?_;exact Z;exact ab4 nm Z
structure eT (L V:Rows)(ys:List R):Prop where
 hv:vM ys.length L=true
 hv3:vM ys.length V=true
 hVl:(V 0).length=ys.length
 hLl:(L 0).length<=ys.length
 hyo:ys.all bJ=true
 hp:pJ ys.length V=some true
structure ey (w:World)(A:Option Addr)(C:Nat)(Y:Option Addr)(CY:Nat)(B:Option Addr)(CB:Nat)(L V:Rows)(ys:List R):Prop where
 m:∃lo H,Mt w lo A ys.length H L
 y:∃lo,Rw w lo Y (ag ys)
 v:∃lo G,Mt w lo B ys.length G V
 c:ys.length<=CB
def ey.ext {L V:Rows}{ys:List R}(k:aO w w')(h:ey w A C Y CY B CB L V ys):ey w' A C Y CY B CB L V ys:=by
 obtain⟨⟨a,b,c⟩,⟨d,e⟩,⟨f,g,i⟩,j⟩:=h
 exact⟨⟨a,b,c.ext k⟩,⟨d,e.ext k⟩,⟨f,g,i.ext k⟩,j⟩
def Ft {ys:List R}(h:ys.all bJ=true)(h1:1<=ys.length)(h8:ys.length<=8):vM ys.length (bA ys)=true:=by
 unfold vM
 refine qa1 ⟨h1,h8,qa0 _,by show 1<=8;omega,λi hi=>⟨rfl,?_⟩⟩
 exact lC.2 λk _=>by
  have E : k = 0 := by have:(bA ys i).length=1:=rfl
                       omega
  subst E
  exact lC.1 h i hi
def Lt {L V:Rows}{ys:List R}(hD:ey w A C Y CY B CB L V ys)(ok:eT L V ys)(hb:ap w b 30 #[.slice A ys.length C,.slice Y ys.length CY,.slice B ys.length CB]){W0 B0 G0 C0 D0 X0 P0 Q0 S0:Rows}{rs xs:List R}(hk:(L 0).length=k)(e:Pg ys.length k L V ys W0 B0 G0 C0 D0 X0 P0 rs xs Q0 S0)(ht:Tb w):
 CL 39 #[pT b] w (aG w λv w'=>ow w.heap.size w' v k xs C0 (ar (S0 0) 0) (((ys.length:Nat):Int)-(k:Int))):=by
 obtain⟨_,H,hM⟩:=hD.m;obtain⟨_,hy⟩:=hD.y;obtain⟨_,G,hV⟩:=hD.v;have B1:=bt hb;refine aC func39 Z (I ?_);refine al dN (λ_ Ap O=>?_);have hb:=be Ap.2 hb;have E:=Ap.2;refine I ?_;(try refine aa (aP (cs:=[.slice A ys.length C,.slice Y ys.length CY,.slice B ys.length CB]) (b:=b) (o:=0) da Z bj Z (aa0 hb (i:=0) Z) ?_));refine cl lc (iH (hM.ext E) (dM ok.hv) (hy.ext E) (hV.ext E) (dM ok.hv3) hD.c ok.hv ok.hv3 ok.hVl ok.hLl ok.hyo ok.hp (ht.ext E)) ?_;rintro _ _ Aq rfl;have⟨hb,O,E⟩:=cj Aq.2 hb O E;refine cl fE dh ?_;rintro _ _ Av rfl;have⟨hb,O,E⟩:=cj Av.2 hb O E;refine I ?_;(try refine aa (aP (cs:=[.slice A ys.length C,.slice Y ys.length CY,.slice B ys.length CB]) (b:=b) (o:=0) da Z bj Z (aa0 hb (i:=0) Z) ?_));refine aa (bU (vs:=[(0,.agg #[.slice A ys.length C,.slice Y ys.length CY,.slice B ys.length CB])]) (cells:=#[.slice A ys.length C,.slice Y ys.length CY,.slice B ys.length CB]) (pl:=[(0,3)]) nw oQ q0 Z q0 ?_);refine cl IB (Pi (hM.ext E) (dM ok.hv) (hy.ext E) (hV.ext E) (dM ok.hv3) hD.c ok.hv hk (Ft ok.hyo (gZ ok.hv).1 (gZ ok.hv).2.1) e (ht.ext E)) ?_;rintro _ _ Aw ⟨Af,Ao,A2,Ab,Az,rfl,Ax,Ay,nm,As⟩;have⟨hb,O,E⟩:=cj Aw.2 hb O E
 have Am:=ab6 Ay;have A1:=ab2 As;refine aa (bF (b:=w.heap.size) (o:=0) (vs:=[.slice Af xs.length Ao,.slice A2 k Ab,S ((ar (S0 0) 0).1),S ((ar (S0 0) 0).2),.int .i64 (((ys.length:Nat):Int)-(k:Int))]) dG Z Z KK O (qa3 Z) (λ_ A0 Ar=>?_));have hb:=pb A0 hb;have Am:=ab9 A0 U Am;have A1:=ac1 A0 U A1;have E:=bi A0 E;refine I ?_;refine aX (v:=.agg #[.slice Af xs.length Ao,.slice A2 k Ab,S ((ar (S0 0) 0).1),S ((ar (S0 0) 0).2),.int .i64 (((ys.length:Nat):Int)-(k:Int))]) (bY  rfl ?_) E ⟨_,_,_,_,_,rfl,Ax,((Am).rw).mono U,nm,((A1).mt).mono U⟩;refine ak (t:=1) (cs:=[.slice Af xs.length Ao,.slice A2 k Ab,S ((ar (S0 0) 0).1),S ((ar (S0 0) 0).2),.int .i64 (((ys.length:Nat):Int)-(k:Int))]) (b:=w.heap.size) (o:=0) nu Z dG ?_ ?_;exact Z;exact aa0 Ar (i:=0) Z
def Hb {L V:Rows}{ys:List R}(hD:ey w A C Y CY B CB L V ys)(ok:eT L V ys)(hb:ap w b 30 #[.slice A ys.length C,.slice Y ys.length CY,.slice B ys.length CB]){a:Addr}{W0 B0 G0:Rows}(hk:(L 0).length=k)(hE:Er w a)(eW:ep ys.length V=some W0)(eB:c6 k (λj=>kX L ys.length j) ys.length W0=some B0)(eG:c6 k B0 ys.length L=some G0)(eC:ep k G0=none)(ht:Tb w):
 CL 39 #[pT b] w (fe (pE a) w):=by
 obtain⟨_,H,hM⟩:=hD.m;obtain⟨_,hy⟩:=hD.y;obtain⟨_,G,hV⟩:=hD.v;refine ia func39 Z (I ?_);refine al dN (λ_ O _=>?_);have hb:=be O.2 hb;have E:=O.2;refine I ?_;(try refine aa (aP (cs:=[.slice A ys.length C,.slice Y ys.length CY,.slice B ys.length CB]) (b:=b) (o:=0) da Z bj Z (aa0 hb (i:=0) Z) ?_));refine cl lc (iH (hM.ext E) (dM ok.hv) (hy.ext E) (hV.ext E) (dM ok.hv3) hD.c ok.hv ok.hv3 ok.hVl ok.hLl ok.hyo ok.hp (ht.ext E)) ?_;rintro _ _ A0 rfl;have⟨hb,E⟩:=bn A0.2 hb E;refine cl fE dh ?_;rintro _ _ A2 rfl;have⟨hb,E⟩:=bn A2.2 hb E;refine I ?_;(try refine aa (aP (cs:=[.slice A ys.length C,.slice Y ys.length CY,.slice B ys.length CB]) (b:=b) (o:=0) da Z bj Z (aa0 hb (i:=0) Z) ?_));refine aa (bU (vs:=[(0,.agg #[.slice A ys.length C,.slice Y ys.length CY,.slice B ys.length CB])]) (cells:=#[.slice A ys.length C,.slice Y ys.length CY,.slice B ys.length CB]) (pl:=[(0,3)]) nw oQ q0 Z q0 ?_)
 refine aa (dr (vs:=[.agg #[.slice A ys.length C,.slice Y ys.length CY,.slice B ys.length CB]]) IB Z (Lp (hM.ext E) (dM ok.hv) (hy.ext E) (hV.ext E) (dM ok.hv3) hD.c ok.hv hk (Ft ok.hyo (gZ ok.hv).1 (gZ ok.hv).2.1) (Er.ext E hE) eW eB eG eC (ht.ext E)) (λ_ A1=>?_));have E:=xt E A1;refine I ?_;exact gg ⟨E,rfl⟩
def yz {L V:Rows}{ys:List R}(hD:ey w A C Y CY B CB L V ys)(ok:eT L V ys){W0 B0 G0 C0 D0 X0 P0 Q0 S0:Rows}{rs xs:List R}(hk:(L 0).length=k)(e:Pg ys.length k L V ys W0 B0 G0 C0 D0 X0 P0 rs xs Q0 S0)(ht:Tb w):
 CL 14 #[.agg #[.slice A ys.length C,.slice Y ys.length CY,.slice B ys.length CB]] w (aG w λv w'=>∃u,v=.tuple #[u,.int .i64 0]/\ow w.heap.size w' u k xs C0 (ar (S0 0) 0) (((ys.length:Nat):Int)-(k:Int))):=by
 refine aC func14 Z (I ?_);refine bx (λAq Ay O=>?_);have E:=Ay.2;refine al dN (λ_ Av Ap=>?_);have⟨O,E⟩:=bn Av.2 O E;refine I ?_;refine aa (aD (vf:=[]) (vc:=[pT w.heap.size]) Z Z ?_);refine cl BR (Lq (gf:=39) (lb:=[pT w.heap.size]) BU (λW q=>Lt (hD.ext (xt E q)) ok (be q O) hk e (ht.ext (xt E q)))) ?_;rintro _ _ Ax ⟨B2,rfl,A1,A2,Ab,Am,B1,rfl,Az,nm,As,Ar⟩;have⟨O,Ap,E⟩:=cj Ax.2 O Ap E;have Af:=ab6 nm;have Ao:=ab2 Ar;refine I ?_;refine aa (bF (b:=Aq.heap.size) (o:=0) (vs:=[.slice A1 xs.length A2,.slice Ab k Am,S ((ar (S0 0) 0).1),S ((ar (S0 0) 0).2),.int .i64 (((ys.length:Nat):Int)-(k:Int))]) dG Z Z KK Ap (qa3 Z) (λ_ A0 Aw=>?_));have O:=pb A0 O;have Af:=ab9 A0 U Af;have Ao:=ac1 A0 U Ao;have E:=bi A0 E;refine I ?_;refine aX (v:=.tuple #[.agg #[.slice A1 xs.length A2,.slice Ab k Am,S ((ar (S0 0) 0).1),S ((ar (S0 0) 0).2),.int .i64 (((ys.length:Nat):Int)-(k:Int))],.int .i64 0]) (cO (r1:=.cell 2 40) (r2:=.tmp 3) Z ?_ ?_) E ⟨_,rfl,_,_,_,_,_,rfl,Az,((Af).rw).mono U,As,((Ao).mt).mono U⟩
 refine ak (t:=2) (cs:=[.slice A1 xs.length A2,.slice Ab k Am,S ((ar (S0 0) 0).1),S ((ar (S0 0) 0).2),.int .i64 (((ys.length:Nat):Int)-(k:Int))]) (b:=Aq.heap.size) (o:=0) nu Z dG ?_ ?_;exact Z;exact aa0 Aw (i:=0) Z;exact aL (t:=3) GS _
def Lu {L V:Rows}{ys:List R}(hD:ey w A C Y CY B CB L V ys)(ok:eT L V ys){a:Addr}{W0 B0 G0:Rows}(hk:(L 0).length=k)(hE:Er w a)(eW:ep ys.length V=some W0)(eB:c6 k (λj=>kX L ys.length j) ys.length W0=some B0)(eG:c6 k B0 ys.length L=some G0)(eC:ep k G0=none)(ht:Tb w):
 CL 14 #[.agg #[.slice A ys.length C,.slice Y ys.length CY,.slice B ys.length CB]] w (aG w λv w'=>v=.tuple #[.agg #[.slice none 0 0,.slice none 0 0,S [],S [],.int .i64 0],.int .i64 140]):=by
 refine aC func14 Z (I ?_);refine bx (λA1 Ao O=>?_);have E:=Ao.2;refine al dN (λ_ Am A0=>?_);have⟨O,E⟩:=bn Am.2 O E;refine I ?_;refine aa (aD (vf:=[]) (vc:=[pT w.heap.size]) Z Z ?_);refine cl BR (wS (gf:=39) (lb:=[pT w.heap.size]) (Er.ext E hE) BU (λW q=>Hb (hD.ext (xt E q)) ok (be q O) hk (Er.ext (xt E q) hE) eW eB eG eC (ht.ext (xt E q)))) ?_;rintro _ _ Ab rfl;have⟨O,A0,E⟩:=cj Ab.2 O A0 E;refine I ?_;refine aa (bF (b:=A1.heap.size) (o:=0) (vs:=[.slice none 0 0,.slice none 0 0,S [],S [],.int .i64 0]) dG Z Z KK A0 (qa3 Z) (λ_ A2 Af=>?_));have O:=pb A2 O;have E:=bi A2 E;refine I ?_;refine aX (v:=.tuple #[.agg #[.slice none 0 0,.slice none 0 0,S [],S [],.int .i64 0],.int .i64 140]) (cO (r1:=.cell 2 40) (r2:=.tmp 3) Z ?_ ?_) E Z;refine ak (t:=2) (cs:=[.slice none 0 0,.slice none 0 0,S [],S [],.int .i64 0]) (b:=A1.heap.size) (o:=0) nu Z dG ?_ ?_;exact Z;exact aa0 Af (i:=0) Z;exact aL (t:=3) GS _
def XC :Mt w 0 none 0 (λ_=>.nilIface) rO:=⟨by simpa using Rw.nil w 0,λi h=>by omega,λi h=>by omega,λi h=>by omega⟩
def UJ:vM 0 rO=false:=qa2 λh=>by have:=h.1;omega
def uX (ht:Tb w):
 CL 32 #[.agg #[.slice none 0 0,.slice none 0 0,.slice none 0 0]] w (aG w λv w'=>v=.bool false):=by
 refine aC func32 Z (I ?_);refine bx (λ_ O _=>?_);have E:=O.2;refine I ?_;refine cl ry (nc (Y:=.bool false) (val_ok XC yy (ht.ext E)) (qb2 Value.bool UJ)) ?_;rintro _ _ A0 rfl;have E:=xt E A0.2;refine I ?_;exact am (t:=2) (v:=.bool false) Z E Z Z
def Di {a:Addr}(hb:ap w b 30 #[.slice none 0 0,.slice none 0 0,.slice none 0 0])(hE:Er w a)(ht:Tb w):
 CL 39 #[pT b] w (fe (pE a) w):=by
 refine ia func39 Z (I ?_);refine al dN (λ_ O _=>?_);have hb:=be O.2 hb;have E:=O.2;refine I ?_;(try refine aa (aP (cs:=[.slice none 0 0,.slice none 0 0,.slice none 0 0]) (b:=b) (o:=0) da Z bj Z (aa0 hb (i:=0) Z) ?_));refine cl lc (uX (ht.ext E)) ?_;rintro _ _ A0 rfl;have E:=xt E A0.2;refine aa (dr (vs:=[.bool false]) fE Z (uG (Er.ext E hE)) (λ_ A1=>?_));have E:=xt E A1;refine I ?_;exact gg ⟨E,rfl⟩
def Lv {a:Addr}(hE:Er w a)(ht:Tb w):
 CL 14 #[.agg #[.slice none 0 0,.slice none 0 0,.slice none 0 0]] w (aG w λv w'=>v=.tuple #[.agg #[.slice none 0 0,.slice none 0 0,S [],S [],.int .i64 0],.int .i64 140]):=by
 refine aC func14 Z (I ?_);refine bx (λA1 Ao O=>?_);have E:=Ao.2;refine al dN (λ_ Am A0=>?_);have⟨O,E⟩:=bn Am.2 O E;refine I ?_;refine aa (aD (vf:=[]) (vc:=[pT w.heap.size]) Z Z ?_);refine cl BR (wS (gf:=39) (lb:=[pT w.heap.size]) (Er.ext E hE) BU (λW q=>Di (be q O) (Er.ext (xt E q) hE) (ht.ext (xt E q)))) ?_;rintro _ _ Ab rfl;have⟨O,A0,E⟩:=cj Ab.2 O A0 E;refine I ?_;refine aa (bF (b:=A1.heap.size) (o:=0) (vs:=[.slice none 0 0,.slice none 0 0,S [],S [],.int .i64 0]) dG Z Z KK A0 (qa3 Z) (λ_ A2 Af=>?_));have O:=pb A2 O;have E:=bi A2 E;refine I ?_;refine aX (v:=.tuple #[.agg #[.slice none 0 0,.slice none 0 0,S [],S [],.int .i64 0],.int .i64 140]) (cO (r1:=.cell 2 40) (r2:=.tmp 3) Z ?_ ?_) E Z;refine ak (t:=2) (cs:=[.slice none 0 0,.slice none 0 0,S [],S [],.int .i64 0]) (b:=A1.heap.size) (o:=0) nu Z dG ?_ ?_;exact Z;exact aa0 Af (i:=0) Z;exact aL (t:=3) GS _
def Lw {L V:Rows}{ys:List R}(hD:ey w A C Y CY B CB L V ys)(ok:eT L V ys){zs:List R}(hb:ap w b 30 #[.slice A ys.length C,.slice Y ys.length CY,.slice B ys.length CB])(hb2:ap w b2 28 #[.slice X zs.length CX])(hz:Rw w lo4 X (ag zs)){P:Rows}{rs:List R}(hzv:vM zs.length (bA zs)=true)(eP:c6 ys.length L zs.length (bA zs)=some P)(hPl:∀i,i<ys.length->0<(P i).length)(hrl:rs.length=ys.length)(hr:∀i,i<ys.length->dn (ar ys i) (ar (P i) 0)=some (ar rs i))(ht:Tb w):
 CL 59 #[pT b,pT b2] w (aG w λv w'=>yx w.heap.size w' v rs):=by
 obtain⟨_,H,hM⟩:=hD.m;obtain⟨_,hy⟩:=hD.y;obtain⟨_,G,hV⟩:=hD.v;have E0:=(gZ hzv).2.1;refine aC func59 Z (I ?_);(try refine aa (aP (cs:=[.slice A ys.length C,.slice Y ys.length CY,.slice B ys.length CB]) (b:=b) (o:=0) da Z bj Z (aa0 hb (i:=0) Z) ?_));refine cl lc (iH (hM.ext (aa4 _)) (dM ok.hv) (hy.ext (aa4 _)) (hV.ext (aa4 _)) (dM ok.hv3) hD.c ok.hv ok.hv3 ok.hVl ok.hLl ok.hyo ok.hp (ht.ext (aa4 _))) ?_;rintro _ _ O rfl;have⟨hb,hb2⟩:=dZ O.2 hb hb2;have E:=O.2;refine cl fE dh ?_;rintro _ A0 Ap rfl;have⟨hb,hb2,E⟩:=cj Ap.2 hb hb2 E;refine I ?_;refine bL 4 ?_;refine aA (λ_ _ Aq _=>by have hb:=be Aq hb;(try refine aa (aP (cs:=[.slice A ys.length C,.slice Y ys.length CY,.slice B ys.length CB]) (b:=b) (o:=0) da Z bj Z (aa0 hb (i:=0) Z) ?_));refine I ?_;exact aH) ?_;refine aA (λ_ _ _ _=>by refine aa (bU (vs:=[(0,.agg #[.slice A ys.length C,.slice Y ys.length CY,.slice B ys.length CB])]) (cells:=#[.slice A ys.length C,.slice Y ys.length CY,.slice B ys.length CB]) (pl:=[(0,3)]) nw oQ q0 Z q0 ?_);refine I ?_;exact aH) ?_;refine sf ?_
 refine bR (fun(v:Value) (W:World)=>∃A C H,v=Value.slice A zs.length C/\zs.length<=C/\Mt W A0.heap.size A zs.length H (bA zs)) (hs:=λ_ _ _ k h=>by obtain⟨A,C,H,e,c,r⟩:=h;exact⟨A,C,H,e,c,r.ext k⟩) (λ_ _ A1 _=>?_) ?_;refine clb xu (hc:=lG (hz.ext (xt E A1)) U) (hk:=?_);rintro _ _ Ao ⟨CG,E1,Cr,rfl,As,nm⟩;have Ax:=ab2 nm;refine I ?_;exact fs ⟨Ao.2,⟨_,_,_,rfl,As,((Ax).mt).mono (by have:=bz A1;omega)⟩⟩;refine sf ?_;intro A2 Af B1 B2;have E:=xt E B1.2;have ny:∃A C H,A2 9=Value.slice A zs.length C/\zs.length<=C/\Mt Af A0.heap.size A zs.length H (bA zs):=(B2 3 9 Z Z);(with_reducible obtain⟨_,_,_,Am,_,Aw⟩:=ny);have C1:=ab2 Aw;refine cl IE (AN (hM.ext E) (dM ok.hv) (hy.ext E) (hV.ext E) (dM ok.hv3) hD.c ok.hv (C1).mt (dM hzv) eP (eR eP) hPl hrl hr (ht.ext E)) ?_ (av Z (av (by exact Am) Z));rintro _ _ Av ⟨Ab,Ay,rfl,Ar,Az⟩;have E:=xt E Av.2;have wr:=ab6 Az;refine I ?_;exact am (t:=2) (v:=.slice Ab rs.length Ay) Z E ⟨_,_,rfl,Ar,((wr).rw).mono U⟩ Z
def Fu {L V:Rows}{ys:List R}(hD:ey w A C Y CY B CB L V ys)(ok:eT L V ys){zs:List R}(hz:Rw w lo4 X (ag zs)){P:Rows}{rs:List R}(hzv:vM zs.length (bA zs)=true)(eP:c6 ys.length L zs.length (bA zs)=some P)(hPl:∀i,i<ys.length->0<(P i).length)(hrl:rs.length=ys.length)(hr:∀i,i<ys.length->dn (ar ys i) (ar (P i) 0)=some (ar rs i))(ht:Tb w):
 CL 24 #[.agg #[.slice A ys.length C,.slice Y ys.length CY,.slice B ys.length CB],.slice X zs.length CX] w (aG w λv w'=>∃u,v=.tuple #[u,.int .i64 0]/\yx w.heap.size w' u rs):=by
 obtain⟨_,H,_⟩:=hD.m;obtain⟨_,_⟩:=hD.y;obtain⟨_,G,_⟩:=hD.v;refine aC func24 Z (I ?_);refine bx (λA0 Ao O=>?_);have E:=Ao.2;refine bx (λ_ Ar A1=>?_);have⟨O,E⟩:=bn Ar.2 O E;refine I ?_;refine aa (aD (vf:=[]) (vc:=[pT w.heap.size,pT A0.heap.size]) Z Z ?_);refine cl SP (Ls (gf:=59) (lb:=[pT w.heap.size,pT A0.heap.size]) SQ (λW q=>Lw (hD.ext (xt E q)) ok (be q O) (be q A1) (hz.ext (xt E q)) hzv eP hPl hrl hr (ht.ext (xt E q)))) ?_;rintro _ _ Ab ⟨nm,rfl,Af,Ap,rfl,Am,Aq⟩;have E:=xt E Ab.2;have A2:=ab6 Aq;refine I ?_;exact bu (t:=4) (u:=5) (v1:=.slice Af rs.length Ap) (v2:=.int .i64 0) Z E ⟨_,rfl,_,_,rfl,Am,((A2).rw).mono U⟩ Z Z
def Sc.fi {S:Nat}(h:Sc S):Fi S:=g5 h.lt dc
def Lx (k:Nat):ew (49::List.replicate k 48)=List.replicate k 0++[1]:=by simp[ew]
def Ly (k:Nat):bO 10 (List.replicate k 0++[1])=10^k:=by
 induction k with
 |zero=>rfl
 |succ k ih=>rw[List.replicate_succ,List.cons_append];show 0+10*bO 10 (List.replicate k 0++[1])=_;rw[ih,Nat.pow_succ];omega
def Pj (h:k<200):(49::List.replicate k 48:List UInt8)=nS (10^k):=by
 have h1:ec (49::List.replicate k 48)=true:=by
  simp only[ec,Bool.and_eq_true,Bool.or_eq_true,decide_eq_true_eq]
  refine⟨⟨⟨by simp,by simp;omega⟩,?_⟩,Or.inr Wf⟩
  rw[List.all_cons,List.all_eq_true.2]
  · decide
  · intro x hx;rw[List.eq_of_mem_replicate hx];decide
 have h2:=tO h1
 have h3:aE (49::List.replicate k 48)=10^k:=by unfold aE;rw[Lx,Ly]
 rw[h3]at h2
 rw[<-h2];unfold nS ae
 rw[if_neg U,Int.natAbs_natCast]
def qP (k:Nat):Lib.repeatL [48] k=List.replicate k 48:=by
 induction k with
 |zero=>rfl
 |succ k ih=>simp[Lib.repeatL,List.replicate_succ]at ih ⊢;exact ih
def pW (h:k<200):([49]:List UInt8)++Lib.repeatL [48] k=nS (10^k):=by rw[qP,<-Pj h];rfl
def Lz {a:Nat}(ha:a<10^199)(hb:b<10^199):Fz ((a:Int)-(b:Int)):=by unfold Fz;omega
def nf (hp:pl<200)(ht:Tb w):
 CL 202 #[.int .i64 pl] w (aG w λv w'=>v=.agg #[.int .i64 pl,S (nS (10^pl))]):=by
 refine aC func202 Z (I ?_);refine al oP (λ_ Ab O=>?_);have E:=Ab.2;refine I ?_;refine clb Ig (hc:=qC [48] pl _ U dc) (hk:=?_);rintro _ _ A2 rfl;have⟨O,E⟩:=bn A2.2 O E;refine aa (xh (a:=[49]) (b:=Lib.repeatL [48] pl) Z Z (by rw[qP];simp;omega) ?_);refine I ?_;refine SA O (λ_ A1 A0=>?_);have E:=bi A1 E;refine I ?_;refine aX (v:=.agg #[.int .i64 pl,S (([49])++(Lib.repeatL [48] pl))]) (bY  rfl ?_) E (by rw[pW hp]);refine ak (t:=2) (cs:=[.int .i64 pl,S (([49])++(Lib.repeatL [48] pl))]) (b:=w.heap.size) (o:=0) DJ Z H5 ?_ ?_;exact Z;exact aa0 A0 (i:=0) Z
def gI {a b:List UInt8}:
 CL 149 #[S a,S b] w (aG w λv w'=>v=.agg #[S a,S b]):=by
 refine aC func149 Z (I ?_);refine al aS (λ_ A1 A0=>?_);have E:=A1.2;refine I ?_;refine SA A0 (λ_ O A2=>?_);have E:=bi O E;refine I ?_;refine aX (v:=.agg #[S a,S b]) (bY  rfl ?_) E Z;refine ak (t:=4) (cs:=[S a,S b]) (b:=w.heap.size) (o:=0) iK Z bX ?_ ?_;exact Z;exact aa0 A2 (i:=0) Z
def Pk {d:Nat}(hS:Sc sO)(hn:Fi n)(hd:Fi d)(h0:0<d)(hm:Fi (n*sO))(ht:Tb w):
 CL 188 #[.agg #[.int .i64 pl,S (nS sO)],.agg #[S (nS n),S (nS d)]] w (aG w λv w'=>v=.agg #[S (nS ((p7 sO n d).1)),S (nS ((p7 sO n d).2))]):=by
 refine aC func188 Z (I ?_);refine bx (λ_ ny O=>?_);have E:=ny.2;refine bx (λAp Aq A0=>?_);have⟨O,E⟩:=bn Aq.2 O E;refine al bM (λ_ Ar A1=>?_);have⟨O,A0,E⟩:=cj Ar.2 O A0 E;refine I ?_;refine cl ir (gd Z Z hn hS.fi hm (ht.ext E)) ?_;rintro _ _ Ab rfl;have⟨O,A0,A1,E⟩:=fo Ab.2 O A0 A1 E;refine I ?_;refine bL 7 ?_;refine sf ?_;refine aR (V:=S (nS ((n*sO)/d))) (λ_ _ Ao _=>?_) ?_;refine cl xo (pO Z Z hm hd h0 (ht.ext (xt E Ao))) ?_;rintro _ _ As rfl;have od:=As.2;refine I ?_;exact fs ⟨od,rfl⟩;refine sf ?_;intro _ _ Am _;have⟨O,A0,A1,E⟩:=fo Am.2 O A0 A1 E;refine cl xp (yr Z Z hm hd h0 (ht.ext E)) ?_;rintro _ _ Af rfl;have⟨O,A0,A1,E⟩:=fo Af.2 O A0 A1 E;refine I ?_;refine SA A1 (λ_ A2 Av=>?_);have⟨O,A0⟩:=jU A2 O A0;have E:=bi A2 E;refine I ?_;refine aX (v:=.agg #[S (nS ((n*sO)/d)),S (nS (sK (n*sO) d))]) (bY  rfl ?_) E Z;refine ak (t:=4) (cs:=[S (nS ((n*sO)/d)),S (nS (sK (n*sO) d))]) (b:=Ap.heap.size) (o:=0) jm Z fw ?_ ?_;exact Z;exact aa0 Av (i:=0) Z
def iI (hS:Sc sO)(h9:n<10^9)(hm:Fi (n*sO))(ht:Tb w):
 CL 191 #[.agg #[.int .i64 pl,S (nS sO)],.int .i64 n] w (aG w λv w'=>v=.agg #[S (nS ((n*sO,n*sO).1)),S (nS ((n*sO,n*sO).2))]):=by
 have Ar:Fi n:=g5 (k:=9) h9 dc;refine aC func191 Z (I ?_);refine bx (λAf Am O=>?_);have E:=Am.2;refine al bM (λ_ Ao A0=>?_);have⟨O,E⟩:=bn Ao.2 O E;refine I ?_;refine bL 4 ?_;refine sf ?_;refine aR (V:=S (nS n)) (λ_ _ Ab _=>?_) ?_;refine cl tj (uJ h9 (ht.ext (xt E Ab))) ?_;rintro _ _ As rfl;have Aq:=As.2;refine I ?_;exact fs ⟨Aq,rfl⟩;refine sf ?_;intro _ _ A2 _;have⟨O,A0,E⟩:=cj A2.2 O A0 E;refine cl ir (gd Z Z Ar hS.fi hm (ht.ext E)) ?_;rintro _ _ Ap rfl;have⟨O,A0,E⟩:=cj Ap.2 O A0 E;refine I ?_;refine SA A0 (λ_ A1 nm=>?_);have O:=pb A1 O;have E:=bi A1 E;refine I ?_;refine aX (v:=.agg #[S (nS (n*sO)),S (nS (n*sO))]) (bY  rfl ?_) E Z;refine ak (t:=4) (cs:=[S (nS (n*sO)),S (nS (n*sO))]) (b:=Af.heap.size) (o:=0) jm Z fw ?_ ?_;exact Z;exact aa0 nm (i:=0) Z
def Hc {a b:N2}(h1:Fi (a.1+b.1))(h2:Fi (a.2+b.2))(ht:Tb w):
 CL 223 #[.agg #[.int .i64 pl,S (nS sO)],.agg #[S (nS a.1),S (nS a.2)],.agg #[S (nS b.1),S (nS b.2)]] w (aG w λv w'=>v=.agg #[S (nS ((Rq a b).1)),S (nS ((Rq a b).2))]):=by
 refine aC func223 Z (I ?_);refine bx (λ_ Ap O=>?_);have E:=Ap.2;refine bx (λ_ Ax A0=>?_);have⟨O,E⟩:=bn Ax.2 O E;refine bx (λAv od A1=>?_);have⟨O,A0,E⟩:=cj od.2 O A0 E;refine al bM (λ_ As A2=>?_);have⟨O,A0,A1,E⟩:=fo As.2 O A0 A1 E;refine I ?_;refine bL 9 ?_;refine sf ?_;refine aR (V:=S (nS (a.1+b.1))) (λ_ _ Af _=>?_) ?_;refine cl mj (ke Z Z h1 (ht.ext (xt E Af))) ?_;rintro _ _ Aq rfl;have Ao:=Aq.2;refine I ?_;exact fs ⟨Ao,rfl⟩;refine sf ?_;intro _ _ Aw _;have⟨O,A0,A1,A2,E⟩:=ku Aw.2 O A0 A1 A2 E;refine cl mj (ke Z Z h2 (ht.ext E)) ?_;rintro _ _ Am rfl;have⟨O,A0,A1,A2,E⟩:=ku Am.2 O A0 A1 A2 E;refine I ?_;refine SA A2 (λ_ Ab Ar=>?_);have⟨O,A0,A1⟩:=p0 Ab O A0 A1;have E:=bi Ab E;refine I ?_;refine aX (v:=.agg #[S (nS (a.1+b.1)),S (nS (a.2+b.2))]) (bY  rfl ?_) E Z;refine ak (t:=6) (cs:=[S (nS (a.1+b.1)),S (nS (a.2+b.2))]) (b:=Av.heap.size) (o:=0) jm Z fw ?_ ?_;exact Z;exact aa0 Ar (i:=0) Z
def uZ {a b:N2}(ha:Bk 199 a)(hb:Bk 199 b)(ht:Tb w):
 CL 197 #[.agg #[.int .i64 pl,S (nS sO)],.agg #[S (nS a.1),S (nS a.2)],.agg #[S (nS b.1),S (nS b.2)]] w (aG w λv w'=>v=.agg #[S (ae ((Bv a b).1)),S (ae ((Bv a b).2))]):=by
 have Am:=ha.fi dc;have Af:=hb.fi dc;refine aC func197 Z (I ?_);refine bx (λ_ Ao O=>?_);have E:=Ao.2;refine bx (λ_ Ar A0=>?_);have⟨O,E⟩:=bn Ar.2 O E;refine bx (λAq od A1=>?_);have⟨O,A0,E⟩:=cj od.2 O A0 E;refine al bM (λ_ Ap A2=>?_);have⟨O,A0,A1,E⟩:=fo Ap.2 O A0 A1 E;refine I ?_;refine bL 9 ?_;refine sf ?_;refine aR (V:=S (ae (((a.1:Nat):Int)-((b.2:Nat):Int)))) (λ_ _ As _=>?_) ?_;refine cl Io (Fl Z Z Am.1.z Af.2.z (Lz ha.1 hb.2) (ht.ext (xt E As))) ?_;rintro _ _ Ay rfl;have Aw:=Ay.2;refine I ?_;exact fs ⟨Aw,rfl⟩;refine sf ?_;intro _ _ Az _;have⟨O,A0,A1,A2,E⟩:=ku Az.2 O A0 A1 A2 E;refine cl Io (Fl Z Z Am.2.z Af.1.z (Lz ha.2 hb.1) (ht.ext E)) ?_;rintro _ _ Av rfl;have⟨O,A0,A1,A2,E⟩:=ku Av.2 O A0 A1 A2 E;refine I ?_;refine SA A2 (λ_ Ab Ax=>?_);have⟨O,A0,A1⟩:=p0 Ab O A0 A1;have E:=bi Ab E;refine I ?_;refine aX (v:=.agg #[S (ae (((a.1:Nat):Int)-((b.2:Nat):Int))),S (ae (((a.2:Nat):Int)-((b.1:Nat):Int)))]) (bY  rfl ?_) E Z;refine ak (t:=6) (cs:=[S (ae (((a.1:Nat):Int)-((b.2:Nat):Int))),S (ae (((a.2:Nat):Int)-((b.1:Nat):Int)))]) (b:=Aq.heap.size) (o:=0) jm Z fw ?_ ?_;exact Z;exact aa0 Ax (i:=0) Z
def gJ {a b:N2}(hS:Sc sO)(ha:Bk 95 a)(hb:Bk 95 b)(ht:Tb w):
 CL 193 #[.agg #[.int .i64 pl,S (nS sO)],.agg #[S (nS a.1),S (nS a.2)],.agg #[S (nS b.1),S (nS b.2)]] w (aG w λv w'=>v=.agg #[S (nS ((na sO a b).1)),S (nS ((na sO a b).2))]):=by
 have Am:=ha.fi dc;have Af:=hb.fi dc;refine aC func193 Z (I ?_);refine bx (λ_ E1 O=>?_);have E:=E1.2;refine bx (λ_ Cr A0=>?_);have⟨O,E⟩:=bn Cr.2 O E;refine bx (λAy Aw A1=>?_);have⟨O,A0,E⟩:=cj Aw.2 O A0 E;refine al bM (λ_ Ap A2=>?_);have⟨O,A0,A1,E⟩:=fo Ap.2 O A0 A1 E;refine I ?_;refine bL 15 ?_;refine sf ?_;refine aR (V:=S (nS (a.1*b.1))) (λ_ _ Az _=>?_) ?_;refine clb ir (hc:=gd Z Z Am.1 Af.1 (fM ha.1 hb.1 dc) (ht.ext (xt E Az))) (hk:=?_);rintro _ _ C1 rfl;have As:=C1.2;refine I ?_;exact fs ⟨As,rfl⟩;refine sf ?_;refine aR (V:=S (nS ((a.1*b.1)/sO))) (λ_ _ E0 _=>?_) ?_;refine clb xo (hc:=pO Z Z (fM ha.1 hb.1 dc) hS.fi hS.pos (ht.ext (xt E E0))) (hk:=?_);rintro _ _ B1 rfl;have Ao:=B1.2;refine I ?_;exact fs ⟨Ao,rfl⟩;refine sf ?_;refine aR (V:=S (nS (a.2*b.2))) (λ_ _ B2 _=>?_) ?_;refine clb ir (hc:=gd Z Z Am.2 Af.2 (fM ha.2 hb.2 dc) (ht.ext (xt E B2))) (hk:=?_);rintro _ _ CG rfl;have Ar:=CG.2;refine I ?_;exact fs ⟨Ar,rfl⟩;refine sf ?_;intro _ _ Av _;have⟨O,A0,A1,A2,E⟩:=ku Av.2 O A0 A1 A2 E;refine clb xp (hc:=yr Z Z (fM ha.2 hb.2 dc) hS.fi hS.pos (ht.ext E)) (hk:=?_);rintro _ _ Aq rfl;have⟨O,A0,A1,A2,E⟩:=ku Aq.2 O A0 A1 A2 E;refine I ?_;refine SA A2 (λ_ Ab Ax=>?_);have⟨O,A0,A1⟩:=p0 Ab O A0 A1
 have E:=bi Ab E;refine I ?_;refine aX (v:=.agg #[S (nS ((a.1*b.1)/sO)),S (nS (sK (a.2*b.2) sO))]) (bY  rfl ?_) E Z;refine ak (t:=6) (cs:=[S (nS ((a.1*b.1)/sO)),S (nS (sK (a.2*b.2) sO))]) (b:=Ay.heap.size) (o:=0) jm Z fw ?_ ?_;exact Z;exact aa0 Ax (i:=0) Z
def wT {a b:N2}(hS:Sc sO)(ha:Bk 95 a)(hb:Bk 190 b)(h1:0<b.1)(h2:0<b.2)(ht:Tb w):
 CL 198 #[.agg #[.int .i64 pl,S (nS sO)],.agg #[S (nS a.1),S (nS a.2)],.agg #[S (nS b.1),S (nS b.2)]] w (aG w λv w'=>v=.agg #[S (nS ((vL sO a b).1)),S (nS ((vL sO a b).2))]):=by
 have Am:=ha.fi dc;have Af:=hb.fi dc;refine aC func198 Z (I ?_);refine bx (λ_ E1 O=>?_);have E:=E1.2;refine bx (λ_ Cr A0=>?_);have⟨O,E⟩:=bn Cr.2 O E;refine bx (λAy Aw A1=>?_);have⟨O,A0,E⟩:=cj Aw.2 O A0 E;refine al bM (λ_ Ap A2=>?_);have⟨O,A0,A1,E⟩:=fo Ap.2 O A0 A1 E;refine I ?_;refine bL 15 ?_;refine sf ?_;refine aR (V:=S (nS (a.1*sO))) (λ_ _ Az _=>?_) ?_;refine clb ir (hc:=gd Z Z Am.1 hS.fi (fM ha.1 hS.lt dc) (ht.ext (xt E Az))) (hk:=?_);rintro _ _ C1 rfl;have As:=C1.2;refine I ?_;exact fs ⟨As,rfl⟩;refine sf ?_;refine aR (V:=S (nS ((a.1*sO)/b.2))) (λ_ _ E0 _=>?_) ?_;refine clb xo (hc:=pO Z Z (fM ha.1 hS.lt dc) Af.2 h2 (ht.ext (xt E E0))) (hk:=?_);rintro _ _ B1 rfl;have Ao:=B1.2;refine I ?_;exact fs ⟨Ao,rfl⟩;refine sf ?_;refine aR (V:=S (nS (a.2*sO))) (λ_ _ B2 _=>?_) ?_;refine clb ir (hc:=gd Z Z Am.2 hS.fi (fM ha.2 hS.lt dc) (ht.ext (xt E B2))) (hk:=?_);rintro _ _ CG rfl;have Ar:=CG.2;refine I ?_;exact fs ⟨Ar,rfl⟩;refine sf ?_;intro _ _ Av _;have⟨O,A0,A1,A2,E⟩:=ku Av.2 O A0 A1 A2 E;refine clb xp (hc:=yr Z Z (fM ha.2 hS.lt dc) Af.1 h1 (ht.ext E)) (hk:=?_);rintro _ _ Aq rfl;have⟨O,A0,A1,A2,E⟩:=ku Aq.2 O A0 A1 A2 E;refine I ?_;refine SA A2 (λ_ Ab Ax=>?_);have⟨O,A0,A1⟩:=p0 Ab O A0 A1;have E:=bi Ab E
 refine I ?_;refine aX (v:=.agg #[S (nS ((a.1*sO)/b.2)),S (nS (sK (a.2*sO) b.1))]) (bY  rfl ?_) E Z;refine ak (t:=6) (cs:=[S (nS ((a.1*sO)/b.2)),S (nS (sK (a.2*sO) b.1))]) (b:=Ay.heap.size) (o:=0) jm Z fw ?_ ?_;exact Z;exact aa0 Ax (i:=0) Z
def lI {a:N2}{d:Nat}(ha:Bk 190 a)(hn:n<10^9)(hd:d<10^9)(h0:0<d)(ht:Tb w):
 CL 187 #[.agg #[.int .i64 pl,S (nS sO)],.agg #[S (nS a.1),S (nS a.2)],.int .i64 n,.int .i64 d] w (aG w λv w'=>v=.agg #[S (nS ((lF a n d).1)),S (nS ((lF a n d).2))]):=by
 have A2:=ha.fi dc;refine aC func187 Z (I ?_);refine bx (λ_ wr O=>?_);have E:=wr.2;refine bx (λAv Ax A0=>?_);have⟨O,E⟩:=bn Ax.2 O E;refine al bM (λ_ Ab A1=>?_);have⟨O,A0,E⟩:=cj Ab.2 O A0 E;refine I ?_;refine cl tj (uJ hn (ht.ext E)) ?_;rintro _ _ Aq rfl;have⟨O,A0,A1,E⟩:=fo Aq.2 O A0 A1 E;refine I ?_;refine cl tj (uJ hd (ht.ext E)) ?_;rintro _ _ Ay rfl;have⟨O,A0,A1,E⟩:=fo Ay.2 O A0 A1 E;refine I ?_;refine bL 11 ?_;refine sf ?_;refine aR (V:=S (nS (a.1*n))) (λ_ _ CG _=>?_) ?_;refine clb ir (hc:=gd Z Z A2.1 (g5 hn dc) (fM ha.1 hn dc) (ht.ext (xt E CG))) (hk:=?_);rintro _ _ Ar rfl;have B1:=Ar.2;refine I ?_;exact fs ⟨B1,rfl⟩;refine sf ?_;refine aR (V:=S (nS ((a.1*n)/d))) (λ_ _ Aw _=>?_) ?_;refine clb xo (hc:=pO Z Z (fM ha.1 hn dc) (g5 hd dc) h0 (ht.ext (xt E Aw))) (hk:=?_);rintro _ _ Az rfl;have Ao:=Az.2;refine I ?_;exact fs ⟨Ao,rfl⟩;refine sf ?_;refine aR (V:=S (nS (a.2*n))) (λ_ _ Am _=>?_) ?_;refine clb ir (hc:=gd Z Z A2.2 (g5 hn dc) (fM ha.2 hn dc) (ht.ext (xt E Am))) (hk:=?_);rintro _ _ Af rfl;have C1:=Af.2;refine I ?_;exact fs ⟨C1,rfl⟩;refine sf ?_;intro _ _ As _;have⟨O,A0,A1,E⟩:=fo As.2 O A0 A1 E;refine clb xp (hc:=yr Z Z (fM ha.2 hn dc) (g5 hd dc) h0 (ht.ext E)) (hk:=?_)
 rintro _ _ B2 rfl;have⟨O,A0,A1,E⟩:=fo B2.2 O A0 A1 E;refine I ?_;refine SA A1 (λ_ nm Ap=>?_);have⟨O,A0⟩:=jU nm O A0;have E:=bi nm E;refine I ?_;refine aX (v:=.agg #[S (nS ((a.1*n)/d)),S (nS (sK (a.2*n) d))]) (bY  rfl ?_) E Z;refine ak (t:=8) (cs:=[S (nS ((a.1*n)/d)),S (nS (sK (a.2*n) d))]) (b:=Av.heap.size) (o:=0) jm Z fw ?_ ?_;exact Z;exact aa0 Ap (i:=0) Z
end
end Go.Proofs.YtlmihmlnpjkblaaGreatDoor
