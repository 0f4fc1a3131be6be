/- Part of the proof of a statement about an adjustment. -/
import Derived.Test.YtlmihmlnpjkblaaGreatDoorAj19ToLaEL
set_option linter.all false
namespace Go.Proofs.YtlmihmlnpjkblaaGreatDoor
open Go Go.Eng Go.RowKit La Proofs.Tryz
variable {u t:Int}{n cols V c N:Nat}
def M0 (k:Nat):Rat:=if k%2=0 then 1 else -1
def Mk (k:Nat):M0 (k+1)= -M0 k:=by
 unfold M0
 rcases Nat.mod_two_eq_zero_or_one k with h|h
 · rw[if_neg J,if_pos h]
 · rw[if_pos J,if_neg J];grind
def Ds:List R->Rat
 |[]=>1
 |a::l=>qv a*Ds l
def Ml (l:List R)(q:R):Ds (l++[q])=Ds l*qv q:=by
 induction l with
 |nil=>simp[Ds]
 |cons a l ih=>simp only[List.cons_append,Ds,ih];grind
structure Gr (n m cols V:Nat)(a b S:Nat->Nat):Prop where
 v0:1<=V
 a0:1<=a 0
 s0:1<=S 0
 ga:∀r,r<n->r<cols->2*(a r*a r)<=a (r+1)
 gb:∀r,r<n->r<cols->2*(a r*b r)<=b (r+1)
 gs:∀r,r<n->r<cols->S r*a r<=S (r+1)
 c1:∀r,r<n->r<cols->2*(a r*S r)<dD/\S r*S r<dD
 c2:∀r,r<n->r<cols->r+1<m->2*(a r*((a r+b r)*(S r*V)))<dD/\S r*V*(S r*V*a r)<dD
structure Yb (r m V:Nat)(a b S:Nat->Nat):Prop where
 v0:1<=V
 ga:2*(a r*a r)<=a (r+1)
 gb:2*(a r*b r)<=b (r+1)
 gs:S r*a r<=S (r+1)
 c1:2*(a r*S r)<dD/\S r*S r<dD
 c2:r+1<m->2*(a r*((a r+b r)*(S r*V)))<dD/\S r*V*(S r*V*a r)<dD
def Gr.at {m r:Nat}{a b S:Nat->Nat}(h:Gr n m cols V a b S)(h1:r<n)(h2:r<cols):Yb r m V a b S:=⟨h.v0,h.ga r h1 h2,h.gb r h1 h2,h.gs r h1 h2,h.c1 r h1 h2,h.c2 r h1 h2⟩
structure EI (n m cols c:Nat)(w:Nat->Int)(A:Mx)(a b S:Nat->Nat)(s:El):Prop where
 ok:qt n m s.L
 rc:s.piv.length<=c
 len:s.cols.length=s.piv.length
 ro:RO n m A (Q s.L) (M0 s.sw*Ds s.piv)
 rf:RF n c s.piv.length (λl=>s.cols.getD l 0) (Q s.L)
 a1:1<=a s.piv.length
 s1:1<=S s.piv.length
 bnd:∃(k3:Nat->Nat->Int) (t:Nat->Int) (T:Int),(T≠0/\T.natAbs<=S s.piv.length/\∀l,l<s.piv.length->t l∣T)/\∀i,i<n->t i≠0/\(t i).natAbs<=S s.piv.length/\∀j,j<m->Q s.L i j=(k3 i j:Rat)/((t i*w j:Int):Rat)/\(k3 i j).natAbs<=(if j<cols then a s.piv.length else b s.piv.length)
 pv:∀l,l<s.piv.length->Bq (s.piv.getD l z0) (qv (s.piv.getD l z0)) (a l) (S l)
def yO (ht:t≠0)(h:(u:Rat)/(t:Rat)=0):u=0:=by
 have h1:=dK ht
 refine mI ?_
 rw[Rat.intCast_zero]
 grind
def Hy {x y z t u w:Rat}(ht:t≠0)(hu:u≠0)(hw:w≠0):x/(t*w)-y/t*(z/(u*w))=(u*x-y*z)/(t*u*w):=by grind
def Wt (m cols V:Nat)(w:Nat->Int):Prop:=∀j,j<m->w j≠0/\(w j).natAbs<=V/\(j<cols->w j=1)
set_option maxHeartbeats 8000000 in
def EI.colS {m:Nat}{w:Nat->Int}{A:Mx}{a b S:Nat->Nat}{s:El}(h:EI n m cols c w A a b S s)(hg:s.piv.length<n->s.piv.length<cols->Yb s.piv.length m V a b S)(hwt:Wt m cols V w)(hc:c<cols)(hm:cols<=m):∃s',pt n m c s=some s'/\EI n m cols (c+1) w A a b S s'/\
 (s.piv.length<n->Q s.L s.piv.length c≠0->s'.piv.length=s.piv.length+1/\∀j,j<m->Q s'.L s.piv.length j=Q s.L s.piv.length j/Q s.L s.piv.length c/\∀i,i<n->i≠s.piv.length->Q s'.L i j=Q s.L i j-Q s.L i c*Q s'.L s.piv.length j):=by
 obtain⟨L,piv,cs,Ab⟩:=s
 have Az:=h.ok;have Rm:=h.rc;have B2:=h.len;have Ax:=h.ro;have O:=h.rf;have A2:=h.a1;have A1:=h.s1;have E0:=h.pv
 dsimp only at Az Rm B2 Ax O A2 A1 E0 hg ⊢
 obtain⟨k3,t,T,hT,hU⟩:=h.bnd
 dsimp only at hU hT
 have Ay:=xe c L (n-piv.length) piv.length
 have W2:=sE c L (n-piv.length) piv.length
 have T2:=O.rn
 unfold pt
 dsimp only
 generalize hP:iD c L (n-piv.length) piv.length=p at *
 by_cases hpn:p=n
 · rw[if_pos hpn]
   refine⟨_,rfl,?_,λh1 h2=>absurd (show qv (ar (L piv.length) c)=0 by rw[Ay.1 _ (Nat.le_refl _) J,mJ]) h2⟩
   refine⟨Az,by dsimp only;omega,B2,Ax,⟨T2,O.inc,λx hx=>Nat.lt_succ_of_lt (O.lt x hx),O.unit,λi h1 h2 j E=>?_⟩,A2,A1,⟨k3,t,T,hT,hU⟩,E0⟩
   by_cases e:j=c
   · subst e
     show qv (ar (L i) j)=0
     rw[Ay.1 i h1 J,mJ]
   · exact O.zero i h1 h2 j J
 · rw [if_neg hpn]
   have Am:p<n:=J
   have hr:piv.length<n:=J
   have S0:¬ar (L p) c=z0:=Ay.2 J
   have hrcols:piv.length<cols:=J
   obtain⟨CG,KY,La,E9,⟨W1,G0⟩,No⟩:=hg hr hrcols
   clear hg
   generalize hR:piv.length=r at *
   have Li:a r<dD:=Nat.lt_of_le_of_lt (Nat.le_mul_of_pos_right _ A1) (by omega:a r*S r<dD)
   have KC:qt n m (nF p r L):=Az.sw Am hr
   let U1:Nat->Nat->Int:=λi j=>k3 (rK p r i) j
   let t1:Nat->Int:=λi=>t (rK p r i)
   have hU1:∀i,i<n->t1 i≠0/\(t1 i).natAbs<=S r/\∀j,j<m->Q (nF p r L) i j=(U1 i j:Rat)/((t1 i*w j:Int):Rat)/\(U1 i j).natAbs<=(if j<cols then a r else b r):=λi hi=>hU _ (uu Am hr hi)
   have Ao:∀i,r<=i->i<n->∀j,j<c->Q (nF p r L) i j=0:=λi h1 h2 j E=>O.zero _ (by unfold rK;split <;>(try split) <;>omega) (uu Am hr h2) j E
   have N0:ar (nF p r L r) c=ar (L p) c:=by rw[sG Z]
   have hok_pv:bJ (ar (L p) c)=true:=(Az p Am).2 c J
   have B1:qv (ar (L p) c)≠0:=λe=>S0 ((Fo hok_pv).1 e)
   have Af:w c=1:=(hwt c J).2.2 hc
   have hyU:qv (ar (L p) c)=(U1 r c:Rat)/(t1 r:Rat):=by have:=((hU1 r hr).2.2 c J).1;unfold Q at this;rw[N0,Af,Int.mul_one]at this;exact this
   have K2:∀i,i<n->∀j,j<m->t1 i*w j≠0:=λi hi j E e=>by
    rcases Int.mul_eq_zero.1 e with e|e
    · exact(hU1 i hi).1 e
    · exact(hwt j E).1 e
   have hUc0:U1 r c≠0:=λe=>B1 (by rw[hyU,e];simp;grind)
   have hUcb:(U1 r c).natAbs<=a r:=by have:=((hU1 r hr).2.2 c J).2;rwa [if_pos hc]at this
   have Ix:=(hU1 r hr).1
   have T3:=dK Ix
   have Ne:=dK hUc0
   have E5:Bq (ar (L p) c) (qv (ar (L p) c)) (a r) (S r):=by
    have:=Bq.of hok_pv Ix hyU hUcb (hU1 r hr).2.1
    exact⟨this.ok,rfl,this.num,this.den⟩
   have H3:∀j,j<m->(U1 r j).natAbs<=a r+b r:=λj E=>by have:=((hU1 r hr).2.2 j E).2;split at this <;>omega
   have bx:∀i,i<n->∀j,j<m->Bq (ar (nF p r L i) j) (Q (nF p r L) i j) (if j=c then a r else a r+b r) (if j=c then S r else S r*V):=by
    intro i hi j E
    obtain⟨h1,h2,h3⟩:=hU1 i hi
    obtain⟨h4,H⟩:=h3 j E
    have:=Bq.of (a:=ar (nF p r L i) j) (N:=if j=c then a r else a r+b r) (D:=if j=c then S r else S r*V) ((KC i hi).2 j E) (K2 i hi j E) h4 (by
     split
     · rename_i e;subst e;rwa [if_pos hc]at H
     · split at H <;>omega) (by
     rw[Int.natAbs_mul]
     split
     · rename_i e;rw[e,Af];simpa using h2
     · exact qb9 h2 (hwt j E).2.1)
    rw[<-h4]at this;exact this
   have c2':∀j,c<j->j<m->2*(a r*((a r+b r)*(S r*V)))<dD/\S r*V*(S r*V*a r)<dD:=λj h1 h2=>No J
   obtain⟨L2,e2,FR,o1,EW,E4⟩:=FI (m:=m) hr (ar (L p) c) (qv (ar (L p) c)) (m-c) c (nF p r L) J KC (λj h1 h2=>by
    by_cases e:j=c
    · have hb:=bx r hr j h2
      rw[if_pos e,if_pos e]at hb
      exact AL hb E5 B1 J (by rw[Nat.mul_comm];omega)
    · obtain⟨q1,CB⟩:=c2' j J h2
      have hb:=bx r hr j h2
      rw[if_neg e,if_neg e]at hb
      refine AL hb E5 B1 (Nat.lt_of_le_of_lt ?_ q1) (Nat.lt_of_le_of_lt (Nat.le_mul_of_pos_left _ (Nat.mul_pos A1 CG)) CB)
      calc (a r+b r)*S r<=(a r+b r)*(S r*V):=Nat.mul_le_mul_left _ (Nat.le_mul_of_pos_right _ CG)
       _<=a r*((a r+b r)*(S r*V)):=Nat.le_mul_of_pos_left _ A2
       _<=2*(a r*((a r+b r)*(S r*V))):=by omega)
   rw[e2]
   have H4:∀j,j<m->U1 r c*w j≠0:=λj E e=>by
    rcases Int.mul_eq_zero.1 e with e|e
    · exact hUc0 e
    · exact(hwt j E).1 e
   have hQ2r:∀j,j<m->Q L2 r j=(U1 r j:Rat)/((U1 r c*w j:Int):Rat):=by
    intro j E
    have E6:=dK (hwt j E).1
    have h3:=((hU1 r hr).2.2 j E).1
    by_cases e:j<c
    · have h4:=Ao r (qa0 _) hr j e
      have H:U1 r j=0:=yO (K2 r hr j E) (by rw[<-h3];exact h4)
      show qv (ar (L2 r) j)=_
      rw[EW j e,H]
      show Q (nF p r L) r j=_
      rw[h4];simp;grind
    · show qv (ar (L2 r) j)=_
      rw[E4 j J E]
      show Q (nF p r L) r j/_=_
      rw[h3,hyU,Rat.intCast_mul,Rat.intCast_mul];grind
   have hQ2i:∀i,i≠r->L2 i=nF p r L i:=o1
   have Aq:Q L2 r c=1:=by rw[hQ2r c J,Af,Int.mul_one];grind
   have P1:∀j,c<=j->j<m->Bq (ar (L2 r) j) (Q L2 r j) (if j=c then 1 else a r+b r) (if j=c then 1 else a r*V):=by
    intro j h1 h2
    have hk:=(FR r hr).2 j h2
    by_cases e:j=c
    · subst e
      rw[if_pos Z,if_pos Z]
      have:=Bq.of (u:=1) (s:=1) (N:=1) (D:=1) hk zd (by show Q L2 r j=_;rw[Aq];simp;grind) zd zd
      exact⟨this.ok,rfl,this.num,this.den⟩
    · rw[if_neg e,if_neg e]
      have:=Bq.of (D:=a r*V) hk (H4 j h2) (hQ2r j h2) (H3 j h2) (by rw[Int.natAbs_mul];exact qb9 hUcb (hwt j h2).2.1)
      exact⟨this.ok,rfl,this.num,this.den⟩
   obtain ⟨L3,Kp,Lk,Lj,_,p3⟩:=yN (r:=r) (c:=c) (m:=m) J n 0 L2 J FR (λi _ hi G j h1 h2=>by
    rw[hQ2i i G]
    have hb:=bx i hi c J
    rw[if_pos Z,if_pos Z]at hb
    have hx:=bx i hi j h2
    have ht:=P1 j h1 h2
    obtain⟨Ap,As,W⟩:=hU1 i hi
    by_cases e:j=c
    · rw[if_pos e,if_pos e]at hx ht
      obtain⟨q,f1,f2,Ar⟩:=pV hb ht (by rw[Nat.mul_one];exact Li) (by rw[Nat.mul_one];exact Nat.lt_of_le_of_lt (Nat.le_mul_of_pos_left _ A1) G0)
      refine⟨q,f1,?_⟩
      have hq:qv q=(U1 i c:Rat)/(t1 i:Rat):=by rw[Ar,(W c J).1,Af,Int.mul_one,show Q L2 r j=1 by rw[e];exact Aq];grind
      have E1:=Bq.of (N:=a r) (D:=S r) f2 Ap hq (by have:=(W c J).2;rwa [if_pos hc]at this) As
      obtain⟨d,Cr,d2,E7⟩:=uT hx E1 J G0
      exact⟨d,Cr,d2,by rw[E7,<-hq,Ar];rfl⟩
    · obtain⟨q1,CB⟩:=c2' j J h2
      rw[if_neg e,if_neg e]at hx ht
      have E6:=dK (hwt j h2).1
      have KM:a r*(a r+b r)*(S r*V)=a r*((a r+b r)*(S r*V)):=Nat.mul_assoc _ _ _
      have Q0:(a r+b r)*(S r*V*a r)=a r*((a r+b r)*(S r*V)):=by rw[<-Nat.mul_assoc,Nat.mul_comm _ (a r)]
      have K3:S r*(a r*V)=S r*V*a r:=by rw[Nat.mul_assoc,Nat.mul_comm V]
      have H2:1<=S r*V:=Nat.mul_pos A1 CG
      obtain⟨q,f1,f2,Ar⟩:=pV hb ht (by
       refine Nat.lt_of_le_of_lt (Nat.le_mul_of_pos_right _ H2) ?_
       rw[KM];omega) (by rw[K3];exact Nat.lt_of_le_of_lt (Nat.le_mul_of_pos_left _ H2) CB)
      refine⟨q,f1,?_⟩
      have GC:=dK Ap
      have hq:qv q=((U1 i c*U1 r j:Int):Rat)/((t1 i*(U1 r c*w j):Int):Rat):=by
       rw[Ar,(W c J).1,Af,Int.mul_one,hQ2r j h2,Rat.intCast_mul,Rat.intCast_mul,Rat.intCast_mul];grind
      have E1:=Bq.of (N:=a r*(a r+b r)) (D:=S r*V*a r) f2 (λe=>by
       rcases Int.mul_eq_zero.1 e with e|e
       · exact Ap e
       · exact H4 j h2 e) hq
       (by rw[Int.natAbs_mul];exact qb9 (by have:=(W c J).2;rwa [if_pos hc]at this) (H3 j h2))
       (by rw[Int.natAbs_mul,Int.natAbs_mul,<-K3];exact qb9 As (qb9 hUcb (hwt j h2).2.1))
      obtain⟨d,Cr,d2,E7⟩:=uT hx E1 (by rw[KM,Q0];omega) CB
      exact⟨d,Cr,d2,by rw[E7,<-hq,Ar];rfl⟩)
   dsimp only
   rw[Kp]
   have hQ2:∀i,i≠r->∀j,Q L2 i j=Q (nF p r L) i j:=λi hi j=>by unfold Q;rw[hQ2i i hi]
   have hQ3r:∀j,Q L3 r j=Q L2 r j:=λj=>by unfold Q;rw[Lj]
   have C1:∀j,j<c->Q L2 r j=0:=λj E=>by
    have:=Ao r (qa0 _) hr j E
    unfold Q at this ⊢
    rw[EW j E];exact this
   have hQ3l:∀i,i<n->i≠r->∀j,j<c->Q L3 i j=Q (nF p r L) i j:=λi hi G j E=>by
    rw[<-hQ2 i G];unfold Q;rw[(p3 i (Nat.zero_le _) hi G).1 j E]
   have hQ3g:∀i,i<n->i≠r->∀j,c<=j->j<m->Q L3 i j=Q (nF p r L) i j-Q (nF p r L) i c*Q L2 r j:=λi hi G j h1 h2=>by
    rw[<-hQ2 i G,<-hQ2 i G];exact(p3 i (qa7 _) hi G).2 j h1 h2
   have hQ3:∀i,i<n->i≠r->∀j,j<m->Q L3 i j=Q (nF p r L) i j-Q (nF p r L) i c*Q L2 r j:=λi hi G j E=>by
    by_cases e:j<c
    · rw[hQ3l i hi G j e,C1 j e];grind
    · exact hQ3g i hi G j J E
   have Av:∀l,l<r->(cs++[c]).getD l 0=cs.getD l 0:=λl hl=>by
    rw[List.getD,List.getD,List.getElem?_append_left J]
   have CY:(cs++[c]).getD r 0=c:=by
    rw[List.getD,List.getElem?_append_right J,B2,Nat.sub_self];rfl
   have L4:∀l,l<r->(piv++[ar (L p) c]).getD l z0=piv.getD l z0:=λl hl=>by
    rw[List.getD,List.getD,List.getElem?_append_left J]
   have L1:(piv++[ar (L p) c]).getD r z0=ar (L p) c:=by
    rw[List.getD,List.getElem?_append_right J,hR,Nat.sub_self];rfl
   have A0:(piv++[ar (L p) c]).length=r+1:=by simp[hR]
   have WV:1<=a r*a r:=Nat.mul_pos A2 A2
   have W3:1<=S r*a r:=Nat.mul_pos A1 A2
   refine⟨_,rfl,?_,λ_ G=>?_⟩
   rotate_left
   · have hpr':p=r:=by
      refine qb6 λe=>G ?_
      show qv (ar (L r) c)=0
      rw[Ay.1 r (Nat.le_refl _) J,mJ]
     refine⟨A0,λj E=>?_⟩
     have P0:∀i,nF p r L i=L i:=λi=>by rw[hpr',pu]
     have hq:∀i k,Q (nF p r L) i k=Q L i k:=λi k=>by unfold Q;rw[P0]
     refine⟨?_,λi hi G=>by show Q L3 i j=Q L i j-Q L i c*Q L3 r j;rw[hQ3 i hi G j E,hQ3r,hq,hq]⟩
     show Q L3 r j=Q L r j/Q L r c
     rw[hQ3r]
     by_cases e:j<c
     · rw[C1 j e,<-hq,Ao r (Nat.le_refl _) hr j e];grind
     · show qv (ar (L2 r) j)=_
       rw[E4 j J E,hpr',pu];rfl
   refine⟨Lk,by dsimp only;omega,by dsimp only;simp[B2,hR],?_,⟨by dsimp only;omega,?_,?_,?_,?_⟩,by dsimp only;rw[A0];omega,by dsimp only;rw[A0];omega,?_,?_⟩
   ·
    dsimp only
    have h1:RO n m A (Q (nF p r L)) (M0 (if p=r then Ab else Ab+1)*Ds piv):=by
     by_cases e:p=r
     · rw[if_pos e,e,pu];exact Ax
     · rw[if_neg e,Mk]
       have:=Ax.swap Am hr e
       rw[show-M0 Ab*Ds piv=-(M0 Ab*Ds piv)by grind]
       exact this.eq λ_ _ _ _=>rfl
    have h2:RO n m A (Q L2) (M0 (if p=r then Ab else Ab+1)*Ds piv*qv (ar (L p) c)):=by
     refine(h1.scale hr B1).eq λi hi j E=>?_
     unfold ur
     by_cases e:i=r
     · rw[if_pos e,e]
       by_cases e2:j<c
       · rw[C1 j e2]
         show Q (nF p r L) r j/qv (ar (L p) c)=0
         rw[Ao r (Nat.le_refl _) hr j e2];grind
       · exact(E4 j J E).symm
     · rw[if_neg e,hQ2 i e]
    have h3:=RO.clear (c:=c) h2 hr n (qa0 _)
    rw[Ml,show∀x y z:Rat,x*(y*z)=x*y*z by intros;grind]
    refine h3.eq λi hi j E=>?_
    by_cases e:i=r
    · simp only[if_pos e];rw[e,hQ3r]
    · simp only[if_neg e,if_pos hi];rw[hQ3 i hi e j E,hQ2 i e,hQ2 i e]
   · intro x y P2 hy
     dsimp only at hy ⊢
     rw[A0]at hy
     rw[Av x J]
     by_cases e:y<r
     · rw[Av y e];exact O.inc x y P2 e
     · rw[show y=r by omega,CY];exact O.lt x J
   · intro x hx
     dsimp only at hx ⊢
     rw[A0]at hx
     by_cases e:x<r
     · rw[Av x e];exact Nat.lt_succ_of_lt (O.lt x e)
     · rw[show x=r by omega,CY];omega
   · intro i hi l hl
     dsimp only at hl ⊢
     rw[A0]at hl
     by_cases e:l<r
     · rw[Av l e]
       have hlt:=O.lt l e
       by_cases e2:i=r
       · rw[e2,hQ3r,C1 _ hlt,if_neg J]
       · rw[hQ3l i hi e2 _ hlt]
         show Q L (rK p r i) _=_
         rw[O.unit _ (uu Am hr hi) l e]
         have:(rK p r i=l)=(i=l):=propext (by unfold rK;constructor <;>intro h3 <;>split at * <;>(try split at *) <;>omega)
         simp only[this]
     · rw[show l=r by omega,CY]
       by_cases e2:i=r
       · rw[e2,hQ3r,Aq,if_pos Z]
       · rw[hQ3g i hi e2 c (Nat.le_refl _) J,Aq,if_neg e2];grind
   · intro i h1 h2 j E
     dsimp only at h1 ⊢
     rw[A0]at h1
     by_cases e:j<c
     · rw[hQ3l i h2 J j e,Ao i J h2 j e]
     · rw[show j=c by omega,hQ3g i h2 J c (Nat.le_refl _) J,Aq];grind
   · dsimp only
     rw[A0]
     refine⟨λi j=>if i=r then U1 r j else U1 r c*U1 i j-U1 i c*U1 r j,λi=>if i=r then U1 r c else t1 i*U1 r c,T*U1 r c,⟨λe=>(Int.mul_eq_zero.1 e).elim hT.1 hUc0,by rw[Int.natAbs_mul];exact qa8 (qb9 hT.2.1 hUcb) E9,λl hl=>?_⟩,λi hi=>?_⟩
     · by_cases e:l=r
       · simp only[if_pos e];exact⟨T,by rw[Int.mul_comm]⟩
       · simp only[if_neg e]
         obtain⟨q,hq⟩:=hT.2.2 l J
         refine⟨q,?_⟩
         have:t1 l=t l:=by show t (rK p r l)=_;rw[show rK p r l=l by unfold rK;rw[if_neg J,if_neg e]]
         rw[this,hq,Int.mul_assoc,Int.mul_assoc,Int.mul_comm q]
     obtain⟨Ap,As,W⟩:=hU1 i hi
     by_cases e:i=r
     · simp only[if_pos e]
       refine⟨hUc0,?_,λj E=>⟨by rw[e,hQ3r,hQ2r j E],?_⟩⟩
       · refine qa8 ?_ E9
         exact qa8 hUcb (Nat.le_mul_of_pos_left _ A1)
       · have H:=((hU1 r hr).2.2 j E).2
         split at H
         · rw[if_pos CA];exact qa8 H (qa8 (qa8 (Nat.le_mul_of_pos_left _ A2) J) KY)
         · rw[if_neg CA];exact qa8 H (qa8 (qa8 (Nat.le_mul_of_pos_left _ A2) J) La)
     · simp only[if_neg e]
       have GC:=dK Ap
       refine⟨λe=>by rcases Int.mul_eq_zero.1 e with e|e <;>contradiction,?_,λj E=>⟨?_,?_⟩⟩
       · rw[Int.natAbs_mul];exact qa8 (qb9 As hUcb) E9
       · have E6:=dK (hwt j E).1
         rw[hQ3 i hi e j E,(W j E).1,(W c J).1,Af,Int.mul_one,hQ2r j E]
         simp only[Rat.intCast_sub,Rat.intCast_mul]
         exact Hy GC Ne E6
       · have H:=(W j E).2
         have ES:=(W c J).2
         have Aw:=((hU1 r hr).2.2 j E).2
         rw[if_pos hc]at ES
         have Vm:(U1 r c*U1 i j).natAbs=(U1 r c).natAbs*(U1 i j).natAbs:=qb8 _ _
         have VW:(U1 i c*U1 r j).natAbs=(U1 i c).natAbs*(U1 r j).natAbs:=qb8 _ _
         split at H
         · rw[if_pos CA]at Aw ⊢
           have S9:=qb9 hUcb H
           have n2:=qb9 ES Aw
           omega
         · rw[if_neg CA]at Aw ⊢
           have S9:=qb9 hUcb H
           have n2:=qb9 ES Aw
           omega
   · intro l hl
     dsimp only at hl ⊢
     rw[A0]at hl
     by_cases e:l<r
     · rw[L4 l e];exact E0 l e
     · rw[show l=r by omega,L1];exact E5
def EI.col {m:Nat}{w:Nat->Int}{A:Mx}{a b S:Nat->Nat}{s:El}(h:EI n m cols c w A a b S s)(hg:Gr n m cols V a b S)(hwt:Wt m cols V w)(hc:c<cols)(hm:cols<=m):∃s',pt n m c s=some s'/\EI n m cols (c+1) w A a b S s':=by
 obtain⟨s',h1,h2,_⟩:=h.colS (λh1 h2=>hg.at h1 h2) hwt hc hm
 exact⟨s',h1,h2⟩
def EI.go {n m cols V:Nat}{w:Nat->Int}{A:Mx}{a b S:Nat->Nat}(hg:Gr n m cols V a b S)(hwt:Wt m cols V w)(hm:cols<=m):∀(f c:Nat) (s:El),c+f=cols->EI n m cols c w A a b S s->∃s',ik n m f c s=some s'/\EI n m cols cols w A a b S s'
 |0,c,s,hc,h=>⟨s,rfl,by rw[show cols=c by omega]at h ⊢;exact h⟩
 | f+1,c,s,hc,h=>by
   obtain⟨s1,h1,h2⟩:=h.col hg hwt J hm
   obtain⟨E,h3,h4⟩:=EI.go hg hwt hm f (c+1) s1 J h2
   exact⟨E,by rw[ik,h1];exact h3,h4⟩
def vg {m:Nat}{w:Nat->Int}{L:Rows}{a b S:Nat->Nat}(hok:qt n m L)(hg:Gr n m cols V a b S)(hwt:Wt m cols V w)(hm:cols<=m)(k3:Nat->Nat->Int)(t:Nat->Int)(hU:∀i,i<n->t i≠0/\(t i).natAbs<=S 0/\∀j,j<m->Q L i j=(k3 i j:Rat)/((t i*w j:Int):Rat)/\(k3 i j).natAbs<=(if j<cols then a 0 else b 0)):
 ∃s,elim n m cols L=some s/\EI n m cols cols w (Q L) a b S s:=
 EI.go hg hwt hm cols 0 _ J ⟨hok,qa7 _,rfl,by simpa[M0,Ds]using RO.refl,⟨qa7 _,λ_ _ _ h=>absurd h Wf,λ_ h=>absurd h Wf,λ_ _ _ h=>absurd h Wf,λ_ _ _ _ h=>absurd h J⟩,hg.a0,hg.s0,⟨k3,t,1,⟨by decide,hg.s0,λ_ h=>absurd h Wf⟩,hU⟩,λ_ h=>absurd h Wf⟩
def gA (a0:Nat):Nat->Nat
 |0=>a0
 |r+1=>2*(gA a0 r*gA a0 r)
def gB (a0 b0:Nat):Nat->Nat
 |0=>b0
 |r+1=>2*(gA a0 r*gB a0 b0 r)
def gS (a0 s0:Nat):Nat->Nat
 |0=>s0
 |r+1=>gS a0 s0 r*gA a0 r
def UZ (R M V a0 b0 s0:Nat):Bool:=(List.range R).all λr=>
 Nat.blt (2*(gA a0 r*gS a0 s0 r)) dD&&Nat.blt (gS a0 s0 r*gS a0 s0 r) dD&&
 (Nat.ble M (r+1)||(Nat.blt (2*(gA a0 r*((gA a0 r+gB a0 b0 r)*(gS a0 s0 r*V)))) dD&&Nat.blt (gS a0 s0 r*V*(gS a0 s0 r*V*gA a0 r)) dD))
def Gr.of {R M a0 b0 s0 m:Nat}(h:UZ R M V a0 b0 s0=true)(hV:1<=V)(ha:1<=a0)(hs:1<=s0)(hR:n<=R\/cols<=R)(hM:m<=M):Gr n m cols V (gA a0) (gB a0 b0) (gS a0 s0):=by
 have key:∀r,r<n->r<cols->r<R:=λr h1 h2=>by omega
 have h1:∀r,r<R->_:=λr hr=>List.all_eq_true.1 h r (List.mem_range.2 hr)
 simp only[Bool.and_eq_true,Bool.or_eq_true,Nat.blt_eq,Nat.ble_eq]at h1
 exact⟨hV,ha,hs,λ_ _ _=>qa0 _,λ_ _ _=>qa0 _,λ_ _ _=>qa0 _,λr h2 h3=>(h1 r (key r h2 h3)).1,λr h2 h3 _=>by
  rcases(h1 r (key r h2 h3)).2 with h5|h5
  · omega
  · exact h5⟩
def YD (n m:Nat)(L:Rows)(N D:Nat):Prop:=∃(k3:Nat->Nat->Int) (t:Nat->Int),∀i,i<n->t i≠0/\(t i).natAbs<=D/\∀j,j<m->Q L i j=(k3 i j:Rat)/(t i:Rat)/\(k3 i j).natAbs<=N
def qU (n m:Nat)(L:Rows)(N:Nat)(t:Int):Prop:=∃k3:Nat->Nat->Int,∀i,i<n->∀j,j<m->Q L i j=(k3 i j:Rat)/(t:Rat)/\(k3 i j).natAbs<=N
def qU.mk {m:Nat}{L:Rows}(h:∀i,i<n->∀j,j<m->∃V:Int,Q L i j=(V:Rat)/(t:Rat)/\V.natAbs<=N):qU n m L N t:=by
 refine⟨λi j=>if h2:i<n/\j<m then(h i h2.1 j h2.2).choose else 0,λi hi j E=>?_⟩
 have hs:=(h i hi j E).choose_spec
 simp only[hi,E,and_self,dite_true]
 exact hs
def qU.rep {m:Nat}{L:Rows}(h:qU n m L N t)(ht:t≠0):YD n m L N t.natAbs:=by
 obtain⟨k3,h⟩:=h
 exact⟨k3,λ_=>t,λi hi=>⟨ht,qa0 _,λj E=>h i hi j E⟩⟩
def kW {m:Nat}{L:Rows}(hn:1<=n)(hn8:n<=8)(hm:1<=m)(hm8:m<=8)(ok:qt n m L):vM n L=true/\(L 0).length=m:=by
 have E:=(ok 0 hn).1
 refine⟨qa1 ⟨hn,hn8,by omega,by omega,λi hi=>⟨by rw[E];exact(ok i hi).1,lC.2 λk hk=>(ok i hi).2 k (by rw[(ok i hi).1]at hk;exact hk)⟩⟩,E⟩
def Mm {m D:Nat}{L:Rows}(hn:1<=n)(hn8:n<=8)(hm:1<=m)(hm8:m<=8)(ok:qt n m L)(hr:YD n m L N D)(hg:Gr n m m 1 (gA N) (gB N N) (gS N D)):∃r,kb n L=some r/\Rk n m r (Q L):=by
 obtain⟨hv,G⟩:=kW hn hn8 hm hm8 ok
 obtain⟨k3,t,hU⟩:=hr
 obtain⟨s,e,h⟩:=vg (w:=λ_=>1) ok hg (λj _=>⟨show(1:Int)≠0 by decide,show Int.natAbs 1<=1 by decide,λ_=>rfl⟩) (qa0 m) k3 t (λi hi=>⟨(hU i hi).1,(hU i hi).2.1,λj E=>⟨by rw[Int.mul_one];exact((hU i hi).2.2 j E).1,by rw[if_pos E];exact((hU i hi).2.2 j E).2⟩⟩)
 refine⟨s.piv.length,by unfold kb;rw[if_pos hv,G,e];rfl,h.rf.rank h.ro (qa0 m)⟩
def FK {a:List R}{B:Rows}{j k0:Nat}{X Y:Nat->Int}{t u:Int}{N1 N2:Nat}(ht:t≠0)(hu:u≠0)(hX:∀k,k<k0->bJ (ar a k)=true/\qv (ar a k)=(X k:Rat)/(t:Rat)/\(X k).natAbs<=N1)(hY:∀k,k<k0->bJ (ar (B k) j)=true/\qv (ar (B k) j)=(Y k:Rat)/(u:Rat)/\(Y k).natAbs<=N2)(h1:(k0+1)*(N1*N2)*(t.natAbs*u.natAbs)<dD)(h2:(t.natAbs*u.natAbs)*(t.natAbs*u.natAbs)<dD):
 ∀ (f k:Nat) (s:R) (V:Int),k+f=k0->bJ s=true->qv s=(V:Rat)/((t*u:Int):Rat)->V.natAbs<=k*(N1*N2)->
  ∃(d:R) (V':Int),kN a B j f k s=some d/\bJ d=true/\qv d=(V':Rat)/((t*u:Int):Rat)/\V'.natAbs<=k0*(N1*N2)/\qv d=qv s+sm f (λl=>qv (ar a (k+l))*qv (ar (B (k+l)) j))
 |0,k,s,V,hk,hs,hq,hV=>⟨s,V,rfl,hs,hq,by rw[show k0=k by omega];exact hV,by simp only[sm];grind⟩
 | f+1,k,s,V,hk,hs,hq,hV=>by
   obtain⟨x1,x2,x3⟩:=hX k J
   obtain⟨Ab,O,A0⟩:=hY k J
   have A1:1<=t.natAbs*u.natAbs:=Nat.mul_pos J J
   have G:t*u≠0:=λe=>by rcases Int.mul_eq_zero.1 e with e|e <;>contradiction
   have b1:N1*N2*(t.natAbs*u.natAbs)<dD:=Nat.lt_of_le_of_lt (Nat.mul_le_mul_right _ (Nat.le_mul_of_pos_left _ J)) h1
   have bx:=Bq.of (N:=N1) (D:=t.natAbs) x1 ht x2 x3 (qa0 _)
   have by_:=Bq.of (N:=N2) (D:=u.natAbs) Ab hu O A0 (qa0 _)
   obtain⟨p,Am,p2,p3⟩:=pV bx by_ (Nat.lt_of_le_of_lt (Nat.le_mul_of_pos_right _ A1) b1) (Nat.lt_of_le_of_lt (Nat.le_mul_of_pos_left _ A1) h2)
   have q1:=dK ht
   have As:=dK hu
   have W:qv p=((X k*Y k:Int):Rat)/((t*u:Int):Rat):=by rw[p3,Rat.intCast_mul,Rat.intCast_mul];grind
   have hXY:(X k*Y k).natAbs<=N1*N2:=by rw[Int.natAbs_mul];exact qb9 x3 A0
   have bs:=Bq.of (N:=k0*(N1*N2)) (D:=t.natAbs*u.natAbs) hs G hq (qa8 hV (Nat.mul_le_mul_right _ J)) (by rw[Int.natAbs_mul];exact qa0 _)
   have A2:=Bq.of (N:=N1*N2) (D:=t.natAbs*u.natAbs) p2 G W hXY (by rw[Int.natAbs_mul];exact qa0 _)
   obtain⟨E,Aq,Ar,H⟩:=Lf bs A2 (by rw[<-Nat.add_mul,show k0*(N1*N2)+N1*N2=(k0+1)*(N1*N2)by rw[Nat.add_mul,Nat.one_mul]];exact h1) h2
   have Av:=dK G
   have hs':qv E=((V+X k*Y k:Int):Rat)/((t*u:Int):Rat):=by rw[H,Rat.intCast_add];grind
   obtain⟨d,V',e,Ao,d2,Af,Ap⟩:=FK ht hu hX hY h1 h2 f (k+1) E (V+X k*Y k) J Ar hs' (by rw[Nat.add_mul,Nat.one_mul];omega)
   refine⟨d,V',by rw[kN,Am];show(match jJ s p with|none=>none|some E=>_)=_;rw[Aq];exact e,Ao,d2,Af,?_⟩
   rw[Ap,g6,H,<-hq,<-W,p3,<-x2,<-O]
   rw[au (g:=λl=>qv (ar a (k+(l+1)))*qv (ar (B (k+(l+1))) j)) (λl _=>by rw[show k+1+l=k+(l+1)by omega])]
   show _+_+_=_+(qv (ar a (k+0))*qv (ar (B (k+0)) j)+_)
   grind
def FL {a:List R}{B:Rows}{p k0:Nat}(ha:a.length=k0)(P:Nat->R->Prop)(hd:∀j,j<p->∃d,kN a B j k0 0 z0=some d/\P j d):
 ∀(f j:Nat) (l:List R),j+f=p->l.length=j->(∀i,i<j->P i (ar l i))->∃l',lY a B f j l=some l'/\l'.length=p/\∀i,i<p->P i (ar l' i)
 |0,j,l,hj,hl,h=>⟨l,rfl,by omega,λi hi=>h i J⟩
 | f +1,j,l,hj,hl,h=>by
   obtain⟨d,d1,d2⟩:=hd j J
   obtain⟨l',e,h1,h2⟩:=FL ha P hd f (j+1) (l++[d]) J (by simp[hl]) (λi hi=>by
    by_cases e:i<j
    · rw[jQ J];exact h i e
    · rw[kQ J,show i=j by omega,hl,Nat.sub_self];exact d2)
   exact⟨l',by rw[lY,ha,d1];exact e,h1,h2⟩
def FM {L B:Rows}{n p:Nat}(P:Nat->List R->Prop)(hd:∀i,i<n->∃l,lY (L i) B p 0 []=some l/\P i l):
 ∀(f i:Nat) (K:Rows),i+f=n->(∀k,k<i->P k (K k))->∃K',pC L B p f i K=some K'/\∀k,k<n->P k (K' k)
 |0,i,K,hi,h=>⟨K,rfl,λk hk=>h k J⟩
 | f +1,i,K,hi,h=>by
   obtain⟨l,l1,l2⟩:=hd i J
   obtain⟨K',e,h1⟩:=FM P hd f (i+1) (bT K i l) J (λk hk=>by
    by_cases e:k=i
    · subst e;rw[bg];exact l2
    · rw[bh _ _ e];exact h k J)
   exact⟨K',by rw[pC,l1];exact e,h1⟩
def PY {k m N1 N2:Nat}{L B:Rows}(hn:1<=n)(hn8:n<=8)(hk:1<=k)(hk8:k<=8)(hm:1<=m)(hm8:m<=8)(okA:qt n k L)(okB:qt k m B)(hA:qU n k L N1 t)(hB:qU k m B N2 u)(ht:t≠0)(hu:u≠0)(h1:(k+1)*(N1*N2)*(t.natAbs*u.natAbs)<dD)(h2:(t.natAbs*u.natAbs)*(t.natAbs*u.natAbs)<dD):
 ∃K,c6 n L k B=some K/\qt n m K/\jV n m (Q K) (La.mul k (Q L) (Q B))/\qU n m K (k*(N1*N2)) (t*u):=by
 obtain⟨v1,G⟩:=kW hn hn8 hk hk8 okA
 obtain⟨v2,H⟩:=kW hk hk8 hm hm8 okB
 obtain⟨X,hX⟩:=hA
 obtain⟨Y,hY⟩:=hB
 obtain⟨K,e,hK⟩:=FM (L:=L) (B:=B) (n:=n) (p:=m) (λi l=>l.length=m/\∀j,j<m->bJ (ar l j)=true/\qv (ar l j)=La.mul k (Q L) (Q B) i j/\∃V:Int,qv (ar l j)=(V:Rat)/((t*u:Int):Rat)/\V.natAbs<=k*(N1*N2)) (λi hi=>by
  obtain⟨l,e,h3,h4⟩:=FL (a:=L i) (B:=B) (p:=m) (okA i hi).1 (λj d=>bJ d=true/\qv d=La.mul k (Q L) (Q B) i j/\∃V:Int,qv d=(V:Rat)/((t*u:Int):Rat)/\V.natAbs<=k*(N1*N2)) (λj E=>by
   obtain⟨d,V,e,W,d2,O,A0⟩:=FK (a:=L i) (B:=B) (j:=j) (k0:=k) (X:=X i) (Y:=λl=>Y l j) ht hu (λl hl=>⟨(okA i hi).2 l hl,hX i hi l hl⟩) (λl hl=>⟨(okB l hl).2 j E,hY l hl j E⟩) h1 h2 k 0 z0 0 J Vr (by rw[mJ];simp;grind) Wf
   refine⟨d,e,W,?_,V,d2,O⟩
   rw[A0,mJ]
   show 0+_=sm k _
   rw[au (g:=λl=>Q L i l*Q B l j) (λl _=>by rw[Nat.zero_add];rfl)];grind) m 0 [] J Z (λi hi=>by omega)
  exact⟨l,e,h3,h4⟩) n 0 rO J (λk hk=>by omega)
 refine⟨K,by unfold c6 Al;rw[if_pos ⟨v1,v2,G⟩,H];exact e,λi hi=>⟨(hK i hi).1,λj E=>((hK i hi).2 j E).1⟩,λi hi j E=>((hK i hi).2 j E).2.1,?_⟩
 exact qU.mk λi hi j E=>((hK i hi).2 j E).2.2
def PZ {m:Nat}{L:Rows}(i j:Nat)(hj:j<n):Q (λj=>kX L n j) i j=tr (Q L) i j:=by
 unfold Q tr;dsimp only;rw[uy _ _ hj]
end Go.Proofs.YtlmihmlnpjkblaaGreatDoor
namespace La
section
variable {n m r:Nat}{p:Nat->Nat}{A B:Mx}{f:Rat}
def RF.zero_of (hr:RO n (m+1) A B f)(h:RF n m r p B){v:Nat->Rat}(hv:∀i,i<n->A i m=sm m (λt=>A i t*v t)):∀k,k<n->B k m=sm m (λt=>B k t*v t):=by
 let x:Nat->Rat:=λt=>if t=m then -1 else v t
 have hx:∀D:Mx,∀i,sm (m+1) (λt=>D i t*x t)=sm m (λt=>D i t*v t)-D i m:=λD i=>by
  show sm m (λt=>D i t*x t)+D i m*x m=_
  rw[au (g:=λt=>D i t*v t) (λt ht=>by show _*(if t=m then -1 else v t)=_;rw[if_neg J])]
  show _+D i m*(if m=m then -1 else v m)=_
  rw[if_pos Z];grind
 have:=(hr.ker x).1 (λi hi=>by rw[hx,<-hv i hi];grind)
 intro k hk
 have h2:=this k hk
 rw[hx]at h2;grind
def sol (r m:Nat)(p:Nat->Nat)(B:Mx):Nat->Rat:=λt=>sm r (λl=>if t=p l then B l m else 0)
def RF.idp {p:Nat->Nat}(hi:∀a b,a<b->b<m->p a<p b)(hl:∀a,a<m->p a<m):∀l,l<m->p l=l:=by
 have h1:∀l,l<m->l<=p l:=by
  intro l
  induction l with
  |zero=>intro _;omega
  |succ l ih=>intro E;have:=ih J;have:=hi l (l+1) J E;omega
 have h2:∀d l,l+d+1=m->p l<=l:=by
  intro d
  induction d with
  |zero=>intro l E;have:=hl l J;omega
  |succ d ih=>intro l E;have:=ih (l+1) J;have:=hi l (l+1) J J;omega
 exact λl E=>Nat.le_antisymm (h2 (m-l-1) l J) (h1 l E)
def RF.only (hr:RO n (m+1) A B f)(h:RF n m m p B){v:Nat->Rat}(hv:∀i,i<n->A i m=sm m (λt=>A i t*v t)):∀t,t<m->v t=sol m m p B t:=by
 have E:=RF.idp h.inc h.lt
 intro t ht
 have h1:=h.zero_of hr hv t kb5
 rw[iF ht (λl hl G=>by
  have:=h.unit t kb5 l hl
  rw[E l hl,if_neg (λe=>G e.symm)]at this;rw[this];grind)]at h1
 have h2:=h.unit t kb5 t ht
 rw[E t ht,if_pos Z]at h2
 unfold sol
 rw[iF ht (λl hl G=>by rw[E l hl,if_neg (λe=>G e.symm)]),E t ht,if_pos Z,h1,h2];grind
end
end La
namespace Go.Proofs.YtlmihmlnpjkblaaGreatDoor
open Go Go.Eng Go.RowKit La Proofs.Tryz
def FN {n m r:Nat}{A B:Mx}(h:Rk n m r A)(e:jV n m A B):Rk n m r B:=by
 obtain⟨C,F,CL,FR,h⟩:=h
 exact⟨C,F,CL,FR,⟨λi hi j E=>by rw[<-e i hi j E];exact h.eq i hi j E,h.cl,h.fr⟩⟩
def Bc {l l':List R}{m:Nat}(h:l.length=m)(h':l'.length=m)(e:∀k,k<m->ar l k=ar l' k):l=l':=by
 refine List.ext_getElem J λk h1 h2=>?_
 have:=e k J
 rwa [eh h1,eh h2]at this
end Go.Proofs.YtlmihmlnpjkblaaGreatDoor
namespace La
variable {n k:Nat}
def Be:Nat->Nat
 |0=>1
 |n+1=>(n+1)*Be n
def Mn {f:Nat->Rat}{B:Nat}:∀n,(∀i,i<n->∃z:Int,f i=(z:Rat)/\z.natAbs<=B)->∃z:Int,sm n f=(z:Rat)/\z.natAbs<=n*B
 |0,_=>⟨0,by simp[sm],by simp⟩
 | n+1,h=>by
   obtain⟨z,h1,h2⟩:=Mn n (λi hi=>h i J)
   obtain⟨y,h3,h4⟩:=h n J
   exact⟨z+y,by rw[sm,h1,h3,Rat.intCast_add],by rw[Nat.add_mul,Nat.one_mul];omega⟩
def pN (N:Nat->Nat):Nat->Nat
 |0=>1
 |n+1=>N 0*pN (λj=>N (j+1)) n
def Bf (N:Nat):∀n,pN (λ_=>N) n=N^n
 |0=>rfl
 |n+1=>by rw[pN,Bf N n,Nat.pow_succ,Nat.mul_comm]
def FO:∀(n:Nat) (A:Mx) (N:Nat->Nat),(∀i,i<n->∀j,j<n->∃z:Int,A i j=(z:Rat)/\z.natAbs<=N j)->∃z:Int,det n A=(z:Rat)/\z.natAbs<=Be n*pN N n
 |0,_,_,_=>⟨1,by simp[det],by simp[Be,pN]⟩
 | n +1,A,N,h=>by
   obtain⟨z,h1,h2⟩:=Mn (f:=λi=>sg i*A i 0*det n (mn i A)) (B:=N 0*(Be n*pN (λj=>N (j+1)) n)) (n+1) (λi hi=>by
    obtain⟨x,E,O⟩:=h i hi 0 J
    obtain⟨y,H,W⟩:=FO n (mn i A) (λj=>N (j+1)) (λr hr c hc=>h _ (Rs hr) _ J)
    have G:(x*y).natAbs<=N 0*(Be n*pN (λj=>N (j+1)) n):=by rw[Int.natAbs_mul];exact qb9 O W
    unfold sg
    by_cases e:i%2=0
    · exact⟨x*y,by rw[if_pos e,E,H,Rat.intCast_mul];grind,G⟩
    · exact⟨-(x*y),by rw[if_neg e,E,H,Rat.intCast_neg,Rat.intCast_mul];grind,by rw[Int.natAbs_neg];exact G⟩)
   refine⟨z,h1,qa8 h2 (Nat.le_of_eq ?_)⟩
   rw[Be,pN,Nat.mul_assoc,Nat.mul_left_comm (N 0)]
def Mo {t:Rat}(ht:t≠0):∀n:Nat,t^n≠0
 |0=>by rw[Rat.pow_zero];decide
 |n+1=>by rw[Rat.pow_succ];intro e;exact(Rat.mul_eq_zero.1 e).elim (Mo ht n) ht
def FP (t:Rat)(ht:t≠0):∀(n:Nat) (A:Mx),det n (λi j=>A i j/t)=det n A/t^n
 |0,_=>by simp[det];grind
 | n+1,A=>by
   rw[det,det,show∀x:Rat,x/t^(n+1)=(1/t^(n+1))*x by intro x;grind,<-dm]
   refine au λi _=>?_
   rw[show mn i (λi j=>A i j/t)=λr c=>mn i A r c/t from rfl,FP t ht n]
   rw[Rat.pow_succ]
   have:=Mo ht n
   grind
def uc (A:Mx)(k:Nat)(u:Nat->Rat):Mx:=λi j=>if j=k then u i else A i j
def RG (A:Mx)(k:Nat)(u:Nat->Rat):uc A k u=tr (ur (tr A) k u):=rfl
def vh {n:Nat}{A:Mx}{k:Nat}(hk:k<n)(x:Nat->Rat):∀m,m<=n->det n (uc A k (λi=>sm m (λt=>A i t*x t)))=if k<m then x k*det n A else 0
 | 0,_=>by
   rw[if_neg J,RG,kr]
   exact AI hk (λj _=>by show(if k=k then sm 0 _ else _)=_;rw[if_pos Z];rfl)
 | m +1,hm=>by
   have ih:=vh (A:=A) hk x m J
   rw[RG,kr]at ih ⊢
   rw[show(λi=>sm (m+1) (λt=>A i t*x t))=λi=>sm m (λt=>A i t*x t)+x m*A i m by funext i;rw[sm];grind]
   rw[sN n (tr A) k _ (λi=>A i m) (x m) hk,ih]
   by_cases e:k=m
   · subst e
     rw[if_neg (Nat.lt_irrefl k),if_pos J,show ur (tr A) k (λi=>A i k)=tr A from sP (tr A) k,kr];grind
   · rw[AK (A:=ur (tr A) k (λi=>A i m)) hk (by omega:m<n) e (λj _=>by unfold ur tr;rw[if_pos Z,if_neg (λh=>e h.symm)])]
     by_cases e2:k<m
     · rw[if_pos e2,if_pos J];grind
     · rw[if_neg e2,if_neg J];grind
def Mp {A:Mx}{b x:Nat->Rat}(h:∀i,i<n->b i=sm n (λt=>A i t*x t))(hk:k<n):det n (uc A k b)=x k*det n A:=by
 rw[e8 (A:=uc A k b) (B:=uc A k (λi=>sm n (λt=>A i t*x t))) (λi hi j _=>by unfold uc;rw[h i hi]),vh hk x n (qa0 n),if_pos hk]
def RF.inverse {p:Nat->Nat}{A B W kd:Mx}{f:Rat}(hr:RO n (n+n) W kd f)(h:RF n n n p kd)(hA:jV n n W A)(hI:∀i,i<n->∀j,j<n->W i (n+j)=one i j)(hB:∀i,i<n->∀j,j<n->kd i (n+j)=B i j):
 jV n n (mul n B A) one/\jV n n (mul n A B) one:=by
 have hZ:=h.full
 obtain⟨E,hE⟩:=hr.mat
 have hEB:∀i,i<n->∀j,j<n->E i j=B i j:=λi hi j G=>by
  rw[<-hB i hi j G,hE i hi (n+j) J]
  rw[show mul n E W i (n+j)=mul n E one i j from au λl hl=>by rw[hI l hl j G]]
  exact(mul_one G).symm
 refine⟨λi hi j G=>?_,λi hi j G=>?_⟩
 · rw[<-hZ i hi j G,hE i hi j J]
   exact au λl hl=>by rw[hEB i hi l hl,hA l hl j G]
 · let x:Nat->Rat:=λt=>if t<n then B t j else if t=n+j then -1 else 0
   have hx:∀D:Mx,∀i,sm (n+n) (λt=>D i t*x t)=sm n (λt=>D i t*B t j)-D i (n+j):=λD i=>by
    rw[uL]
    rw[au (n:=n) (g:=λt=>D i t*B t j) (λt ht=>by show _*(if t<n then B t j else _)=_;rw[if_pos ht])]
    rw[iF (n:=n) (k:=j) (f:=λt=>D i (n+t)*x (n+t)) G (λt ht H=>by
     show _*(if n+t<n then _ else if n+t=n+j then -1 else 0)=0
     rw[if_neg J,if_neg J];grind)]
    show _+D i (n+j)*(if n+j<n then _ else if n+j=n+j then -1 else 0)=_
    rw[if_neg J,if_pos Z];grind
   have h1:=(hr.ker x).2 (λk hk=>by
    rw[hx kd k,hB k hk j G]
    rw[iF hk (λt ht H=>by rw[hZ k hk t ht];unfold one;rw[if_neg (λe=>H e.symm)];grind),hZ k hk k hk]
    unfold one;rw[if_pos Z];grind) i hi
   rw[hx W i,hI i hi j G]at h1
   have h2:mul n A B i j=sm n (λt=>W i t*B t j):=au λt ht=>by rw[hA i hi t ht]
   rw[h2];grind
def Mq {A B C:Mx}(h1:jV n n (mul n C B) one)(h2:jV n n (mul n A B) one)(h3:jV n n (mul n B A) one):jV n n C A:=λi hi j E=>by
 rw[<-mul_one (A:=C) E,show mul n C one i j=mul n C (mul n B A) i j from au λl hl=>by rw[h3 l hl j E],<-mul_assoc]
 rw[show mul n (mul n C B) A i j=mul n one A i j from au λl hl=>by rw[h1 i hi l hl]]
 exact one_mul hi
end La
namespace Go.Proofs.YtlmihmlnpjkblaaGreatDoor
open Go Go.Eng Go.RowKit La Proofs.Tryz
variable {n N D N' D' k i j:Nat}
def P3 {n d:Int}{q:R}(hd:d≠0)(h:ig n d=some q):qv q=(n:Rat)/(d:Rat):=by
 obtain⟨h1,h2⟩:=G7 h
 unfold ig at h
 rw[h1,h2,Bool.and_self,if_pos Z]at h
 exact uS hd h
def P5 {a b:R}{x y:Rat}(ha:Bq a x N D)(hb:Bq b y N' D')(h1:N*N'<dD)(h2:D*D'<dD):∃q,qr a b=some q/\Bq q (x*y) (N*N') (D*D'):=by
 obtain⟨q,e,ok,hv⟩:=pV ha hb h1 h2
 have G:=cE ha.ok
 have p2:=cE hb.ok
 have q1:=g7 ha.ok
 have E:=g7 hb.ok
 have hq:qv q=((ah a.1*ah b.1:Int):Rat)/((ah a.2*ah b.2:Int):Rat):=by
  rw[hv,<-ha.eq,<-hb.eq,Rat.intCast_mul,Rat.intCast_mul];unfold qv;grind
 have:=Bq.of (N:=N*N') (D:=D*D') ok (λe=>by rcases Int.mul_eq_zero.1 e with e|e <;>omega) hq (by rw[Int.natAbs_mul];exact qb9 ha.num hb.num) DS
 exact⟨q,e,ok,hv,this.num,this.den⟩
def pA (a:Nat->Nat):Nat->Nat
 |0=>1
 |r+1=>pA a r*a r
def Bg {l:List R}{a S:Nat->Nat}(hp:∀k,k<l.length->Bq (l.getD k z0) (qv (l.getD k z0)) (a k) (S k))(hA:∀k,k<=l.length->pA a k<dD)(hS:∀k,k<=l.length->pA S k<dD):
 ∀(f i:Nat) (d:R) (x:Rat),i+f=l.length->Bq d x (pA a i) (pA S i)->∃p,il l f i d=some p/\Bq p (x*Ds (l.drop i)) (pA a l.length) (pA S l.length)
 |0,i,d,x,h,hb=>⟨d,rfl,by rw[show i=l.length by omega]at hb ⊢;rw[List.drop_length];simpa[Ds]using hb⟩
 | f+1,i,d,x,h,hb=>by
   have hi:i<l.length:=J
   have G:=hp i hi
   have hr:ar l i=l.getD i z0:=by rw[eh hi];simp[List.getD,hi]
   obtain⟨q,e,hq⟩:=P5 hb G (hA (i+1) J) (hS (i+1) J)
   obtain⟨p,e2,E⟩:=Bg hp hA hS f (i+1) q _ J hq
   refine⟨p,by rw[il,hr,e];exact e2,?_⟩
   rw[show l.drop i=l.getD i z0::l.drop (i+1)by rw[List.drop_eq_getElem_cons hi];simp[List.getD,hi],Ds,<-Rat.mul_assoc]
   exact E
def U0 {a b q:R}(h:dn a b=some q):qv q=qv a-qv b:=by
 unfold dn at h
 split at h
 · rename_i hh
   simp only[Bool.and_eq_true]at hh
   split at h
   · have E:=cE hh.1
     have p2:=cE hh.2
     rw[P3 (λe=>by rcases Int.mul_eq_zero.1 e with e|e <;>omega) h,Rat.intCast_mul,Rat.intCast_sub,Rat.intCast_mul,Rat.intCast_mul]
     have q1:=g7 hh.1
     have G:=g7 hh.2
     unfold qv;grind
   · cases h
 · cases h
def Mr {d:R}(h:bJ d=true):bJ (rT d)=true/\qv (rT d)= -qv d:=by
 refine⟨EU h,?_⟩
 rw[U0 (qO h),mJ];grind
def P6 {L:Rows}{a b S:Nat->Nat}{s:El}(hn:1<=n)(hn8:n<=8)(ok:qt n n L)(e:elim n n n L=some s)(h:EI n n n n (λ_=>1) (Q L) a b S s)(hA:∀k,k<=n->pA a k<dD)(hS:∀k,k<=n->pA S k<dD):
 ∃d r,kO n L=some d/\bJ d=true/\qv d=det n (Q L)/\kb n L=some r/\Rk n n r (Q L)/\(det n (Q L)=0↔r<n)/\∀X,det n (La.mul n (Q L) X)=det n (Q L)*det n X:=by
 obtain⟨hv,A0⟩:=kW hn hn8 hn hn8 ok
 have E:=h.rf.det_iff h.ro (qa0 n)
 have Af:=h.rf.rn
 have hrank:kb n L=some s.piv.length:=by unfold kb;rw[if_pos hv,A0,e];rfl
 have G:kO n L=oi n s:=by unfold kO;rw[if_pos (Da hv A0.symm),e];rfl
 have A2:=h.ro.ne
 have A1:det n (Q L)=0↔s.piv.length<n:=by
  constructor
  · intro e2
    rcases Nat.lt_or_ge s.piv.length n with h1|h1
    · exact h1
    · rw[E.1 J]at e2;exact absurd e2 A2
  · exact E.2
 have H:=h.rf.rank h.ro (qa0 n)
 have O:=λX=>h.rf.det_mul h.ro (qa0 n) X
 by_cases hlt:s.piv.length<n
 · refine⟨z0,s.piv.length,by rw[G];unfold oi;rw[if_pos hlt],Vr,by rw[mJ,E.2 hlt],hrank,H,A1,O⟩
 · obtain⟨d,e2,hd⟩:=Bg h.pv (λk hk=>hA k J) (λk hk=>hS k J) s.piv.length 0 o1 1 J ⟨Yy,Rx,show(ah o1.1).natAbs<=1 by decide +kernel,show(ah o1.2).natAbs<=1 by decide +kernel⟩
   have W:qv d=Ds s.piv:=by rw[hd.eq,List.drop_zero];grind
   have Ab:kO n L=some (if s.sw%2=1 then rT d else d):=by rw[G];unfold oi;rw[if_neg hlt,e2];rfl
   have hf:=E.1 J
   refine⟨_,s.piv.length,Ab,?_,?_,hrank,H,A1,O⟩
   · split
     · exact(Mr hd.ok).1
     · exact hd.ok
   · rw[hf]
     unfold M0
     by_cases e3:s.sw%2=1
     · rw[if_pos e3,if_neg J,(Mr hd.ok).2,W];grind
     · rw[if_neg e3,if_pos J,W];grind
def P7 {L:Rows}(hn:1<=n)(hn8:n<=8)(ok:qt n n L)(hr:YD n n L N D)(hg:Gr n n n 1 (gA N) (gB N N) (gS N D))(hA:∀k,k<=n->pA (gA N) k<dD)(hS:∀k,k<=n->pA (gS N D) k<dD):
 ∃d r,kO n L=some d/\bJ d=true/\qv d=det n (Q L)/\kb n L=some r/\Rk n n r (Q L)/\(det n (Q L)=0↔r<n)/\∀X,det n (La.mul n (Q L) X)=det n (Q L)*det n X:=by
 obtain⟨k3,t,hU⟩:=hr
 obtain⟨s,e,h⟩:=vg (w:=λ_=>1) ok hg (λj _=>⟨show(1:Int)≠0 by decide,show Int.natAbs 1<=1 by decide,λ_=>rfl⟩) (qa0 n) k3 t (λi hi=>⟨(hU i hi).1,(hU i hi).2.1,λj E=>⟨by rw[Int.mul_one];exact((hU i hi).2.2 j E).1,by rw[if_pos E];exact((hU i hi).2.2 j E).2⟩⟩)
 exact P6 hn hn8 ok e h hA hS
def pB (a0 s0 R:Nat):Bool:=(List.range (R+1)).all λk=>Nat.blt (pA (gA a0) k) dD&&Nat.blt (pA (gS a0 s0) k) dD
def Ms {a0 s0 R:Nat}(h:pB a0 s0 R=true)(hk:k<=R):pA (gA a0) k<dD/\pA (gS a0 s0) k<dD:=by
 have:=List.all_eq_true.1 h k (List.mem_range.2 J)
 simpa only[Bool.and_eq_true,Nat.blt_eq]using this
def Bh (t:Int):∀n:Nat,((t^n:Int):Rat)=(t:Rat)^n
 |0=>by rw[Int.pow_zero,Rat.pow_zero];rfl
 |n+1=>by rw[Int.pow_succ,Rat.pow_succ,Rat.intCast_mul,Bh t n]
def FQ {t:Int}(h:t≠0):∀n:Nat,t^n≠0
 |0=>by simp
 |n+1=>by rw[Int.pow_succ];intro e;exact(Int.mul_eq_zero.1 e).elim (FQ h n) h
def Bi {A:Mx}{k3:Nat->Nat->Int}{t:Int}{N:Nat->Nat}(ht:t≠0)(h:∀i,i<n->∀j,j<n->A i j=(k3 i j:Rat)/(t:Rat)/\(k3 i j).natAbs<=N j):
 ∃z:Int,det n A=(z:Rat)/((t^n:Int):Rat)/\z.natAbs<=Be n*pN N n:=by
 obtain⟨z,h1,h2⟩:=FO n (λi j=>(k3 i j:Rat)) N (λi hi j E=>⟨k3 i j,rfl,(h i hi j E).2⟩)
 refine⟨z,?_,h2⟩
 rw[e8 (A:=A) (B:=λi j=>(k3 i j:Rat)/(t:Rat)) (λi hi j E=>(h i hi j E).1),FP (t:Rat) (dK ht) n,h1,Bh]
def U2 (h:j<n):ar (uR i n) j=if i=j then o1 else z0:=by
 rw[eh (by rw[mG];exact h)];simp[uR]
def ZQ (h:j<n):qv (ar (uR i n) j)=one i j:=by
 rw[U2 h];unfold one
 split
 · exact Rx
 · exact mJ
def Mu {m:Nat}{L:Rows}(ok:qt n m L)(hi:i<n)(hj:j<m):Q (jP n L) i j=Q L i j:=by
 unfold Q jP;rw[jQ (by rw[(ok i hi).1];exact hj)]
def Mv {m:Nat}{L:Rows}(ok:qt n m L)(hi:i<n)(hj:j<n):Q (jP n L) i (m+j)=one i j:=by
 unfold Q jP;rw[kQ (by rw[(ok i hi).1];omega),(ok i hi).1,show m+j-m=j by omega];exact ZQ hj
def Bj {l:List R}:ar (l.drop n) j=ar l (n+j):=by unfold ar;simp[List.getD,List.getElem?_drop]
def FT {N1 N2:Nat}{L:Rows}(hn:1<=n)(hn8:n<=8)(ok:qt n n L)(X:Nat->Nat->Int)(t:Nat->Int)(ht:∀i,i<n->t i≠0/\(t i).natAbs<=D/\(t i).natAbs<=N2)(hX:∀i,i<n->∀j,j<n->Q L i j=(X i j:Rat)/(t i:Rat)/\(X i j).natAbs<=N1)(hg:Gr n (n+n) n 1 (gA N1) (gB N1 N2) (gS N1 D)):
 ∃r,Rk n n r (Q L)/\((r<n/\ep n L=none)\/(r=n/\∃B,ep n L=some B/\qt n n B/\jV n n (La.mul n (Q B) (Q L)) one/\jV n n (La.mul n (Q L) (Q B)) one)):=by
 obtain⟨hv,G⟩:=kW hn hn8 hn hn8 ok
 have okU:qt n (n+n) (jP n L):=by have:=m7 (gZ hv);rwa [G]at this
 obtain⟨s,e,h⟩:=vg (w:=λ_=>1) (V:=1) okU hg (λj _=>⟨show(1:Int)≠0 by decide,show Int.natAbs 1<=1 by decide,λ_=>rfl⟩) (Nat.le_add_right n n) (λi j=>if j<n then X i j else if i=j-n then t i else 0) t (λi hi=>by
  obtain⟨t1,t2,t3⟩:=ht i hi
  refine⟨t1,t2,λj E=>?_⟩
  by_cases e:j<n
  · simp only[if_pos e,Int.mul_one]
    rw[Mu ok hi e]
    exact hX i hi j e
  · simp only[if_neg e,Int.mul_one]
    obtain⟨k,rfl⟩:∃k,j=n+k:=⟨j-n,by omega⟩
    have q1:=dK t1
    rw[Mv ok hi J,show n+k-n=k by omega]
    unfold one
    by_cases e2:i=k
    · rw[if_pos e2,if_pos e2];exact⟨by grind,t3⟩
    · rw[if_neg e2,if_neg e2];exact⟨by simp;grind,by simp⟩)
 have hwide:jV n n (Q (jP n L)) (Q L):=λi hi j E=>Mu ok hi E
 have hS:ep n L=yj n s:=by unfold ep;rw[if_pos (Da hv G.symm),e];rfl
 have H:=h.rf.rn
 refine⟨s.piv.length,FN (h.rf.rank h.ro (Nat.le_add_right n n)) hwide,?_⟩
 by_cases hlt:s.piv.length<n
 · left;exact⟨hlt,by rw[hS];unfold yj;rw[if_pos hlt]⟩
 · right
   have hfull:RF n n n (λl=>s.cols.getD l 0) (Q s.L):=by have:=h.rf;rwa [show s.piv.length=n by omega]at this
   have hB:∀i,i<n->∀j,j<n->Q s.L i (n+j)=Q (λi=>(s.L i).drop n) i j:=λi _ j _=>by unfold Q;rw[Bj]
   have:=RF.inverse h.ro hfull hwide (λi hi j E=>Mv ok hi E) hB
   refine⟨by omega,λi=>(s.L i).drop n,by rw[hS];unfold yj;rw[if_neg hlt],λi hi=>⟨by rw[List.length_drop,(h.ok i hi).1];omega,λj E=>by rw[Bj];exact(h.ok i hi).2 (n+j) J⟩,this.1,this.2⟩
end Go.Proofs.YtlmihmlnpjkblaaGreatDoor
namespace La
variable {k n:Nat}{f v e:Nat->Rat}
def xf {f:Nat->Rat}:∀{n:Nat},(∀i,i<n->0<=f i)->0<=sm n f
 |0,_=>by simp[sm]
 |n+1,h=>by have h1:=xf (n:=n) λi hi=>h i J;have h2:=h n J;simp only[sm];grind
def Mw {f:Nat->Rat}{k:Nat}:∀{n:Nat},(∀i,i<n->0<=f i)->k<n->0<f k->0<sm n f
 | n+1,h,hk,hp=>by
   have h2:=h n J
   simp only[sm]
   by_cases e:k=n
   · subst e;have h1:=xf (n:=k) λi hi=>h i J;grind
   · have h1:=Mw (n:=n) (λi hi=>h i J) J hp;grind
def My (hk:k<=n)(h:∀i,k<=i->i<n->f i=0):sm n f=sm k f:=by
 obtain⟨d,rfl⟩:∃d,n=k+d:=⟨n-k,by omega⟩
 rw[uL,dO (n:=d) (λi _=>h _ J J)];grind
def nH (x:Rat):0<=x*x:=by
 rcases Rat.le_total (a:=0) (b:=x)with h|h
 · exact Rat.mul_nonneg h h
 · have:=Rat.mul_nonneg (show 0<=-x by grind) (show 0<=-x by grind);grind
def Mz {x:Rat}(h:x≠0):0<x*x:=by
 have h1:=nH x
 have h2:x*x≠0:=λe=>by rcases Rat.mul_eq_zero.1 e with e|e <;>contradiction
 grind
def qf (n:Nat)(A:Mx)(v:Nat->Rat):Rat:=sm n (λi=>v i*sm n (λj=>A i j*v j))
def PD (n:Nat)(A:Mx):Prop:=∀v:Nat->Rat,(∃j,j<n/\v j≠0)->0<qf n A v
def Bl {A B:Mx}(h:jV n n A B):qf n A v=qf n B v:=au λi hi=>by rw[au λj E=>by rw[h i hi j E]]
def PD.congr {A B:Mx}(h:PD n A)(e:jV n n A B):PD n B:=λv hv=>by rw[<-Bl e];exact h v hv
def PD.lead {A:Mx}(h:PD n A)(hk:k<=n):PD k A:=by
 intro v ⟨j,E,hv⟩
 have h1:=h (λi=>if i<k then v i else 0) ⟨j,by omega,by simpa[E]using hv⟩
 have h2:qf n A (λi=>if i<k then v i else 0)=qf k A v:=by
  unfold qf
  rw[My hk (λi h3 _=>by simp only[if_neg (by omega:¬i<k)];grind)]
  refine au λi hi=>?_
  simp only[if_pos hi]
  rw[My hk (λi h3 _=>by simp only[if_neg (by omega:¬i<k)];grind)]
  congr 1
  exact au λl hl=>by simp only[if_pos hl]
 rwa [h2]at h1
def PD.tail {A:Mx}(h:PD (n+1) A):PD n (mn 0 A):=by
 intro v ⟨j,E,hv⟩
 have h1:=h (λi=>if i=0 then 0 else v (i-1)) ⟨j+1,by omega,by simpa using hv⟩
 have h2:qf (n+1) A (λi=>if i=0 then 0 else v (i-1))=qf n (mn 0 A) v:=by
  unfold qf
  rw[g6]
  simp only[if_true]
  rw[show∀x y:Rat,0*x+y=y by intros;grind]
  refine au λi _=>?_
  rw[g6]
  simp only[if_true,if_neg (Nat.succ_ne_zero _),Nat.add_sub_cancel]
  rw[show∀x y:Rat,x*0+y=y by intros;grind]
  congr 1
 rwa [h2]at h1
def PD.det_pos:∀{n:Nat} {A:Mx},PD n A->0<det n A
 |0,_,_=>by show(0:Rat)<1;decide
 | n + 1,A,h=>by
   obtain⟨v,hv,hz⟩:=ker n (n+1) (λi j=>A (i+1) j) (Nat.lt_succ_self n)
   have hq:=h v hv
   obtain⟨s,hs⟩:∃s,sm (n+1) (λj=>A 0 j*v j)=s:=⟨_,rfl⟩
   have h1:qf (n+1) A v=v 0*s:=by
    unfold qf
    rw[g6,hs,dO (n:=n) (λi hi=>by rw[hz i hi];grind)];grind
   have hc:=Mp (n:=n+1) (A:=A) (b:=λi=>if i=0 then s else 0) (x:=v) (λi hi=>by
    by_cases e:i=0
    · subst e;rw[if_pos Z];exact hs.symm
    · rw[if_neg e]
      obtain⟨i,rfl⟩:∃k,i=k+1:=⟨i-1,by omega⟩
      exact(hz i J).symm) (k:=0) J
   have hd:det (n+1) (uc A 0 λi=>if i=0 then s else 0)=s*det n (mn 0 A):=by
    rw[det,g6,dO (n:=n) (λi hi=>by unfold uc;simp)]
    have G:mn 0 (uc A 0 λi=>if i=0 then s else 0)=mn 0 A:=by
     funext r c;unfold mn uc;rw[if_neg J]
    rw[G];unfold uc sg;simp;grind
   have H:=h.tail.det_pos
   rw[h1]at hq
   rw[hd]at hc
   have E:v 0≠0:=λe=>by rw[e]at hq;grind
   have h3:=Rat.mul_pos hq H
   have h4:v 0*v 0*det (n+1) A=v 0*s*det n (mn 0 A):=by grind
   have O:=Mz E
   have W:0<v 0*v 0*det (n+1) A:=by rw[h4];exact h3
   refine Rat.not_le.1 λ_=>?_
   have A0:=Rat.mul_nonneg (Rat.le_of_lt O) (show 0<=- det (n+1) A by grind)
   grind
def Rk.inj {m:Nat}{A:Mx}(h:Rk n m m A)(hv:∀i,i<n->sm m (λj=>A i j*v j)=0):∀j,j<m->v j=0:=by
 intro E H
 refine qb6 λG=>?_
 obtain⟨m,rfl⟩:∃k,m=k+1:=⟨m-1,by omega⟩
 obtain⟨C,F,CL,FR,h⟩:=h
 have:=h.le (s:=m) (X:=λi l=>A i (sk E l)) (Y:=λl j=>if j=E then-(v (sk E l)/v E)else if j=sk E l then 1 else 0) (λi hi j O=>by
  show A i j=sm m _
  by_cases e:j=E
  · subst e
    simp only[if_true]
    have h1:=hv i hi
    rw[yu _ j m J]at h1
    rw[au (g:=λl=>- (1/v j)*(A i (sk j l)*v (sk j l))) (λl _=>by grind),dm]
    grind
  · rw[iF (k:=if j<E then j else j-1) kd2 (λl hl G=>by
     show A i (sk E l)*(if j=E then-(v (sk E l)/v E)else if j=sk E l then 1 else 0)=0
     rw[if_neg e,if_neg (by unfold sk;split at G <;>split <;>omega)];grind)]
    have:sk E (if j<E then j else j-1)=j:=by unfold sk;grind
    simp only[if_neg e,this,if_true];grind)
 omega
def P8 {m:Nat}{B G:Mx}(h1:jV m m (mul m B G) one)(h2:jV m m (mul m G B) one)(hs:∀i,i<m->∀j,j<m->G i j=G j i):∀i,i<m->∀j,j<m->B i j=B j i:=by
 have h3:jV m m (mul m (tr B) G) one:=λi hi j E=>by
  have h4:=h2 j E i hi
  rw[uN]at h4
  rw[show mul m (tr B) G i j=mul m (tr B) (tr G) i j from au λl hl=>by rw[hs l hl j E];rfl,h4]
  unfold one;simp only[eq_comm]
 intro i hi j E
 exact Mq h3 h1 h2 i hi j E |>.symm
def PD.inv {m:Nat}{B G:Mx}(hG:PD m G)(h2:jV m m (mul m G B) one):PD m B:=by
 intro v ⟨j,H,hv⟩
 let w:Nat->Rat:=λi=>sm m (λj=>B i j*v j)
 have E:∀i,i<m->sm m (λj=>G i j*w j)=v i:=λi hi=>by
  have h3:sm m (λj=>G i j*w j)=mul m (mul m G B) (λj _=>v j) i 0:=by rw[mul_assoc];rfl
  rw[h3,show mul m (mul m G B) (λj _=>v j) i 0=mul m one (λj _=>v j) i 0 from au λl hl=>by rw[h2 i hi l hl],one_mul hi]
 have A0:∃i,i<m/\w i≠0:=qb6 λO=>hv (by
  rw[<-E j H]
  exact dO λi hi=>by
   have:w i=0:=qb6 λh=>O ⟨i,hi,h⟩
   rw[this];grind)
 have h4:=hG w A0
 have W:qf m G w=qf m B v:=au λi hi=>by rw[E i hi,Rat.mul_comm]
 rwa [W]at h4
def PD.apart {r:Nat}{A:Mx}(h:PD n A)(hr:r<n)(hz:∀j,j<r+1->A r j+sm r (λt=>e t*A t j)=0):False:=by
 have h1:=h.lead (k:=r+1) J (λt=>if t=r then 1 else e t) ⟨r,by omega,by simp⟩
 have h2:qf (r+1) A (λt=>if t=r then 1 else e t)=0:=by
  have h3:qf (r+1) A (λt=>if t=r then 1 else e t)=sm (r+1) (λj=>sm (r+1) (λi=>(if i=r then 1 else e i)*A i j)*(if j=r then 1 else e j)):=by
   unfold qf
   rw[au (g:=λi=>sm (r+1) (λj=>(if i=r then 1 else e i)*A i j*(if j=r then 1 else e j))) (λi _=>by rw[<-dm];exact au λj _=>by grind),iO]
   exact au λj _=>by rw[nd]
  rw[h3]
  refine dO λj E=>?_
  have h4:=hz j E
  have G:sm (r+1) (λi=>(if i=r then 1 else e i)*A i j)=0:=by
   show sm r (λi=>(if i=r then 1 else e i)*A i j)+(if r=r then 1 else e r)*A r j=0
   rw[au (n:=r) (g:=λt=>e t*A t j) (λt ht=>by rw[if_neg J]),if_pos Z];grind
  rw[G];grind
 rw[h2]at h1;grind
end La
namespace Go.Proofs.YtlmihmlnpjkblaaGreatDoor
open Go Go.Eng Go.RowKit La Proofs.Tryz
variable {c k n V j i N D N0 N1:Nat}
structure EP (n c:Nat)(A:Mx)(s:El):Prop where
 len:s.piv.length=c
 top:∀i,i<c->∃e:Nat->Rat,∀j,j<n->Q s.L i j=sm c (λt=>e t*A t j)
 low:∀i,c<=i->i<n->∃e:Nat->Rat,∀j,j<n->Q s.L i j=A i j+sm c (λt=>e t*A t j)
def yQ {e f:Nat->Rat}{k:Rat}:sm c (λt=>e t*f t)+k*f c=sm (c+1) (λt=>(if t<c then e t else k)*f t):=by
 show _=sm c (λt=>(if t<c then e t else k)*f t)+(if c<c then e c else k)*f c
 rw[if_neg (Nat.lt_irrefl c)]
 congr 1
 exact au λt ht=>by rw[if_pos ht]
def EP.step {w:Nat->Int}{A:Mx}{a b S:Nat->Nat}{s:El}(h:EI n n n c w A a b S s)(hp:EP n c A s)(pd:PD n A)(hc:c<n)(hg:Yb c n V a b S)(hwt:Wt n n V w):∃s',pt n n c s=some s'/\EI n n n (c+1) w A a b S s'/\EP n (c+1) A s':=by
 obtain⟨s',h1,h2,h3⟩:=h.colS (λ_ _=>by rw[hp.len];exact hg) hwt hc (qa0 n)
 rw[hp.len]at h3
 obtain⟨e0,W⟩:=hp.low c (qa0 c) hc
 have A1:Q s.L c c≠0:=λe=>pd.apart hc (e:=e0) λj E=>by
  rw[<-W j J]
  by_cases ej:j=c
  · rw[ej];exact e
  · exact h.rf.zero c (by rw[hp.len];exact qa0 c) hc j J
 obtain⟨A2,H⟩:=h3 hc A1
 refine⟨s',h1,h2,⟨A2,?_,?_⟩⟩
 · have hc':∀j,j<n->Q s'.L c j=sm (c+1) (λt=>(if t<c then e0 t/Q s.L c c else 1/Q s.L c c)*A t j):=λj E=>by
    rw[(H j E).1,W j E,<-yQ]
    rw[au (f:=λt=>e0 t/Q s.L c c*A t j) (g:=λt=>1/Q s.L c c*(e0 t*A t j)) (λt _=>by grind),dm];grind
   intro i hi
   by_cases e:i=c
   · subst e;exact⟨_,hc'⟩
   · obtain⟨G,O⟩:=hp.top i J
     refine⟨λt=>(if t<c then G t else 0)-Q s.L i c*(if t<c then e0 t/Q s.L c c else 1/Q s.L c c),λj E=>?_⟩
     rw[(H j E).2 i J e,O j E,hc' j E]
     rw[au (n:=c+1) (f:=λt=>((if t<c then G t else 0)-Q s.L i c*(if t<c then e0 t/Q s.L c c else 1/Q s.L c c))*A t j) (g:=λt=>(if t<c then G t else 0)*A t j-Q s.L i c*((if t<c then e0 t/Q s.L c c else 1/Q s.L c c)*A t j)) (λt _=>by grind),ot,dm,<-yQ (e:=G) (k:=0) (f:=λt=>A t j)];grind
 · have hc':∀j,j<n->Q s'.L c j=sm (c+1) (λt=>(if t<c then e0 t/Q s.L c c else 1/Q s.L c c)*A t j):=λj E=>by
    rw[(H j E).1,W j E,<-yQ]
    rw[au (f:=λt=>e0 t/Q s.L c c*A t j) (g:=λt=>1/Q s.L c c*(e0 t*A t j)) (λt _=>by grind),dm];grind
   intro i hi A0
   obtain⟨G,O⟩:=hp.low i J A0
   refine⟨λt=>(if t<c then G t else 0)-Q s.L i c*(if t<c then e0 t/Q s.L c c else 1/Q s.L c c),λj E=>?_⟩
   rw[(H j E).2 i A0 J,O j E,hc' j E]
   rw[au (n:=c+1) (f:=λt=>((if t<c then G t else 0)-Q s.L i c*(if t<c then e0 t/Q s.L c c else 1/Q s.L c c))*A t j) (g:=λt=>(if t<c then G t else 0)*A t j-Q s.L i c*((if t<c then e0 t/Q s.L c c else 1/Q s.L c c)*A t j)) (λt _=>by grind),ot,dm,<-yQ (e:=G) (k:=0) (f:=λt=>A t j)];grind
def Yb.of {R M a0 b0 s0 r m:Nat}(h:UZ R M V a0 b0 s0=true)(hV:1<=V)(hr:r<R)(hM:m<=M):Yb r m V (gA a0) (gB a0 b0) (gS a0 s0):=by
 have h1:=List.all_eq_true.1 h r (List.mem_range.2 hr)
 simp only[Bool.and_eq_true,Bool.or_eq_true,Nat.blt_eq,Nat.ble_eq]at h1
 exact⟨hV,qa0 _,qa0 _,qa0 _,h1.1,λ_=>by
  rcases h1.2 with h5|h5
  · omega
  · exact h5⟩
def U6 {d:R}(h:bJ d=true):0<qv d↔¬qF (ah d.1)<=0:=by
 unfold qF
 rw[c7]
 have E:=cE h
 have hd:(0:Rat)<(ah d.2:Rat):=by rw[<-Rat.intCast_zero];exact Rat.intCast_lt_intCast.2 E
 have hq:(ah d.1:Rat)=qv d*(ah d.2:Rat):=by have:=g7 h;unfold qv;grind
 constructor
 · intro h1 h2
   have h3:=Rat.mul_pos h1 hd
   rw[<-hq,<-Rat.intCast_zero]at h3
   have:=Rat.intCast_lt_intCast.1 h3
   omega
 · intro h1
   have h2:(0:Rat)<(ah d.1:Rat):=by rw[<-Rat.intCast_zero];exact Rat.intCast_lt_intCast.2 J
   rw[hq]at h2
   refine Rat.not_le.1 λ_=>?_
   have h4:=Rat.mul_nonneg (show 0<=- qv d by grind) (Rat.le_of_lt hd)
   grind
def Bm {L:Rows}{n:Nat}:∀(f k:Nat),k+f=n->(∀j,k<=j->j<n->∃d,kO (j+1) (λi=>(L i).take (j+1))=some d/\bJ d=true/\0<qv d)->nl L f k=some true
 |0,_,_,_=>rfl
 | f+1,k,hk,h=>by
   obtain⟨d,h1,h2,h3⟩:=h k (qa0 k) J
   rw[nl,h1]
   dsimp only
   rw[if_neg ((U6 h2).1 h3)]
   exact Bm f (k+1) J λj h1 h2=>h j J h2
def pZ {l:List R}(h:j<k):ar (l.take k) j=ar l j:=by unfold ar;rw[List.getD,List.getD,List.getElem?_take_of_lt h]
def P9 {L:Rows}(ok:qt n n L)(hk:k<=n):qt k k (λi=>(L i).take k):=λi hi=>⟨by rw[List.length_take,(ok i J).1];omega,λj E=>by rw[pZ E];exact(ok i J).2 j J⟩
def MA {L:Rows}(hj:j<k):Q (λi=>(L i).take k) i j=Q L i j:=by unfold Q;rw[pZ hj]
def Qa {R:Nat}{L:Rows}(hn:1<=n)(hn8:n<=8)(hR:n<=R)(ok:qt n n L)(hr:YD n n L N D)(hN:1<=N)(hD:1<=D)(hg:UZ R R 1 N N D=true)(hp:pB N D R=true):
 ∃d r,kO n L=some d/\bJ d=true/\qv d=det n (Q L)/\kb n L=some r/\Rk n n r (Q L)/\(det n (Q L)=0↔r<n)/\∀X,det n (La.mul n (Q L) X)=det n (Q L)*det n X:=
 P7 hn hn8 ok hr (Gr.of hg zd hN hD (.inl hR) hR) (λk hk=>(Ms hp J).1) (λk hk=>(Ms hp J).2)
def Yc {R:Nat}{L:Rows}{t:Int}(hn8:n<=8)(hk:k<n)(hkR:k+1<=R)(ok:qt n n L)(hr:qU n n L N t)(ht:t≠0)(htD:t.natAbs<=D)(hN:1<=N)(hD:1<=D)(hg:UZ R R 1 N N D=true)(hp:pB N D R=true):
 ∃d,kO (k+1) (λi=>(L i).take (k+1))=some d/\bJ d=true/\qv d=det (k+1) (Q L):=by
 obtain⟨k3,hU⟩:=hr
 obtain⟨d,_,h1,h2,h3,_⟩:=Qa (n:=k+1) J J hkR (P9 ok J) ⟨k3,λ_=>t,λi _=>⟨ht,htD,λj E=>by rw[MA E];exact hU i J j J⟩⟩ hN hD hg hp
 exact⟨d,h1,h2,by rw[h3];exact e8 λi _ j E=>MA E⟩
def Bn {t0:Int}{A B:Rows}(ht0:t0≠0)(hA:qU n n A N0 t0)(h:jV n n (La.mul n (Q A) (Q B)) one)(hd:det n (Q A)≠0)(hb:∀i,i<n->Be n*pN (λc=>if c=i then t0.natAbs else N0) n<=N1):∃z:Int,z≠0/\z.natAbs<=Be n*N0^n/\qU n n B N1 z:=by
 obtain⟨k3,hU⟩:=hA
 obtain⟨z,h1,h2⟩:=Bi (N:=λ_=>N0) ht0 hU
 rw[Bf]at h2
 have E:z≠0:=λe=>hd (by rw[h1,e];simp;grind)
 have A0:=dK (FQ ht0 n)
 have A1:=dK E
 have A2:=dK ht0
 refine⟨z,E,h2,qU.mk λi hi j O=>?_⟩
 obtain⟨y,H,W⟩:=Bi (A:=uc (Q A) i (λk=>one k j)) (k3:=λk c=>if c=i then(if k=j then t0 else 0)else k3 k c) (N:=λc=>if c=i then t0.natAbs else N0) ht0 (λk hk c hc=>by
  unfold uc
  by_cases e:c=i
  · simp only[if_pos e]
    unfold one
    by_cases e2:k=j
    · rw[if_pos e2,if_pos e2];exact⟨by grind,qa0 _⟩
    · rw[if_neg e2,if_neg e2];exact⟨by simp;grind,by simp⟩
  · simp only[if_neg e];exact hU k hk c hc)
 have G:=Mp (A:=Q A) (b:=λk=>one k j) (x:=λk=>Q B k j) (λk hk=>(h k hk j O).symm) hi
 refine⟨y,?_,qa8 W (hb i hi)⟩
 rw[H,h1]at G
 have:Q B i j*(z:Rat)=(y:Rat):=by
  have h3:(y:Rat)=Q B i j*((z:Rat)/((t0^n:Int):Rat))*((t0^n:Int):Rat):=by rw[<-G];grind
  rw[h3];grind
 rw[<-this];grind
end Go.Proofs.YtlmihmlnpjkblaaGreatDoor
namespace La
def ZR {m n:Nat}{W A:Mx}{v:Nat->Rat}:qf n (mul m (mul m (tr A) W) A) v=qf m W (λi=>sm n (λj=>A i j*v j)):=by
 let V:Mx:=λj _=>v j
 have h1:qf n (mul m (mul m (tr A) W) A) v=mul n (tr V) (mul n (mul m (mul m (tr A) W) A) V) 0 0:=rfl
 rw[h1]
 rw[show mul n (tr V) (mul n (mul m (mul m (tr A) W) A) V) 0 0=mul n (tr V) (mul m (tr A) (mul m W (mul n A V))) 0 0 from au λi _=>by
  rw[mul_assoc m n (mul m (tr A) W) A V,mul_assoc m m (tr A) W (mul n A V)]]
 rw[<-mul_assoc n m (tr V) (tr A) (mul m W (mul n A V))]
 exact au λi _=>by
  show mul n (tr V) (tr A) 0 i*_=_
  rw[<-uN n A V 0 i]
  rfl
def PD.gramW {m n:Nat}{W A:Mx}(hW:PD m W)(h:Rk m n n A):PD n (mul m (mul m (tr A) W) A):=by
 intro v ⟨j,G,hv⟩
 rw[ZR]
 refine hW _ ?_
 exact qb6 λE=>hv (h.inj (λi hi=>qb6 λh1=>E ⟨i,hi,h1⟩) j G)
def FU {n m r:Nat}{A:Mx}(h:Rk n m r A)(hr:r<m):∃v:Nat->Rat,(∃j,j<m/\v j≠0)/\∀i,i<n->sm m (λj=>A i j*v j)=0:=by
 obtain⟨C,F,CL,FR,h⟩:=h
 obtain⟨v,hv,E⟩:=ker r m F hr
 refine⟨v,hv,λi hi=>?_⟩
 let Vm:Mx:=λj _=>v j
 rw[au (n:=m) (g:=λj=>mul r C F i j*v j) λj G=>by rw[h.eq i hi j G]]
 have:sm m (λj=>mul r C F i j*v j)=mul r C (mul m F Vm) i 0:=by rw[<-mul_assoc];rfl
 rw[this]
 exact dO λl hl=>by
  show C i l*mul m F Vm l 0=0
  have h2:mul m F Vm l 0=0:=E l hl
  rw[h2];grind
def PD.nn {n:Nat}{A:Mx}(h:PD n A)(v:Nat->Rat):0<=qf n A v:=by
 by_cases e:∃j,j<n/\v j≠0
 · exact Rat.le_of_lt (h v e)
 · have:qf n A v=0:=dO λi hi=>by
    have:v i=0:=qb6 λh1=>e ⟨i,hi,h1⟩
    rw[this];grind
   rw[this];exact Rat.le_refl
def normal {m n:Nat}{B L C:Mx}{y x r:Nat->Rat}(hGC:jV n n (mul n (mul m B L) C) one)(hx:∀k,k<n->x k=sm n (λl=>C k l*sm m (λi=>B l i*y i)))(hr:∀i,i<m->r i=y i-sm n (λk=>L i k*x k)):∀k,k<n->sm m (λi=>B k i*r i)=0:=by
 intro k hk
 let d:Mx:=λl _=>sm m (λi=>B l i*y i)
 have h1:sm m (λi=>B k i*r i)=sm m (λi=>B k i*y i)-sm m (λi=>B k i*sm n (λl=>L i l*x l)):=by
  rw[<-ot];exact au λi hi=>by rw[hr i hi];grind
 have h2:sm m (λi=>B k i*sm n (λl=>L i l*x l))=mul n (mul m B L) (mul n C d) k 0:=by
  rw[mul_assoc]
  exact au λi _=>by
   show _=B k i*sm n (λl=>L i l*mul n C d l 0)
   rw[au (n:=n) (f:=λl=>L i l*x l) λl hl=>by rw[hx l hl]]
   rfl
 rw[h1,h2,<-mul_assoc n n (mul m B L) C d]
 rw[show mul n (mul n (mul m B L) C) d k 0=mul n one d k 0 from au λl hl=>by rw[hGC k hk l hl],one_mul hk]
 show sm m (λi=>B k i*y i)-sm m (λi=>B k i*y i)=0
 grind
def least {m n:Nat}{W L:Mx}{y x x' r r':Nat->Rat}(hs:∀i,i<m->∀j,j<m->W i j=W j i)(hW:PD m W)(ne:∀k,k<n->sm m (λi=>mul m (tr L) W k i*r i)=0)(hr:∀i,i<m->r i=y i-sm n (λk=>L i k*x k))(hr':∀i,i<m->r' i=y i-sm n (λk=>L i k*x' k)):qf m W r<=qf m W r':=by
 let u:Nat->Rat:=λi=>sm n (λk=>L i k*(x k-x' k))
 have hu:∀i,i<m->r' i=r i+u i:=λi hi=>by
  rw[hr' i hi,hr i hi]
  show _=_+sm n (λk=>L i k*(x k-x' k))
  rw[au (n:=n) (f:=λk=>L i k*(x k-x' k)) (g:=λk=>L i k*x k-L i k*x' k) λk _=>by grind,ot]
  grind
 have hc:sm m (λi=>u i*sm m (λj=>W i j*r j))=0:=by
  have h1:sm m (λi=>u i*sm m (λj=>W i j*r j))=sm n (λk=>(x k-x' k)*sm m (λi=>mul m (tr L) W k i*r i)):=by
   have h2:∀k,sm m (λi=>mul m (tr L) W k i*r i)=sm m (λi=>L i k*sm m (λj=>W i j*r j)):=λk=>by
    let Rm:Mx:=λj _=>r j
    have:=mul_assoc m m (tr L) W Rm k 0
    exact this
   rw[au (n:=n) (g:=λk=>sm m (λi=>(x k-x' k)*(L i k*sm m (λj=>W i j*r j)))) λk _=>by rw[h2,dm],iO]
   exact au λi _=>by
    show sm n (λk=>L i k*(x k-x' k))*_=_
    rw[<-nd];exact au λk _=>by grind
  rw[h1];exact dO λk hk=>by rw[ne k hk];grind
 have G:sm m (λi=>r i*sm m (λj=>W i j*u j))=0:=by
  rw[<-hc]
  rw[au (n:=m) (f:=λi=>r i*sm m (λj=>W i j*u j)) (g:=λi=>sm m (λj=>r i*(W i j*u j))) λi _=>by rw[dm],iO]
  exact au λj E=>by
   rw[<-dm];exact au λi hi=>by rw[hs i hi j E];grind
 have hq:qf m W r'=qf m W r+(sm m (λi=>r i*sm m (λj=>W i j*u j))+sm m (λi=>u i*sm m (λj=>W i j*r j))+qf m W u):=by
  unfold qf
  rw[<-lH,<-lH,<-lH]
  exact au λi hi=>by
   rw[au (n:=m) (f:=λj=>W i j*r' j) (g:=λj=>W i j*r j+W i j*u j) λj E=>by rw[hu j E];grind,lH,hu i hi];grind
 have H:=hW.nn u
 rw[hq,hc,G];grind
end La
namespace Go.Proofs.YtlmihmlnpjkblaaGreatDoor
open Go Go.Eng Go.RowKit La Proofs.Tryz
variable {xs:List Int}{i j N n k CB CX lo lo2:Nat}
section
def RB (n m:Nat)(L:Rows)(N D:Nat):Prop:=qt n m L/\∃t:Int,t≠0/\t.natAbs<=D/\qU n m L N t
section
variable {m D N1 D1 N2 D2:Nat}{L B P:Rows}
def RB.mul (hn:1<=n/\n<=8)(hk:1<=k/\k<=8)(hm:1<=m/\m<=8)(hA:RB n k L N1 D1)(hB:RB k m B N2 D2)(h1:9*(N1*N2)*(D1*D2)<dD)(h2:(D1*D2)*(D1*D2)<dD)(hN:8*(N1*N2)<=N)(hD:D1*D2<=D):
 ∃K,c6 n L k B=some K/\RB n m K N D/\jV n m (Q K) (La.mul k (Q L) (Q B)):=by
 obtain⟨okA,t,H,tD,rA⟩:=hA
 obtain⟨okB,u,G,uD,rB⟩:=hB
 have E:t.natAbs*u.natAbs<=D1*D2:=qb9 tD uD
 obtain⟨K,e,ok,hq,k3,hU⟩:=PY hn.1 hn.2 hk.1 hk.2 hm.1 hm.2 okA okB rA rB H G
  (Nat.lt_of_le_of_lt (qb9 (Nat.mul_le_mul_right _ J) E) h1) (Nat.lt_of_le_of_lt (qb9 E E) h2)
 refine⟨K,e,⟨ok,t*u,Int.mul_ne_zero H G,?_,k3,λi hi j O=>⟨(hU i hi j O).1,?_⟩⟩,hq⟩
 · rw[Int.natAbs_mul];exact qa8 E hD
 · exact qa8 (hU i hi j O).2 (qa8 (Nat.mul_le_mul_right _ hk.2) hN)
def RB.tr (h:RB n m L N D):RB m n (λj=>kX L n j) N D:=by
 obtain⟨ok,t,G,tD,k3,hU⟩:=h
 exact⟨λj E=>⟨py _ _ _,λi hi=>by rw[uy _ _ hi];exact(ok i hi).2 j E⟩,t,G,tD,λi j=>k3 j i,λi hi j E=>by rw[PZ (m:=m) i j E];exact hU j E i hi⟩
def RB.mono (h:RB n m L N1 D1)(hN:N1<=N)(hD:D1<=D):RB n m L N D:=by
 obtain⟨ok,t,G,tD,k3,hU⟩:=h
 exact⟨ok,t,G,qa8 tD hD,k3,λi hi j E=>⟨(hU i hi j E).1,qa8 (hU i hi j E).2 hN⟩⟩
def RB.congr (h:RB n m L N D)(e:∀i,i<n->L i=B i):RB n m B N D:=by
 obtain⟨ok,t,E,tD,k3,hU⟩:=h
 exact⟨λi hi=>by rw[<-e i hi];exact ok i hi,t,E,tD,k3,λi hi j G=>by have:=hU i hi j G;unfold Q at this ⊢;rw[<-e i hi];exact this⟩
def RB.inv2 (hn:1<=n/\n<=2)(h:RB n n L N D)(hN:1<=N)(hD:1<=D)(hg:UZ 2 4 1 N D D=true):
 ∃r,Rk n n r (Q L)/\((r<n/\ep n L=none)\/(r=n/\∃C,ep n L=some C/\qt n n C/\jV n n (La.mul n (Q C) (Q L)) one/\jV n n (La.mul n (Q L) (Q C)) one)):=by
 obtain⟨ok,t,E,tD,k3,hU⟩:=h
 exact FT (N1:=N) (N2:=D) (D:=D) hn.1 J ok k3 (λ_=>t) (λ_ _=>⟨E,tD,tD⟩) hU (Gr.of hg zd hN hD (.inl hn.2) J)
def RB.invR (hn:1<=n/\n<=2)(h:RB n n L N1 D1)(h1:1<=N1)(ok:qt n n B)(hi:jV n n (La.mul n (Q L) (Q B)) one)(hd:det n (Q L)≠0)(hN:2*(D1*N1)<=N)(hD:2*(N1*N1)<=D):RB n n B N D:=by
 obtain⟨_,t,E,tD,rL⟩:=h
 have hb:∀i,i<n->Be n*pN (λc=>if c=i then t.natAbs else N1) n<=N:=λi hi=>by
  have a1:t.natAbs<=2*(D1*N1):=qa8 tD (by have:=Nat.mul_le_mul_left D1 h1;omega)
  have G:t.natAbs*N1<=D1*N1:=Nat.mul_le_mul_right _ tD
  have hc:n=1\/n=2:=J
  rcases hc with rfl|rfl
  · have:i=0:=J
    subst this
    simp only[Be,pN,if_pos,Nat.mul_one,Nat.one_mul];omega
  · have:i=0\/i=1:=J
    rcases this with rfl|rfl
    · simp[Be,pN];omega
    · simp[Be,pN];rw[Nat.mul_comm N1];omega
 obtain⟨z,z0,z1,rB⟩:=Bn E rL hi hd hb
 refine⟨ok,z,z0,qa8 z1 ?_,rB⟩
 have hc:n=1\/n=2:=J
 rcases hc with rfl|rfl
 · have:=Nat.mul_le_mul_left N1 h1
   simp only[Be,Nat.pow_one,Nat.mul_one,Nat.one_mul];omega
 · simp only[Be,Nat.pow_two];omega
def RB.bq (h:RB n m L N D)(hi:i<n)(hj:j<m):Bq (ar (L i) j) (Q L i j) N D:=by
 obtain⟨ok,t,E,tD,k3,hU⟩:=h
 have:=Bq.of ((ok i hi).2 j hj) E (hU i hi j hj).1 (hU i hi j hj).2 tD
 rwa [<-(hU i hi j hj).1]at this
def RB.sub {ys:List R}(hy:RB m 1 (bA ys) N1 D1)(hP:RB m 1 P N2 D2)(h1:N1*D2+N2*D1<dD)(h2:D1*D2<dD)(hN:N1*D2+N2*D1<=N)(hD:D1*D2<=D):
 (∀i,i<m->(dn (ar ys i) (ar (P i) 0)).isSome=true/\bJ (rU P ys i)=true/\qv (rU P ys i)=qv (ar ys i)-Q P i 0)/\RB m 1 (bA ((List.range m).map (rU P ys))) N D:=by
 have key:∀i,i<m->(dn (ar ys i) (ar (P i) 0)).isSome=true/\bJ (rU P ys i)=true/\qv (rU P ys i)=qv (ar ys i)-Q P i 0:=λi hi=>by
  obtain⟨q,e,ok,hq⟩:=uT (hy.bq hi (by decide:0<1)) (hP.bq hi (by decide:0<1)) h1 h2
  have e':dn (ar ys i) (ar (P i) 0)=some q:=e
  have e2:rU P ys i=q:=by unfold rU;rw[e'];rfl
  exact⟨by rw[e'];rfl,by rw[e2];exact ok,by rw[e2,hq];rfl⟩
 refine⟨key,?_⟩
 obtain⟨_,t,G,tD,k3,hU⟩:=hy
 obtain⟨_,u,E,uD,X,hX⟩:=hP
 refine⟨λi hi=>⟨rfl,λk _=>?_⟩,t*u,Int.mul_ne_zero G E,?_,λi _=>k3 i 0*u-X i 0*t,λi hi j _=>?_⟩
 · rw[show k=0 by omega]
   show bJ (ar ((List.range m).map (rU P ys)) i)=true
   rw[gC hi];exact(key i hi).2.1
 · rw[Int.natAbs_mul];exact qa8 (qb9 tD uD) hD
 · have H:j=0:=J
   subst H
   have a:=hU i hi 0 zd
   have b:=hX i hi 0 zd
   have q1:=dK G
   have O:=dK E
   constructor
   · show qv (ar ((List.range m).map (rU P ys)) i)=_
     rw[gC hi,(key i hi).2.2,b.1]
     have a1:qv (ar ys i)=(k3 i 0:Rat)/(t:Rat):=a.1
     rw[a1];simp only[Rat.intCast_sub,Rat.intCast_mul];grind
   · show(k3 i 0*u-X i 0*t).natAbs<=N
     have c1:(k3 i 0*u).natAbs<=N1*D2:=by rw[Int.natAbs_mul];exact qb9 a.2 uD
     have c2:(X i 0*t).natAbs<=N2*D1:=by rw[Int.natAbs_mul];exact qb9 b.2 tD
     omega
end
structure mN (m n:Nat)(L V:Rows)(ys:List R)(W:Rows):Prop where
 hm:1<=m/\m<=5
 hn:1<=n/\n<=2
 hnm:n<=m
 rL:RB m n L 3 1
 okV:qt m m V
 sV:∀i,i<m->∀j,j<m->Q V i j=Q V j i
 pd:PD m (Q V)
 hp:pJ m V=some true
 eW:ep m V=some W
 WV:jV m m (La.mul m (Q W) (Q V)) one
 VW:jV m m (La.mul m (Q V) (Q W)) one
 rW:RB m m W 2250000 11250000
 yl:ys.length=m
 rY:RB m 1 (bA ys) 240 4
section
variable {m:Nat}{L V W:Rows}{ys:List R}
def mN.ok (h:mN m n L V ys W):eT L V ys:=by
 obtain⟨h1,h2⟩:=kW h.hm.1 (by have:=h.hm.2;omega) h.hn.1 (by have:=h.hn.2;omega) h.rL.1
 obtain⟨h3,h4⟩:=kW h.hm.1 (by have:=h.hm.2;omega) h.hm.1 (by have:=h.hm.2;omega) h.okV
 have hl:=h.yl
 refine⟨by rw[hl];exact h1,by rw[hl];exact h3,by rw[hl];exact h4,by rw[hl,h2];exact h.hnm,?_,by rw[hl];exact h.hp⟩
 rw[List.all_eq_true]
 intro q hq
 obtain⟨i,hi,rfl⟩:=List.getElem_of_mem hq
 have:=(h.rY.1 i J).2 0 zd
 have E:ar ys i=ys[i]:=eh hi
 rw[<-E];exact this
def mN.pdW (h:mN m n L V ys W):PD m (Q W):=h.pd.inv h.VW
def mN.sW (h:mN m n L V ys W):∀i,i<m->∀j,j<m->Q W i j=Q W j i:=P8 h.WV h.VW h.sV
def mN.fW (h:mN m n L V ys W):Ht m V=W:=by unfold Ht;rw[h.eW];rfl
structure Hz (m n:Nat)(L V:Rows)(ys:List R)(W:Rows):Prop where
 fxl:(sY m n L V ys).length=n
 fxX:∀i,i<n->bA (sY m n L V ys) i=PR m n L V ys i
 rX:RB n 1 (PR m n L V ys) 24186470400000000000000000000 151165440000000000000000000
 rl:(oC m n L V ys).length=m
 rR:RB m 1 (bA (oC m n L V ys)) 2358180864000000000000000000000 604661760000000000000000000
 rv:∀i,i<m->qv (ar (oC m n L V ys) i)=qv (ar ys i)-sm n (λk=>Q L i k*qv (ar (sY m n L V ys) k))
 xv:∀k,k<n->qv (ar (sY m n L V ys) k)=sm n (λl=>Q (xc m n L V) k l*sm m (λi=>Q (vU m n L V) l i*qv (ar ys i)))
 bv:jV n m (Q (vU m n L V)) (La.mul m (tr (Q L)) (Q W))
 ne:∀k,k<n->sm m (λi=>Q (vU m n L V) k i*qv (ar (oC m n L V ys) i))=0
 rC:RB n n (xc m n L V) 29160000000000000 3359232000000000000
 CG:jV n n (La.mul n (Q (xc m n L V)) (Q (HQ m n L V))) one
 GC:jV n n (La.mul n (Q (HQ m n L V)) (Q (xc m n L V))) one
 gv:jV n n (Q (HQ m n L V)) (La.mul m (Q (vU m n L V)) (Q L))
 okS:qt 1 1 (HR m n L V ys)
 sv:Q (HR m n L V ys) 0 0=qf m (Q W) (λi=>qv (ar (oC m n L V ys) i))
end
section
variable {m:Nat}{L V W:Rows}{ys:List R}
def MB {m:Nat}{L:Rows}(hm:1<=m/\m<=5)(hn:1<=n/\n<=5)(h:RB m n L N 1)(hN:1<=N)(hg:UZ 5 5 1 N N 1=true):∃r,kb m L=some r/\Rk m n r (Q L):=by
 obtain⟨ok,t,E,_,rL⟩:=h
 have e:t.natAbs=1:=J
 have hr:=rL.rep E
 rw[e]at hr
 exact Mm hm.1 J hn.1 J ok hr (Gr.of hg zd hN zd (.inl hm.2) hn.2)
def Qb (h:mN m n L V ys W):∃r,kb m L=some r/\r<=n/\Rk m n r (Q L)/\c6 n (λj=>kX L m j) m W=some (vU m n L V)/\c6 n (vU m n L V) m L=some (HQ m n L V)/\
 ((r<n/\ep n (HQ m n L V)=none)\/(r=n/\Do m n L V ys=true/\Hz m n L V ys W)):=by
 have H:1<=m/\m<=8:=⟨h.hm.1,by have:=h.hm.2;omega⟩
 have A0:1<=n/\n<=8:=⟨h.hn.1,by have:=h.hn.2;omega⟩
 have O:1<=1/\1<=8:=by decide
 obtain⟨r,Av,hr⟩:=MB h.hm ⟨h.hn.1,by have:=h.hn.2;omega⟩ h.rL zd Hx
 obtain⟨B,eB,rB,vB⟩:=RB.mul (N:=54000000) (D:=11250000) A0 H H h.rL.tr h.rW Hx Hx zd zd
 have fB:vU m n L V=B:=by unfold vU;rw[h.fW,eB];rfl
 obtain⟨G,eG,rG,vG⟩:=RB.mul (N:=1296000000) (D:=11250000) A0 H A0 rB h.rL Hx Hx zd zd
 have fG:HQ m n L V=G:=by unfold HQ;rw[fB,eG];rfl
 have bW:jV n m (Q B) (La.mul m (tr (Q L)) (Q W)):=λi hi j E=>by
  rw[vB i hi j E];exact au λk hk=>by rw[PZ (m:=n) i k hk]
 have gW:jV n n (La.mul m (La.mul m (tr (Q L)) (Q W)) (Q L)) (Q G):=λi hi j E=>by
  rw[vG i hi j E];exact au λk hk=>by rw[bW i hi k hk]
 refine⟨r,Av,hr.le_m,hr,by rw[fB];exact eB,by rw[fB,fG];exact eG,?_⟩
 obtain⟨rg,A1,hs⟩:=RB.inv2 h.hn rG zd zd Hx
 rcases hs with⟨h1,h2⟩|⟨h1,C,eC,okC,CG,GC⟩
 · left
   refine⟨?_,by rw[fG];exact h2⟩
   refine Nat.lt_of_le_of_ne hr.le_m λe=>?_
   subst e
   have pG:PD r (Q G):=(h.pdW.gramW hr).congr gW
   have:rg<=r:=A1.le_n
   have Aw:=A1
   obtain⟨v,⟨j,E,hv⟩,Ap⟩:=FU A1 h1
   have h3:=pG v ⟨j,E,hv⟩
   have h4:qf r (Q G) v=0:=dO λi hi=>by rw[Ap i hi];grind
   rw[h4]at h3;grind
 · right
   have Af:r=n:=by
    have h3:rg<=r:=hr.mul_r (FN A1 (λi hi j E=>by rw[vG i hi j E]))
    have:=hr.le_m
    omega
   have hrL:Rk m n n (Q L):=by rw[<-Af]at hr ⊢;exact hr
   have pG:PD n (Q G):=(h.pdW.gramW hrL).congr gW
   have Aq:det n (Q G)≠0:=λe=>by have:=pG.det_pos;rw[e]at this;grind
   have rC:RB n n C 29160000000000000 3359232000000000000:=RB.invR h.hn rG zd okC GC Aq zd zd
   have fC:xc m n L V=C:=by unfold xc;rw[fG,eC];rfl
   obtain⟨D,eD,rD,vD⟩:=RB.mul (N:=103680000000) (D:=45000000) A0 H O rB h.rY Hx Hx zd zd
   have fD:X7 m n L V ys=D:=by unfold X7;rw[fB,eD];rfl
   obtain⟨X,eX,rX,vX⟩:=RB.mul (N:=24186470400000000000000000000) (D:=151165440000000000000000000) A0 A0 O rC rD Hx Hx zd zd
   have fX:PR m n L V ys=X:=by unfold PR;rw[fC,fD,eX];rfl
   obtain⟨P,eP,rP,vP⟩:=RB.mul (N:=580475289600000000000000000000) (D:=151165440000000000000000000) H A0 O h.rL rX Hx Hx zd zd
   have fP:RD m n L V ys=P:=by unfold RD;rw[fX,eP];rfl
   obtain⟨key,rR⟩:=RB.sub (N:=2358180864000000000000000000000) (D:=604661760000000000000000000) h.rY rP Hx Hx zd zd
   have fR:oC m n L V ys=(List.range m).map (rU P ys):=by unfold oC;rw[fP]
   have rl:(oC m n L V ys).length=m:=by simp[oC]
   rw[<-fR]at rR
   obtain⟨As,_⟩:=kW H.1 H.2 O.1 O.2 rR.1
   obtain⟨Q9,eQ,rQ,vQ⟩:=RB.mul (N:=42447255552000000000000000000000000000) (D:=6802444800000000000000000000000000) O H H rR.tr h.rW Hx Hx zd zd
   have fQ:X8 m n L V ys=Q9:=by unfold X8;rw[h.fW,eQ];rfl
   obtain⟨S9,eS,rS,vS⟩:=RB.mul (N:=800786446176353255424000000000000000000000000000000000000000000000000) (D:=4113178245070848000000000000000000000000000000000000000000000) O H O rQ rR Hx Hx zd zd
   have fS:HR m n L V ys=S9:=by unfold HR;rw[fQ,eS];rfl
   have Ao:(sY m n L V ys).length=n:=by simp[sY]
   have A2:∀k,k<n->ar (sY m n L V ys) k=ar (X k) 0:=λk hk=>by rw[sY,gC hk,fX]
   refine⟨Af,?_,?_⟩
   · unfold Do
     rw[h.eW,h.fW,eB,fB,eG,fG,eC,eD,fC,fD,eX,fX,eP,fP,As,eQ,fQ,eS,fS]
     simp only[Option.isSome_some,Bool.true_and,Bool.and_true,Bool.and_eq_true,List.all_eq_true,List.mem_range,decide_eq_true_eq]
     refine⟨⟨λi hi=>⟨by rw[(rP.1 i hi).1];decide,(key i hi).1⟩,λi hi=>by rw[(rX.1 i hi).1];decide⟩,by rw[(rS.1 0 zd).1];decide⟩
   · have Am:∀i,i<m->qv (ar (oC m n L V ys) i)=qv (ar ys i)-sm n (λk=>Q L i k*qv (ar (sY m n L V ys) k)):=λi hi=>by
      rw[fR,gC hi,(key i hi).2.2,vP i hi 0 zd]
      congr 1
      exact au λk hk=>by rw[A2 k hk];rfl
     have Ab:∀k,k<n->qv (ar (sY m n L V ys) k)=sm n (λl=>Q C k l*sm m (λi=>Q B l i*qv (ar ys i))):=λk hk=>by
      rw[A2 k hk]
      show Q X k 0=_
      rw[vX k hk 0 zd]
      exact au λl hl=>by rw[vD l hl 0 zd];rfl
     refine⟨Ao,λi hi=>?_,by rw[fX];exact rX,rl,rR,Am,by rw[fC,fB];exact Ab,by rw[fB];exact bW,?_,by rw[fC];exact rC,by rw[fC,fG];exact CG,by rw[fC,fG];exact GC,by rw[fB,fG];exact vG,by rw[fS];exact rS.1,?_⟩
     · rw[fX]
       exact Bc (m:=1) Z (rX.1 i hi).1 λk hk=>by rw[show k=0 by omega];exact A2 i hi
     · rw[fB]
       exact normal (C:=Q C) (L:=Q L) (y:=λi=>qv (ar ys i)) (x:=λk=>qv (ar (sY m n L V ys) k)) (λi hi j E=>by rw[<-GC i hi j E];exact au λk hk=>by rw[vG i hi k hk]) Ab Am
     · rw[fS,vS 0 zd 0 zd]
       have Ar:∀j,j<m->Q Q9 0 j=sm m (λi=>qv (ar (oC m n L V ys) i)*Q W i j):=λj E=>by
        rw[vQ 0 zd j E]
        exact au λi hi=>by rw[PZ (m:=1) 0 i hi];rfl
       show sm m (λj=>Q Q9 0 j*Q (bA (oC m n L V ys)) j 0)=_
       rw[au (n:=m) (g:=λj=>sm m (λi=>qv (ar (oC m n L V ys) i)*(Q W i j*qv (ar (oC m n L V ys) j)))) λj E=>by
        rw[Ar j E]
        show _*qv (ar (oC m n L V ys) j)=_
        rw[<-nd];exact au λi _=>by grind]
       rw[iO]
       exact au λi _=>by rw[dm]
end
def lL {a b:Int}(ha:-1000<=a/\a<=1000)(hb:1<=b/\b<=1000):bJ (br a b)=true/\qv (br a b)=(a:Rat)/(b:Rat):=by
 have H:=iG ha
 have G:=iG (a:=b) J
 have E:b≠0:=J
 have e:=RE H G E
 refine⟨UH ha J E,?_⟩
 have e2:br a b=qR a b:=FH ha J E
 rw[e2]
 exact uS E (sR E)
def U7:∀n:Fin 6,∀i:Fin 6,i.val<n.val->Be n.val*pN (λc=>if c=i.val then 1 else 5) n.val<=75000:=by decide +kernel
def U8:∀n:Fin 6,Be n.val*5^n.val<=375000:=by decide +kernel
def Qc {m:Nat}{V:Rows}(hm:1<=m/\m<=5)(rV:RB m m V 5 1)(sV:∀i,i<m->∀j,j<m->Q V i j=Q V j i)(pd:PD m (Q V)):
 pJ m V=some true/\∃W,ep m V=some W/\jV m m (La.mul m (Q W) (Q V)) one/\jV m m (La.mul m (Q V) (Q W)) one/\RB m m W 75000 375000:=by
 obtain⟨ok,t,E,tD,H⟩:=rV
 have ht:t.natAbs=1:=J
 obtain⟨hv,hl⟩:=kW hm.1 J hm.1 J ok
 have A0:MZ m V:=λi hi k _=>yw ((ok i hi).2 k J) ((ok k J).2 i hi) (sV i hi k J)
 constructor
 · unfold pJ
   rw[if_pos (Da hv hl.symm),if_pos A0]
   exact Bm (n:=m) m 0 (Nat.zero_add m) λj _ G=>by
    obtain⟨d,h1,h2,h3⟩:=Yc (R:=5) (D:=1) J G J ok H E tD zd zd Hx Hx
    exact⟨d,h1,h2,by rw[h3];exact(pd.lead J).det_pos⟩
 · obtain⟨k3,hU⟩:=H
   obtain⟨r,hr,hs⟩:=FT (N1:=5) (N2:=1) (D:=1) hm.1 J ok k3 (λ_=>t) (λ_ _=>⟨E,tD,tD⟩) hU (Gr.of (by decide +kernel:UZ 5 10 1 5 1 1=true) zd zd zd (.inl hm.2) J)
   rcases hs with⟨h1,_⟩|⟨_,W,eW,okW,WV,VW⟩
   · obtain⟨v,⟨j,G,hv⟩,O⟩:=FU hr h1
     have h3:=pd v ⟨j,G,hv⟩
     have h4:qf m (Q V) v=0:=dO λi hi=>by rw[O i hi];grind
     rw[h4]at h3;grind
   · have hd:det m (Q V)≠0:=λe=>by have:=pd.det_pos;rw[e]at this;grind
     obtain⟨z,z0,z1,rW⟩:=Bn (N1:=75000) E ⟨k3,hU⟩ VW hd (λi hi=>by rw[ht];exact U7 ⟨m,by omega⟩ ⟨i,by omega⟩ hi)
     exact⟨W,eW,WV,VW,okW,z,z0,qa8 z1 (U8 ⟨m,by omega⟩),rW⟩
def RB.int {m:Nat}{L:Rows}(hl:∀i,i<n->(L i).length=m)(z:Nat->Nat->Int)(h:∀i,i<n->∀j,j<m->(-1000<=z i j/\z i j<=1000)/\(z i j).natAbs<=N/\ar (L i) j=br (z i j) 1):RB n m L N 1:=by
 refine⟨λi hi=>⟨hl i hi,λk hk=>?_⟩,1,by decide,by decide,z,λi hi j E=>⟨?_,(h i hi j E).2.1⟩⟩
 · rw[(h i hi k hk).2.2];exact(lL (h i hi k hk).1 zd).1
 · unfold Q;rw[(h i hi j E).2.2];exact(lL (h i hi j E).1 zd).2
def MC:z0=br 0 1:=by decide +kernel
def r6 (xs:List Int)(i k:Nat):Int:=if i=k then 2+aV (kv xs (5*i+1)) 4 else if i+k=1 then aV (kv xs 2) 3-1 else 0
def Va :A8 xs i k=br (r6 xs i k) 1:=by
 unfold A8 r6;split
 · rfl
 · split
   · rfl
   · exact MC
def FV {xs:List Int}{i k:Nat}:(-1<=r6 xs i k/\r6 xs i k<=5):=by
 unfold r6
 have h1:=du (kv xs (5*i+1)) 4 zd
 have h2:=du (kv xs 2) 3 zd
 split
 · omega
 · split <;>omega
def FW {m:Nat}(hk:k<m):ar (g8 xs m i) k=br (r6 xs i k) 1:=by rw[g8,gC hk,Va]
def FX {m:Nat}:RB m m (g8 xs m) 5 1:=RB.int (λi _=>by simp[g8]) (r6 xs) λi _ j E=>by
 have:=@FV xs i j
 exact⟨by omega,by omega,FW E⟩
def Dt {m:Nat}(hk:k<m):Q (g8 xs m) i k=(r6 xs i k:Rat):=by
 have h:=@FV xs i k
 show qv (ar (g8 xs m i) k)=_
 rw[FW hk,(lL J zd).2];simp;grind
def MD :r6 xs i k=r6 xs k i:=by
 unfold r6
 by_cases e:i=k
 · subst e;rfl
 · rw[if_neg e,if_neg (show¬k=i from λh=>e h.symm),Nat.add_comm i k]
def Bo {m:Nat}:∀i,i<m->∀j,j<m->Q (g8 xs m) i j=Q (g8 xs m) j i:=λi hi j E=>by rw[Dt E,Dt hi,MD]
def ME {m:Nat}:RB m n (fm xs n) 3 1:=RB.int (λi _=>by simp[fm]) (λi k=>aV (kv xs (7*i+k)) 7-3) λi _ j E=>by
 have:=du (kv xs (7*i+j)) 7 zd
 exact⟨by omega,by omega,by rw[fm,gC E];rfl⟩
def Yd {m:Nat}:RB m 1 (bA (yA xs m)) 20 2:=by
 have hb:∀i,-20<=aV (kv xs (3*i+2)) 41-20/\aV (kv xs (3*i+2)) 41-20<=20:=λi=>by have:=du (kv xs (3*i+2)) 41 zd;omega
 refine⟨λi hi=>⟨rfl,λk _=>?_⟩,2,by decide,by decide,λi _=>aV (kv xs (3*i+2)) 41-20,λi hi j _=>⟨?_,?_⟩⟩
 · rw[show k=0 by omega]
   show bJ (ar (yA xs m) i)=true
   rw[yA,gC hi];exact(lL (by have:=hb i;omega) zd).1
 · rw[show j=0 by omega]
   show qv (ar (yA xs m) i)=_
   rw[yA,gC hi];exact(lL (by have:=hb i;omega) zd).2
 · have:=hb i;show(aV (kv xs (3*i+2)) 41-20).natAbs<=20;omega
def Vb {m:Nat}(hm:m<=5){d:Nat->Rat}{c:Rat}{A:Mx}(hd:∀i,2<=d i)(hc:c=-1\/c=0\/c=1)(h:∀i,i<m->∀j,j<m->A i j=if i=j then d i else if i+j=1 then c else 0):PD m A:=by
 intro v hv
 have hq:qf m A v=qf m (λi j=>if i=j then d i else if i+j=1 then c else 0) v:=Bl h
 have key:sm m (λi=>v i*v i)<=qf m A v:=by
  rw[hq]
  have g:∀i,0<=(d i-2)*(v i*v i):=λi=>Rat.mul_nonneg (by have:=hd i;grind) (nH _)
  have Ao:=g 0
  have Ap:=g 1
  have Af:=g 2
  have Am:=g 3
  have A2:=g 4
  have H:=nH (v 0)
  have A1:=nH (v 1)
  have Ab:=nH (v 2)
  have O:=nH (v 3)
  have A0:=nH (v 4)
  have p:=nH (v 0+v 1)
  have q:=nH (v 0-v 1)
  have hm':m=0\/m=1\/m=2\/m=3\/m=4\/m=5:=J
  rcases hm' with rfl|rfl|rfl|rfl|rfl|rfl <;>simp[qf,sm] <;>rcases hc with rfl|rfl|rfl <;>grind
 obtain⟨j,E,G⟩:=hv
 have:=Mw (f:=λi=>v i*v i) (λ_ _=>nH _) E (Mz G)
 grind
def FY {m:Nat}(hm:m<=5):PD m (Q (g8 xs m)):=by
 refine Vb hm (d:=λi=>((2+aV (kv xs (5*i+1)) 4:Int):Rat)) (c:=((aV (kv xs 2) 3-1:Int):Rat)) (λi=>?_) ?_ λi _ j E=>?_
 · have h1:=du (kv xs (5*i+1)) 4 zd
   have:((2:Int):Rat)<=((2+aV (kv xs (5*i+1)) 4:Int):Rat):=Rat.intCast_le_intCast.2 J
   simpa using this
 · have h2:=du (kv xs 2) 3 zd
   have:aV (kv xs 2) 3=0\/aV (kv xs 2) 3=1\/aV (kv xs 2) 3=2:=J
   rcases this with e|e|e <;>rw[e]
   · left;decide
   · right;left;decide
   · right;right;decide
 · rw[Dt E]
   unfold r6
   split
   · rfl
   · split <;>rfl
def MF {m:Nat}(hm:2<=m/\m<=5)(hn:1<=n/\n<=2):∃W,mN m n (fm xs n) (g8 xs m) (yA xs m) W/\RB m m W 75000 375000:=by
 obtain⟨E,W,eW,WV,VW,rW⟩:=Qc (by omega:1<=m/\m<=5) FX (Bo (xs:=xs)) (FY hm.2)
 exact⟨W,⟨by omega,hn,by omega,ME,FX.1,Bo,FY hm.2,E,eW,WV,VW,rW.mono zd zd,Mc,Yd.mono zd zd⟩,rW⟩
end
section
attribute [local irreducible] wpListIn Code.wpIn Oper.wpIn Exit.then Exit.inBlock Exit.noGoto
set_option maxHeartbeats 40000000
set_option maxRecDepth 100000 in
def Ye {B X:Option Addr}{G:Nat->Value}{V:Rows}{rs:List R}{w:World}(hV:Mt w lo B rs.length G V)(hx:Rw w lo2 X (ag rs))(h:YC V rs)(ht:Tb w):
 CL 25 #[.slice B rs.length CB,.slice X rs.length CX] w (aG w λv w'=>v=.tuple #[.agg #[S (ar (vE V rs 0) 0).1,S (ar (vE V rs 0) 0).2],.bool true]):=by
 have K2:=(gZ h.rv).1;have E0:=(gZ h.rv).2.1;have Ap:=h.sl;have E6:decide ((((vE V rs 0).length:Nat):Int)=1)=true:=by rw[Ap];rfl
 refine aC func25 Z (I ?_);refine al aS (λ_ Aq H=>?_);have E:=Aq.2;refine I ?_;refine cl M7 (pQ (o':=some (Ht rs.length V)) (sJ (hV.ext E) (dM h.vv) (ht.ext E)) h.eW) ?_;rintro _ _ od ⟨E7,rfl,K3,EW,E9,rfl,KC,Am⟩;have⟨H,E⟩:=bn od.2 H E;have O:=ab2 Am;refine I ?_;refine clb xr (hc:=kf (b:=rs) (hx.ext E) (by first|decide|omega)) (hk:=?_);rintro _ _ ny Ax;have H:=be ny.2 H;have O:=aa1 ny.2 O;have E:=xt E ny.2;obtain⟨_,_,_,rfl,_,wr⟩:=Ax;have Ar:=ab2 wr;refine clb M8 (hc:=O9 (m:=1) (E8 (Ar).mt (dM h.rv) (ht.ext E)) (by rw[if_pos h.rv];exact Z)) (hk:=?_);rintro _ _ Ab ⟨FR,H2,H4,rfl,E5,Ao⟩;have H:=be Ab.2 H;have O:=aa1 Ab.2 O;have E:=xt E Ab.2;have C1:=ab2 Ao;refine I ?_;refine cl H8 (pQ (o':=some (Vu V rs)) (pL (C1).mt (uW h.rv Z) (O).mt (kU h.eW) (ht.ext E)) h.eQ) ?_;rintro _ _ nm ⟨KM,rfl,GC,E1,Ix,rfl,H3,Cr⟩;have⟨H,E⟩:=bn nm.2 H E;have A2:=ab2 Cr;refine I ?_;refine clb xr (hc:=kf (b:=rs) (hx.ext E) (by first|decide|omega)) (hk:=?_);rintro _ _ A0 Az;have H:=be A0.2 H;have A2:=aa1 A0.2 A2;have E:=xt E A0.2;obtain⟨_,_,_,rfl,_,B2⟩:=Az;have Af:=ab2 B2;refine cl H8 (pQ (o':=some (vE V rs)) (pL (A2).mt (eR h.eQ) (Af).mt (dM h.rv) (ht.ext E)) h.eS) ?_
 rintro _ _ B1 ⟨E4,rfl,G0,KY,ES,rfl,Kp,CG⟩;have⟨H,E⟩:=bn B1.2 H E;have A1:=ab2 CG;have Ay:=ab1 (A1).mt (i:=0) U;refine I ?_;refine gN Ay ?_ (i:=0);have Aw:=ab1 (A1).mt (i:=0) U;refine I ?_;refine gN Aw ?_ (i:=0);have As:=ad3 (A1).mt (i:=0) (k:=0) U (show 0<(vE V rs 0).length by omega);refine I ?_;refine mu As ?_ (i:=0) (hlt:=(show 0<(vE V rs 0).length by omega));refine I ?_;refine SA H (λ_ Av CY=>?_);have E:=bi Av E;refine I ?_;refine aX (v:=.tuple #[.agg #[S ((ar ((vE V rs) 0) 0).1),S ((ar ((vE V rs) 0) 0).2)],.bool true]) (cO (r1:=.cell 4 33) (r2:=.tmp 5) Z ?_ ?_) E Z;refine ak (t:=4) (cs:=[S ((ar ((vE V rs) 0) 0).1),S ((ar ((vE V rs) 0) 0).2)]) (b:=w.heap.size) (o:=0) iK Z bX ?_ ?_;exact Z;exact aa0 CY (i:=0) Z;exact aL (t:=5) GS _
end
end Go.Proofs.YtlmihmlnpjkblaaGreatDoor
