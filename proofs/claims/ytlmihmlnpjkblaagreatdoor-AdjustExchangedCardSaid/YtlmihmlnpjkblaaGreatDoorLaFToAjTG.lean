/- Part of the proof of a statement about an adjustment. -/
import Derived.Test.YtlmihmlnpjkblaaGreatDoorAj19ToLaEG
set_option linter.all false
namespace Go.Proofs.YtlmihmlnpjkblaaGreatDoor
open Go Go.Eng Go.RowKit La Proofs.Tryz
variable {u t:Int}{n cols V c N:Nat}
def M8 (k:Nat):Rat:=if k%2=0 then 1 else -1
def Mp (k:Nat):M8 (k+1)= -M8 k:=by
 unfold M8
 rcases Nat.mod_two_eq_zero_or_one k with h|h
 · rw[if_neg J,if_pos h]
 · rw[if_pos J,if_neg J];grind
def DI:List R->Rat
 |[]=>1
 |a::l=>qv a*DI l
def Mq (l:List R)(q:R):DI (l++[q])=DI l*qv q:=by
 induction l with
 |nil=>simp[DI]
 |cons a l ih=>simp only[List.cons_append,DI,ih];grind
structure Gr (n m cols V:Nat)(a b S:Nat->Nat):Prop where
 v0:1<=V
 a0:1<=a 0
 s0:1<=S 0
 ga:∀r,r<n->r<cols->2*(a r*a r)<=a (r+1)
 gb:∀r,r<n->r<cols->2*(a r*b r)<=b (r+1)
 gs:∀r,r<n->r<cols->S r*a r<=S (r+1)
 c1:∀r,r<n->r<cols->2*(a r*S r)<dZ/\S r*S r<dZ
 c2:∀r,r<n->r<cols->r+1<m->2*(a r*((a r+b r)*(S r*V)))<dZ/\S r*V*(S r*V*a r)<dZ
structure X9 (r m V:Nat)(a b S:Nat->Nat):Prop where
 v0:1<=V
 ga:2*(a r*a r)<=a (r+1)
 gb:2*(a r*b r)<=b (r+1)
 gs:S r*a r<=S (r+1)
 c1:2*(a r*S r)<dZ/\S r*S r<dZ
 c2:r+1<m->2*(a r*((a r+b r)*(S r*V)))<dZ/\S r*V*(S r*V*a r)<dZ
def Gr.at {m r:Nat}{a b S:Nat->Nat}(h:Gr n m cols V a b S)(h1:r<n)(h2:r<cols):X9 r m V a b S:=⟨h.v0,h.ga r h1 h2,h.gb r h1 h2,h.gs r h1 h2,h.c1 r h1 h2,h.c2 r h1 h2⟩
structure EI (n m cols c:Nat)(w:Nat->Int)(A:Mx)(a b S:Nat->Nat)(s:El):Prop where
 ok:gk n m s.L
 rc:s.piv.length<=c
 len:s.cols.length=s.piv.length
 ro:RO n m A (Q s.L) (M8 s.sw*DI s.piv)
 rf:RF n c s.piv.length (λl=>s.cols.getD l 0) (Q s.L)
 a1:1<=a s.piv.length
 s1:1<=S s.piv.length
 bnd:∃(k3:Nat->Nat->Int) (t:Nat->Int) (T:Int),(T≠0/\T.natAbs<=S s.piv.length/\∀l,l<s.piv.length->t l∣T)/\∀i,i<n->t i≠0/\(t i).natAbs<=S s.piv.length/\∀j,j<m->Q s.L i j=(k3 i j:Rat)/((t i*w j:Int):Rat)/\(k3 i j).natAbs<=(if j<cols then a s.piv.length else b s.piv.length)
 pv:∀l,l<s.piv.length->Bq (s.piv.getD l z0) (qv (s.piv.getD l z0)) (a l) (S l)
def yS (ht:t≠0)(h:(u:Rat)/(t:Rat)=0):u=0:=by
 have h1:=dU ht
 refine mL ?_
 rw[Rat.intCast_zero]
 grind
def HH {x y z t u w:Rat}(ht:t≠0)(hu:u≠0)(hw:w≠0):x/(t*w)-y/t*(z/(u*w))=(u*x-y*z)/(t*u*w):=by grind
def Wt (m cols V:Nat)(w:Nat->Int):Prop:=∀j,j<m->w j≠0/\(w j).natAbs<=V/\(j<cols->w j=1)
set_option maxHeartbeats 8000000 in
def EI.colS {m:Nat}{w:Nat->Int}{A:Mx}{a b S:Nat->Nat}{s:El}(h:EI n m cols c w A a b S s)(hg:s.piv.length<n->s.piv.length<cols->X9 s.piv.length m V a b S)(hwt:Wt m cols V w)(hc:c<cols)(hm:cols<=m):∃s',pu n m c s=some s'/\EI n m cols (c+1) w A a b S s'/\
 (s.piv.length<n->Q s.L s.piv.length c≠0->s'.piv.length=s.piv.length+1/\∀j,j<m->Q s'.L s.piv.length j=Q s.L s.piv.length j/Q s.L s.piv.length c/\∀i,i<n->i≠s.piv.length->Q s'.L i j=Q s.L i j-Q s.L i c*Q s'.L s.piv.length j):=by
 obtain⟨L,piv,cs,Am⟩:=s
 have Aw:=h.ok;have Ne:=h.rc;have Ax:=h.len;have Av:=h.ro;have H:=h.rf;have A1:=h.a1;have A2:=h.s1;have E0:=h.pv
 dsimp only at Aw Ne Ax Av H A1 A2 E0 hg ⊢
 obtain⟨k3,t,T,hT,hU⟩:=h.bnd
 dsimp only at hU hT
 have C0:=xe c L (n-piv.length) piv.length
 have VW:=sJ c L (n-piv.length) piv.length
 have Lj:=H.rn
 unfold pu
 dsimp only
 generalize hP:iF c L (n-piv.length) piv.length=p at *
 by_cases hpn:p=n
 · rw[if_pos hpn]
   refine⟨_,rfl,?_,λh1 h2=>absurd (show qv (ap (L piv.length) c)=0 by rw[C0.1 _ (Nat.le_refl _) J,mM]) h2⟩
   refine⟨Aw,by dsimp only;omega,Ax,Av,⟨Lj,H.inc,λx hx=>Nat.lt_succ_of_lt (H.lt x hx),H.unit,λi h1 h2 j E=>?_⟩,A1,A2,⟨k3,t,T,hT,hU⟩,E0⟩
   by_cases e:j=c
   · subst e
     show qv (ap (L i) j)=0
     rw[C0.1 i h1 J,mM]
   · exact H.zero i h1 h2 j J
 · rw [if_neg hpn]
   have Ab:p<n:=J
   have hr:piv.length<n:=J
   have K3:¬ap (L p) c=z0:=C0.2 J
   have hrcols:piv.length<cols:=J
   obtain⟨D2,L4,No,CB,⟨S9,H3⟩,P2⟩:=hg hr hrcols
   clear hg
   generalize hR:piv.length=r at *
   have KM:a r<dZ:=Nat.lt_of_le_of_lt (Nat.le_mul_of_pos_right _ A2) (by omega:a r*S r<dZ)
   have E7:gk n m (nG p r L):=Aw.sw Ab hr
   let U1:Nat->Nat->Int:=λi j=>k3 (r5 p r i) j
   let t1:Nat->Int:=λi=>t (r5 p r i)
   have hU1:∀i,i<n->t1 i≠0/\(t1 i).natAbs<=S r/\∀j,j<m->Q (nG p r L) i j=(U1 i j:Rat)/((t1 i*w j:Int):Rat)/\(U1 i j).natAbs<=(if j<cols then a r else b r):=λi hi=>hU _ (ux Ab hr hi)
   have Ap:∀i,r<=i->i<n->∀j,j<c->Q (nG p r L) i j=0:=λi h1 h2 j E=>H.zero _ (by unfold r5;split <;>(try split) <;>omega) (ux Ab hr h2) j E
   have Rm:ap (nG p r L r) c=ap (L p) c:=by rw[sK Z]
   have hok_pv:bN (ap (L p) c)=true:=(Aw p Ab).2 c J
   have Ay:qv (ap (L p) c)≠0:=λe=>K3 ((Pj hok_pv).1 e)
   have Af:w c=1:=(hwt c J).2.2 hc
   have hyU:qv (ap (L p) c)=(U1 r c:Rat)/(t1 r:Rat):=by have:=((hU1 r hr).2.2 c J).1;unfold Q at this;rw[Rm,Af,Int.mul_one]at this;exact this
   have GC:∀i,i<n->∀j,j<m->t1 i*w j≠0:=λi hi j E e=>by
    rcases Int.mul_eq_zero.1 e with e|e
    · exact(hU1 i hi).1 e
    · exact(hwt j E).1 e
   have hUc0:U1 r c≠0:=λe=>Ay (by rw[hyU,e];simp;grind)
   have hUcb:(U1 r c).natAbs<=a r:=by have:=((hU1 r hr).2.2 c J).2;rwa [if_pos hc]at this
   have Ix:=(hU1 r hr).1
   have V0:=dU Ix
   have Q0:=dU hUc0
   have E6:Bq (ap (L p) c) (qv (ap (L p) c)) (a r) (S r):=by
    have:=Bq.of hok_pv Ix hyU hUcb (hU1 r hr).2.1
    exact⟨this.ok,rfl,this.num,this.den⟩
   have FR:∀j,j<m->(U1 r j).natAbs<=a r+b r:=λj E=>by have:=((hU1 r hr).2.2 j E).2;split at this <;>omega
   have bx:∀i,i<n->∀j,j<m->Bq (ap (nG p r L i) j) (Q (nG p r L) i j) (if j=c then a r else a r+b r) (if j=c then S r else S r*V):=by
    intro i hi j E
    obtain⟨h1,h2,h3⟩:=hU1 i hi
    obtain⟨h4,O⟩:=h3 j E
    have:=Bq.of (a:=ap (nG p r L i) j) (N:=if j=c then a r else a r+b r) (D:=if j=c then S r else S r*V) ((E7 i hi).2 j E) (GC i hi j E) h4 (by
     split
     · rename_i e;subst e;rwa [if_pos hc]at O
     · split at O <;>omega) (by
     rw[Int.natAbs_mul]
     split
     · rename_i e;rw[e,Af];simpa using h2
     · exact qb9 h2 (hwt j E).2.1)
    rw[<-h4]at this;exact this
   have c2':∀j,c<j->j<m->2*(a r*((a r+b r)*(S r*V)))<dZ/\S r*V*(S r*V*a r)<dZ:=λj h1 h2=>P2 J
   obtain⟨L2,e2,ES,o1,H2,E1⟩:=FU (m:=m) hr (ap (L p) c) (qv (ap (L p) c)) (m-c) c (nG p r L) J E7 (λj h1 h2=>by
    by_cases e:j=c
    · have hb:=bx r hr j h2
      rw[if_pos e,if_pos e]at hb
      exact AW hb E6 Ay J (by rw[Nat.mul_comm];omega)
    · obtain⟨q1,As⟩:=c2' j J h2
      have hb:=bx r hr j h2
      rw[if_neg e,if_neg e]at hb
      refine AW hb E6 Ay (Nat.lt_of_le_of_lt ?_ q1) (Nat.lt_of_le_of_lt (Nat.le_mul_of_pos_left _ (Nat.mul_pos A2 D2)) As)
      calc (a r+b r)*S r<=(a r+b r)*(S r*V):=Nat.mul_le_mul_left _ (Nat.le_mul_of_pos_right _ D2)
       _<=a r*((a r+b r)*(S r*V)):=Nat.le_mul_of_pos_left _ A1
       _<=2*(a r*((a r+b r)*(S r*V))):=by omega)
   rw[e2]
   have H4:∀j,j<m->U1 r c*w j≠0:=λj E e=>by
    rcases Int.mul_eq_zero.1 e with e|e
    · exact hUc0 e
    · exact(hwt j E).1 e
   have hQ2r:∀j,j<m->Q L2 r j=(U1 r j:Rat)/((U1 r c*w j:Int):Rat):=by
    intro j E
    have E5:=dU (hwt j E).1
    have h3:=((hU1 r hr).2.2 j E).1
    by_cases e:j<c
    · have h4:=Ap r (qa0 _) hr j e
      have O:U1 r j=0:=yS (GC r hr j E) (by rw[<-h3];exact h4)
      show qv (ap (L2 r) j)=_
      rw[H2 j e,O]
      show Q (nG p r L) r j=_
      rw[h4];simp;grind
    · show qv (ap (L2 r) j)=_
      rw[E1 j J E]
      show Q (nG p r L) r j/_=_
      rw[h3,hyU,Rat.intCast_mul,Rat.intCast_mul];grind
   have hQ2i:∀i,i≠r->L2 i=nG p r L i:=o1
   have Aq:Q L2 r c=1:=by rw[hQ2r c J,Af,Int.mul_one];grind
   have P0:∀j,c<=j->j<m->Bq (ap (L2 r) j) (Q L2 r j) (if j=c then 1 else a r+b r) (if j=c then 1 else a r*V):=by
    intro j h1 h2
    have hk:=(ES r hr).2 j h2
    by_cases e:j=c
    · subst e
      rw[if_pos Z,if_pos Z]
      have:=Bq.of (u:=1) (s:=1) (N:=1) (D:=1) hk Vc (by show Q L2 r j=_;rw[Aq];simp;grind) Vc Vc
      exact⟨this.ok,rfl,this.num,this.den⟩
    · rw[if_neg e,if_neg e]
      have:=Bq.of (D:=a r*V) hk (H4 j h2) (hQ2r j h2) (FR j h2) (by rw[Int.natAbs_mul];exact qb9 hUcb (hwt j h2).2.1)
      exact⟨this.ok,rfl,this.num,this.den⟩
   obtain ⟨L3,N0,Kp,L1,_,p3⟩:=yR (r:=r) (c:=c) (m:=m) J n 0 L2 J ES (λi _ hi G j h1 h2=>by
    rw[hQ2i i G]
    have hb:=bx i hi c J
    rw[if_pos Z,if_pos Z]at hb
    have hx:=bx i hi j h2
    have ht:=P0 j h1 h2
    obtain⟨Ao,B2,W⟩:=hU1 i hi
    by_cases e:j=c
    · rw[if_pos e,if_pos e]at hx ht
      obtain⟨q,f1,f2,Ar⟩:=p0 hb ht (by rw[Nat.mul_one];exact KM) (by rw[Nat.mul_one];exact Nat.lt_of_le_of_lt (Nat.le_mul_of_pos_left _ A2) H3)
      refine⟨q,f1,?_⟩
      have hq:qv q=(U1 i c:Rat)/(t1 i:Rat):=by rw[Ar,(W c J).1,Af,Int.mul_one,show Q L2 r j=1 by rw[e];exact Aq];grind
      have CG:=Bq.of (N:=a r) (D:=S r) f2 Ao hq (by have:=(W c J).2;rwa [if_pos hc]at this) B2
      obtain⟨d,CY,d2,Cr⟩:=uX hx CG J H3
      exact⟨d,CY,d2,by rw[Cr,<-hq,Ar];rfl⟩
    · obtain⟨q1,As⟩:=c2' j J h2
      rw[if_neg e,if_neg e]at hx ht
      have E5:=dU (hwt j h2).1
      have EW:a r*(a r+b r)*(S r*V)=a r*((a r+b r)*(S r*V)):=Nat.mul_assoc _ _ _
      have P1:(a r+b r)*(S r*V*a r)=a r*((a r+b r)*(S r*V)):=by rw[<-Nat.mul_assoc,Nat.mul_comm _ (a r)]
      have K2:S r*(a r*V)=S r*V*a r:=by rw[Nat.mul_assoc,Nat.mul_comm V]
      have G0:1<=S r*V:=Nat.mul_pos A2 D2
      obtain⟨q,f1,f2,Ar⟩:=p0 hb ht (by
       refine Nat.lt_of_le_of_lt (Nat.le_mul_of_pos_right _ G0) ?_
       rw[EW];omega) (by rw[K2];exact Nat.lt_of_le_of_lt (Nat.le_mul_of_pos_left _ G0) As)
      refine⟨q,f1,?_⟩
      have E9:=dU Ao
      have hq:qv q=((U1 i c*U1 r j:Int):Rat)/((t1 i*(U1 r c*w j):Int):Rat):=by
       rw[Ar,(W c J).1,Af,Int.mul_one,hQ2r j h2,Rat.intCast_mul,Rat.intCast_mul,Rat.intCast_mul];grind
      have CG:=Bq.of (N:=a r*(a r+b r)) (D:=S r*V*a r) f2 (λe=>by
       rcases Int.mul_eq_zero.1 e with e|e
       · exact Ao e
       · exact H4 j h2 e) hq
       (by rw[Int.natAbs_mul];exact qb9 (by have:=(W c J).2;rwa [if_pos hc]at this) (FR j h2))
       (by rw[Int.natAbs_mul,Int.natAbs_mul,<-K2];exact qb9 B2 (qb9 hUcb (hwt j h2).2.1))
      obtain⟨d,CY,d2,Cr⟩:=uX hx CG (by rw[EW,P1];omega) As
      exact⟨d,CY,d2,by rw[Cr,<-hq,Ar];rfl⟩)
   dsimp only
   rw[N0]
   have hQ2:∀i,i≠r->∀j,Q L2 i j=Q (nG p r L) i j:=λi hi j=>by unfold Q;rw[hQ2i i hi]
   have hQ3r:∀j,Q L3 r j=Q L2 r j:=λj=>by unfold Q;rw[L1]
   have Az:∀j,j<c->Q L2 r j=0:=λj E=>by
    have:=Ap r (qa0 _) hr j E
    unfold Q at this ⊢
    rw[H2 j E];exact this
   have hQ3l:∀i,i<n->i≠r->∀j,j<c->Q L3 i j=Q (nG p r L) i j:=λi hi G j E=>by
    rw[<-hQ2 i G];unfold Q;rw[(p3 i (Nat.zero_le _) hi G).1 j E]
   have hQ3g:∀i,i<n->i≠r->∀j,c<=j->j<m->Q L3 i j=Q (nG p r L) i j-Q (nG p r L) i c*Q L2 r j:=λi hi G j h1 h2=>by
    rw[<-hQ2 i G,<-hQ2 i G];exact(p3 i (qa7 _) hi G).2 j h1 h2
   have hQ3:∀i,i<n->i≠r->∀j,j<m->Q L3 i j=Q (nG p r L) i j-Q (nG p r L) i c*Q L2 r j:=λi hi G j E=>by
    by_cases e:j<c
    · rw[hQ3l i hi G j e,Az j e];grind
    · exact hQ3g i hi G j J E
   have B0:∀l,l<r->(cs++[c]).getD l 0=cs.getD l 0:=λl hl=>by
    rw[List.getD,List.getD,List.getElem?_append_left J]
   have D1:(cs++[c]).getD r 0=c:=by
    rw[List.getD,List.getElem?_append_right J,Ax,Nat.sub_self];rfl
   have KC:∀l,l<r->(piv++[ap (L p) c]).getD l z0=piv.getD l z0:=λl hl=>by
    rw[List.getD,List.getD,List.getElem?_append_left J]
   have KY:(piv++[ap (L p) c]).getD r z0=ap (L p) c:=by
    rw[List.getD,List.getElem?_append_right J,hR,Nat.sub_self];rfl
   have A0:(piv++[ap (L p) c]).length=r+1:=by simp[hR]
   have Vm:1<=a r*a r:=Nat.mul_pos A1 A1
   have S0:1<=S r*a r:=Nat.mul_pos A2 A1
   refine⟨_,rfl,?_,λ_ G=>?_⟩
   rotate_left
   · have hpr':p=r:=by
      refine qb6 λe=>G ?_
      show qv (ap (L r) c)=0
      rw[C0.1 r (Nat.le_refl _) J,mM]
     refine⟨A0,λj E=>?_⟩
     have La:∀i,nG p r L i=L i:=λi=>by rw[hpr',pw]
     have hq:∀i k,Q (nG p r L) i k=Q L i k:=λi k=>by unfold Q;rw[La]
     refine⟨?_,λi hi G=>by show Q L3 i j=Q L i j-Q L i c*Q L3 r j;rw[hQ3 i hi G j E,hQ3r,hq,hq]⟩
     show Q L3 r j=Q L r j/Q L r c
     rw[hQ3r]
     by_cases e:j<c
     · rw[Az j e,<-hq,Ap r (Nat.le_refl _) hr j e];grind
     · show qv (ap (L2 r) j)=_
       rw[E1 j J E,hpr',pw];rfl
   refine⟨Kp,by dsimp only;omega,by dsimp only;simp[Ax,hR],?_,⟨by dsimp only;omega,?_,?_,?_,?_⟩,by dsimp only;rw[A0];omega,by dsimp only;rw[A0];omega,?_,?_⟩
   ·
    dsimp only
    have h1:RO n m A (Q (nG p r L)) (M8 (if p=r then Am else Am+1)*DI piv):=by
     by_cases e:p=r
     · rw[if_pos e,e,pw];exact Av
     · rw[if_neg e,Mp]
       have:=Av.swap Ab hr e
       rw[show-M8 Am*DI piv=-(M8 Am*DI piv)by grind]
       exact this.eq λ_ _ _ _=>rfl
    have h2:RO n m A (Q L2) (M8 (if p=r then Am else Am+1)*DI piv*qv (ap (L p) c)):=by
     refine(h1.scale hr Ay).eq λi hi j E=>?_
     unfold ur
     by_cases e:i=r
     · rw[if_pos e,e]
       by_cases e2:j<c
       · rw[Az j e2]
         show Q (nG p r L) r j/qv (ap (L p) c)=0
         rw[Ap r (Nat.le_refl _) hr j e2];grind
       · exact(E1 j J E).symm
     · rw[if_neg e,hQ2 i e]
    have h3:=RO.clear (c:=c) h2 hr n (qa0 _)
    rw[Mq,show∀x y z:Rat,x*(y*z)=x*y*z by intros;grind]
    refine h3.eq λi hi j E=>?_
    by_cases e:i=r
    · simp only[if_pos e];rw[e,hQ3r]
    · simp only[if_neg e,if_pos hi];rw[hQ3 i hi e j E,hQ2 i e,hQ2 i e]
   · intro x y Li hy
     dsimp only at hy ⊢
     rw[A0]at hy
     rw[B0 x J]
     by_cases e:y<r
     · rw[B0 y e];exact H.inc x y Li e
     · rw[show y=r by omega,D1];exact H.lt x J
   · intro x hx
     dsimp only at hx ⊢
     rw[A0]at hx
     by_cases e:x<r
     · rw[B0 x e];exact Nat.lt_succ_of_lt (H.lt x e)
     · rw[show x=r by omega,D1];omega
   · intro i hi l hl
     dsimp only at hl ⊢
     rw[A0]at hl
     by_cases e:l<r
     · rw[B0 l e]
       have hlt:=H.lt l e
       by_cases e2:i=r
       · rw[e2,hQ3r,Az _ hlt,if_neg J]
       · rw[hQ3l i hi e2 _ hlt]
         show Q L (r5 p r i) _=_
         rw[H.unit _ (ux Ab hr hi) l e]
         have:(r5 p r i=l)=(i=l):=propext (by unfold r5;constructor <;>intro h3 <;>split at * <;>(try split at *) <;>omega)
         simp only[this]
     · rw[show l=r by omega,D1]
       by_cases e2:i=r
       · rw[e2,hQ3r,Aq,if_pos Z]
       · rw[hQ3g i hi e2 c (Nat.le_refl _) J,Aq,if_neg e2];grind
   · intro i h1 h2 j E
     dsimp only at h1 ⊢
     rw[A0]at h1
     by_cases e:j<c
     · rw[hQ3l i h2 J j e,Ap i J h2 j e]
     · rw[show j=c by omega,hQ3g i h2 J c (Nat.le_refl _) J,Aq];grind
   · dsimp only
     rw[A0]
     refine⟨λi j=>if i=r then U1 r j else U1 r c*U1 i j-U1 i c*U1 r j,λi=>if i=r then U1 r c else t1 i*U1 r c,T*U1 r c,⟨λe=>(Int.mul_eq_zero.1 e).elim hT.1 hUc0,by rw[Int.natAbs_mul];exact qa8 (qb9 hT.2.1 hUcb) CB,λl hl=>?_⟩,λi hi=>?_⟩
     · by_cases e:l=r
       · simp only[if_pos e];exact⟨T,by rw[Int.mul_comm]⟩
       · simp only[if_neg e]
         obtain⟨q,hq⟩:=hT.2.2 l J
         refine⟨q,?_⟩
         have:t1 l=t l:=by show t (r5 p r l)=_;rw[show r5 p r l=l by unfold r5;rw[if_neg J,if_neg e]]
         rw[this,hq,Int.mul_assoc,Int.mul_assoc,Int.mul_comm q]
     obtain⟨Ao,B2,W⟩:=hU1 i hi
     by_cases e:i=r
     · simp only[if_pos e]
       refine⟨hUc0,?_,λj E=>⟨by rw[e,hQ3r,hQ2r j E],?_⟩⟩
       · refine qa8 ?_ CB
         exact qa8 hUcb (Nat.le_mul_of_pos_left _ A2)
       · have O:=((hU1 r hr).2.2 j E).2
         split at O
         · rw[if_pos BT];exact qa8 O (qa8 (qa8 (Nat.le_mul_of_pos_left _ A1) J) L4)
         · rw[if_neg BT];exact qa8 O (qa8 (qa8 (Nat.le_mul_of_pos_left _ A1) J) No)
     · simp only[if_neg e]
       have E9:=dU Ao
       refine⟨λe=>by rcases Int.mul_eq_zero.1 e with e|e <;>contradiction,?_,λj E=>⟨?_,?_⟩⟩
       · rw[Int.natAbs_mul];exact qa8 (qb9 B2 hUcb) CB
       · have E5:=dU (hwt j E).1
         rw[hQ3 i hi e j E,(W j E).1,(W c J).1,Af,Int.mul_one,hQ2r j E]
         simp only[Rat.intCast_sub,Rat.intCast_mul]
         exact HH E9 Q0 E5
       · have O:=(W j E).2
         have E4:=(W c J).2
         have B1:=((hU1 r hr).2.2 j E).2
         rw[if_pos hc]at E4
         have T2:(U1 r c*U1 i j).natAbs=(U1 r c).natAbs*(U1 i j).natAbs:=qb8 _ _
         have T3:(U1 i c*U1 r j).natAbs=(U1 i c).natAbs*(U1 r j).natAbs:=qb8 _ _
         split at O
         · rw[if_pos BT]at B1 ⊢
           have Lk:=qb9 hUcb O
           have n2:=qb9 E4 B1
           omega
         · rw[if_neg BT]at B1 ⊢
           have Lk:=qb9 hUcb O
           have n2:=qb9 E4 B1
           omega
   · intro l hl
     dsimp only at hl ⊢
     rw[A0]at hl
     by_cases e:l<r
     · rw[KC l e];exact E0 l e
     · rw[show l=r by omega,KY];exact E6
def EI.col {m:Nat}{w:Nat->Int}{A:Mx}{a b S:Nat->Nat}{s:El}(h:EI n m cols c w A a b S s)(hg:Gr n m cols V a b S)(hwt:Wt m cols V w)(hc:c<cols)(hm:cols<=m):∃s',pu n m c s=some s'/\EI n m cols (c+1) w A a b S s':=by
 obtain⟨s',h1,h2,_⟩:=h.colS (λh1 h2=>hg.at h1 h2) hwt hc hm
 exact⟨s',h1,h2⟩
def EI.go {n m cols V:Nat}{w:Nat->Int}{A:Mx}{a b S:Nat->Nat}(hg:Gr n m cols V a b S)(hwt:Wt m cols V w)(hm:cols<=m):∀(f c:Nat) (s:El),c+f=cols->EI n m cols c w A a b S s->∃s',ip n m f c s=some s'/\EI n m cols cols w A a b S s'
 |0,c,s,hc,h=>⟨s,rfl,by rw[show cols=c by omega]at h ⊢;exact h⟩
 | f+1,c,s,hc,h=>by
   obtain⟨s1,h1,h2⟩:=h.col hg hwt J hm
   obtain⟨E,h3,h4⟩:=EI.go hg hwt hm f (c+1) s1 J h2
   exact⟨E,by rw[ip,h1];exact h3,h4⟩
def vj {m:Nat}{w:Nat->Int}{L:Rows}{a b S:Nat->Nat}(hok:gk n m L)(hg:Gr n m cols V a b S)(hwt:Wt m cols V w)(hm:cols<=m)(k3:Nat->Nat->Int)(t:Nat->Int)(hU:∀i,i<n->t i≠0/\(t i).natAbs<=S 0/\∀j,j<m->Q L i j=(k3 i j:Rat)/((t i*w j:Int):Rat)/\(k3 i j).natAbs<=(if j<cols then a 0 else b 0)):
 ∃s,elim n m cols L=some s/\EI n m cols cols w (Q L) a b S s:=
 EI.go hg hwt hm cols 0 _ J ⟨hok,qa7 _,rfl,by simpa[M8,DI]using RO.refl,⟨qa7 _,λ_ _ _ h=>absurd h zd,λ_ h=>absurd h zd,λ_ _ _ h=>absurd h zd,λ_ _ _ _ h=>absurd h J⟩,hg.a0,hg.s0,⟨k3,t,1,⟨by decide,hg.s0,λ_ h=>absurd h zd⟩,hU⟩,λ_ h=>absurd h zd⟩
def gA (a0:Nat):Nat->Nat
 |0=>a0
 |r+1=>2*(gA a0 r*gA a0 r)
def gB (a0 b0:Nat):Nat->Nat
 |0=>b0
 |r+1=>2*(gA a0 r*gB a0 b0 r)
def gS (a0 s0:Nat):Nat->Nat
 |0=>s0
 |r+1=>gS a0 s0 r*gA a0 r
def UR (R M V a0 b0 s0:Nat):Bool:=(List.range R).all λr=>
 Nat.blt (2*(gA a0 r*gS a0 s0 r)) dZ&&Nat.blt (gS a0 s0 r*gS a0 s0 r) dZ&&
 (Nat.ble M (r+1)||(Nat.blt (2*(gA a0 r*((gA a0 r+gB a0 b0 r)*(gS a0 s0 r*V)))) dZ&&Nat.blt (gS a0 s0 r*V*(gS a0 s0 r*V*gA a0 r)) dZ))
def Gr.of {R M a0 b0 s0 m:Nat}(h:UR R M V a0 b0 s0=true)(hV:1<=V)(ha:1<=a0)(hs:1<=s0)(hR:n<=R\/cols<=R)(hM:m<=M):Gr n m cols V (gA a0) (gB a0 b0) (gS a0 s0):=by
 have key:∀r,r<n->r<cols->r<R:=λr h1 h2=>by omega
 have h1:∀r,r<R->_:=λr hr=>List.all_eq_true.1 h r (List.mem_range.2 hr)
 simp only[Bool.and_eq_true,Bool.or_eq_true,Nat.blt_eq,Nat.ble_eq]at h1
 exact⟨hV,ha,hs,λ_ _ _=>qa0 _,λ_ _ _=>qa0 _,λ_ _ _=>qa0 _,λr h2 h3=>(h1 r (key r h2 h3)).1,λr h2 h3 _=>by
  rcases(h1 r (key r h2 h3)).2 with h5|h5
  · omega
  · exact h5⟩
def YB (n m:Nat)(L:Rows)(N D:Nat):Prop:=∃(k3:Nat->Nat->Int) (t:Nat->Int),∀i,i<n->t i≠0/\(t i).natAbs<=D/\∀j,j<m->Q L i j=(k3 i j:Rat)/(t i:Rat)/\(k3 i j).natAbs<=N
def q7 (n m:Nat)(L:Rows)(N:Nat)(t:Int):Prop:=∃k3:Nat->Nat->Int,∀i,i<n->∀j,j<m->Q L i j=(k3 i j:Rat)/(t:Rat)/\(k3 i j).natAbs<=N
def q7.mk {m:Nat}{L:Rows}(h:∀i,i<n->∀j,j<m->∃V:Int,Q L i j=(V:Rat)/(t:Rat)/\V.natAbs<=N):q7 n m L N t:=by
 refine⟨λi j=>if h2:i<n/\j<m then(h i h2.1 j h2.2).choose else 0,λi hi j E=>?_⟩
 have hs:=(h i hi j E).choose_spec
 simp only[hi,E,and_self,dite_true]
 exact hs
def q7.rep {m:Nat}{L:Rows}(h:q7 n m L N t)(ht:t≠0):YB n m L N t.natAbs:=by
 obtain⟨k3,h⟩:=h
 exact⟨k3,λ_=>t,λi hi=>⟨ht,qa0 _,λj E=>h i hi j E⟩⟩
def nI {m:Nat}{L:Rows}(hn:1<=n)(hn8:n<=8)(hm:1<=m)(hm8:m<=8)(ok:gk n m L):vM n L=true/\(L 0).length=m:=by
 have E:=(ok 0 hn).1
 refine⟨qa1 ⟨hn,hn8,by omega,by omega,λi hi=>⟨by rw[E];exact(ok i hi).1,lH.2 λk hk=>(ok i hi).2 k (by rw[(ok i hi).1]at hk;exact hk)⟩⟩,E⟩
def Mr {m D:Nat}{L:Rows}(hn:1<=n)(hn8:n<=8)(hm:1<=m)(hm8:m<=8)(ok:gk n m L)(hr:YB n m L N D)(hg:Gr n m m 1 (gA N) (gB N N) (gS N D)):∃r,pL n L=some r/\Rk n m r (Q L):=by
 obtain⟨hv,G⟩:=nI hn hn8 hm hm8 ok
 obtain⟨k3,t,hU⟩:=hr
 obtain⟨s,e,h⟩:=vj (w:=λ_=>1) ok hg (λj _=>⟨show(1:Int)≠0 by decide,show Int.natAbs 1<=1 by decide,λ_=>rfl⟩) (qa0 m) k3 t (λi hi=>⟨(hU i hi).1,(hU i hi).2.1,λj E=>⟨by rw[Int.mul_one];exact((hU i hi).2.2 j E).1,by rw[if_pos E];exact((hU i hi).2.2 j E).2⟩⟩)
 refine⟨s.piv.length,by unfold pL;rw[if_pos hv,G,e];rfl,h.rf.rank h.ro (qa0 m)⟩
def FW {a:List R}{B:Rows}{j k0:Nat}{X Y:Nat->Int}{t u:Int}{N1 N2:Nat}(ht:t≠0)(hu:u≠0)(hX:∀k,k<k0->bN (ap a k)=true/\qv (ap a k)=(X k:Rat)/(t:Rat)/\(X k).natAbs<=N1)(hY:∀k,k<k0->bN (ap (B k) j)=true/\qv (ap (B k) j)=(Y k:Rat)/(u:Rat)/\(Y k).natAbs<=N2)(h1:(k0+1)*(N1*N2)*(t.natAbs*u.natAbs)<dZ)(h2:(t.natAbs*u.natAbs)*(t.natAbs*u.natAbs)<dZ):
 ∀ (f k:Nat) (s:R) (V:Int),k+f=k0->bN s=true->qv s=(V:Rat)/((t*u:Int):Rat)->V.natAbs<=k*(N1*N2)->
  ∃(d:R) (V':Int),kT a B j f k s=some d/\bN d=true/\qv d=(V':Rat)/((t*u:Int):Rat)/\V'.natAbs<=k0*(N1*N2)/\qv d=qv s+sm f (λl=>qv (ap a (k+l))*qv (ap (B (k+l)) j))
 |0,k,s,V,hk,hs,hq,hV=>⟨s,V,rfl,hs,hq,by rw[show k0=k by omega];exact hV,by simp only[sm];grind⟩
 | f+1,k,s,V,hk,hs,hq,hV=>by
   obtain⟨x1,x2,x3⟩:=hX k J
   obtain⟨Af,W,A0⟩:=hY k J
   have A1:1<=t.natAbs*u.natAbs:=Nat.mul_pos J J
   have G:t*u≠0:=λe=>by rcases Int.mul_eq_zero.1 e with e|e <;>contradiction
   have b1:N1*N2*(t.natAbs*u.natAbs)<dZ:=Nat.lt_of_le_of_lt (Nat.mul_le_mul_right _ (Nat.le_mul_of_pos_left _ J)) h1
   have bx:=Bq.of (N:=N1) (D:=t.natAbs) x1 ht x2 x3 (qa0 _)
   have by_:=Bq.of (N:=N2) (D:=u.natAbs) Af hu W A0 (qa0 _)
   obtain⟨p,Ap,p2,p3⟩:=p0 bx by_ (Nat.lt_of_le_of_lt (Nat.le_mul_of_pos_right _ A1) b1) (Nat.lt_of_le_of_lt (Nat.le_mul_of_pos_left _ A1) h2)
   have q1:=dU ht
   have Av:=dU hu
   have O:qv p=((X k*Y k:Int):Rat)/((t*u:Int):Rat):=by rw[p3,Rat.intCast_mul,Rat.intCast_mul];grind
   have hXY:(X k*Y k).natAbs<=N1*N2:=by rw[Int.natAbs_mul];exact qb9 x3 A0
   have bs:=Bq.of (N:=k0*(N1*N2)) (D:=t.natAbs*u.natAbs) hs G hq (qa8 hV (Nat.mul_le_mul_right _ J)) (by rw[Int.natAbs_mul];exact qa0 _)
   have Am:=Bq.of (N:=N1*N2) (D:=t.natAbs*u.natAbs) p2 G O hXY (by rw[Int.natAbs_mul];exact qa0 _)
   obtain⟨E,Ao,Ar,H⟩:=Ll bs Am (by rw[<-Nat.add_mul,show k0*(N1*N2)+N1*N2=(k0+1)*(N1*N2)by rw[Nat.add_mul,Nat.one_mul]];exact h1) h2
   have As:=dU G
   have hs':qv E=((V+X k*Y k:Int):Rat)/((t*u:Int):Rat):=by rw[H,Rat.intCast_add];grind
   obtain⟨d,V',e,A2,d2,Aq,Ab⟩:=FW ht hu hX hY h1 h2 f (k+1) E (V+X k*Y k) J Ar hs' (by rw[Nat.add_mul,Nat.one_mul];omega)
   refine⟨d,V',by rw[kT,Ap];show(match jR s p with|none=>none|some E=>_)=_;rw[Ao];exact e,A2,d2,Aq,?_⟩
   rw[Ab,g9,H,<-hq,<-O,p3,<-x2,<-W]
   rw[ao (g:=λl=>qv (ap a (k+(l+1)))*qv (ap (B (k+(l+1))) j)) (λl _=>by rw[show k+1+l=k+(l+1)by omega])]
   show _+_+_=_+(qv (ap a (k+0))*qv (ap (B (k+0)) j)+_)
   grind
def FX {a:List R}{B:Rows}{p k0:Nat}(ha:a.length=k0)(P:Nat->R->Prop)(hd:∀j,j<p->∃d,kT a B j k0 0 z0=some d/\P j d):
 ∀(f j:Nat) (l:List R),j+f=p->l.length=j->(∀i,i<j->P i (ap l i))->∃l',lX a B f j l=some l'/\l'.length=p/\∀i,i<p->P i (ap l' i)
 |0,j,l,hj,hl,h=>⟨l,rfl,by omega,λi hi=>h i J⟩
 | f +1,j,l,hj,hl,h=>by
   obtain⟨d,d1,d2⟩:=hd j J
   obtain⟨l',e,h1,h2⟩:=FX ha P hd f (j+1) (l++[d]) J (by simp[hl]) (λi hi=>by
    by_cases e:i<j
    · rw[jY J];exact h i e
    · rw[kW J,show i=j by omega,hl,Nat.sub_self];exact d2)
   exact⟨l',by rw[lX,ha,d1];exact e,h1,h2⟩
def FY {L B:Rows}{n p:Nat}(P:Nat->List R->Prop)(hd:∀i,i<n->∃l,lX (L i) B p 0 []=some l/\P i l):
 ∀(f i:Nat) (K:Rows),i+f=n->(∀k,k<i->P k (K k))->∃K',pH L B p f i K=some K'/\∀k,k<n->P k (K' k)
 |0,i,K,hi,h=>⟨K,rfl,λk hk=>h k J⟩
 | f +1,i,K,hi,h=>by
   obtain⟨l,l1,l2⟩:=hd i J
   obtain⟨K',e,h1⟩:=FY P hd f (i+1) (bD K i l) J (λk hk=>by
    by_cases e:k=i
    · subst e;rw[aX];exact l2
    · rw[bc _ _ e];exact h k J)
   exact⟨K',by rw[pH,l1];exact e,h1⟩
def PZ {k m N1 N2:Nat}{L B:Rows}(hn:1<=n)(hn8:n<=8)(hk:1<=k)(hk8:k<=8)(hm:1<=m)(hm8:m<=8)(okA:gk n k L)(okB:gk k m B)(hA:q7 n k L N1 t)(hB:q7 k m B N2 u)(ht:t≠0)(hu:u≠0)(h1:(k+1)*(N1*N2)*(t.natAbs*u.natAbs)<dZ)(h2:(t.natAbs*u.natAbs)*(t.natAbs*u.natAbs)<dZ):
 ∃K,dM n L k B=some K/\gk n m K/\jg n m (Q K) (La.mul k (Q L) (Q B))/\q7 n m K (k*(N1*N2)) (t*u):=by
 obtain⟨v1,G⟩:=nI hn hn8 hk hk8 okA
 obtain⟨v2,O⟩:=nI hk hk8 hm hm8 okB
 obtain⟨X,hX⟩:=hA
 obtain⟨Y,hY⟩:=hB
 obtain⟨K,e,hK⟩:=FY (L:=L) (B:=B) (n:=n) (p:=m) (λi l=>l.length=m/\∀j,j<m->bN (ap l j)=true/\qv (ap l j)=La.mul k (Q L) (Q B) i j/\∃V:Int,qv (ap l j)=(V:Rat)/((t*u:Int):Rat)/\V.natAbs<=k*(N1*N2)) (λi hi=>by
  obtain⟨l,e,h3,h4⟩:=FX (a:=L i) (B:=B) (p:=m) (okA i hi).1 (λj d=>bN d=true/\qv d=La.mul k (Q L) (Q B) i j/\∃V:Int,qv d=(V:Rat)/((t*u:Int):Rat)/\V.natAbs<=k*(N1*N2)) (λj E=>by
   obtain⟨d,V,e,W,d2,H,A0⟩:=FW (a:=L i) (B:=B) (j:=j) (k0:=k) (X:=X i) (Y:=λl=>Y l j) ht hu (λl hl=>⟨(okA i hi).2 l hl,hX i hi l hl⟩) (λl hl=>⟨(okB l hl).2 j E,hY l hl j E⟩) h1 h2 k 0 z0 0 J Vj (by rw[mM];simp;grind) zd
   refine⟨d,e,W,?_,V,d2,H⟩
   rw[A0,mM]
   show 0+_=sm k _
   rw[ao (g:=λl=>Q L i l*Q B l j) (λl _=>by rw[Nat.zero_add];rfl)];grind) m 0 [] J Z (λi hi=>by omega)
  exact⟨l,e,h3,h4⟩) n 0 pI J (λk hk=>by omega)
 refine⟨K,by unfold dM AH;rw[if_pos ⟨v1,v2,G⟩,O];exact e,λi hi=>⟨(hK i hi).1,λj E=>((hK i hi).2 j E).1⟩,λi hi j E=>((hK i hi).2 j E).2.1,?_⟩
 exact q7.mk λi hi j E=>((hK i hi).2 j E).2.2
def US {m:Nat}{L:Rows}(i j:Nat)(hj:j<n):Q (λj=>l8 L n j) i j=tr (Q L) i j:=by
 unfold Q tr;dsimp only;rw[uB _ _ hj]
end Go.Proofs.YtlmihmlnpjkblaaGreatDoor
namespace La
section
variable {n m r:Nat}{p:Nat->Nat}{A B:Mx}{f:Rat}
def RF.zero_of (hr:RO n (m+1) A B f)(h:RF n m r p B){v:Nat->Rat}(hv:∀i,i<n->A i m=sm m (λt=>A i t*v t)):∀k,k<n->B k m=sm m (λt=>B k t*v t):=by
 let x:Nat->Rat:=λt=>if t=m then -1 else v t
 have hx:∀D:Mx,∀i,sm (m+1) (λt=>D i t*x t)=sm m (λt=>D i t*v t)-D i m:=λD i=>by
  show sm m (λt=>D i t*x t)+D i m*x m=_
  rw[ao (g:=λt=>D i t*v t) (λt ht=>by show _*(if t=m then -1 else v t)=_;rw[if_neg J])]
  show _+D i m*(if m=m then -1 else v m)=_
  rw[if_pos Z];grind
 have:=(hr.ker x).1 (λi hi=>by rw[hx,<-hv i hi];grind)
 intro k hk
 have h2:=this k hk
 rw[hx]at h2;grind
def sol (r m:Nat)(p:Nat->Nat)(B:Mx):Nat->Rat:=λt=>sm r (λl=>if t=p l then B l m else 0)
def RF.idp {p:Nat->Nat}(hi:∀a b,a<b->b<m->p a<p b)(hl:∀a,a<m->p a<m):∀l,l<m->p l=l:=by
 have h1:∀l,l<m->l<=p l:=by
  intro l
  induction l with
  |zero=>intro _;omega
  |succ l ih=>intro E;have:=ih J;have:=hi l (l+1) J E;omega
 have h2:∀d l,l+d+1=m->p l<=l:=by
  intro d
  induction d with
  |zero=>intro l E;have:=hl l J;omega
  |succ d ih=>intro l E;have:=ih (l+1) J;have:=hi l (l+1) J J;omega
 exact λl E=>Nat.le_antisymm (h2 (m-l-1) l J) (h1 l E)
def RF.only (hr:RO n (m+1) A B f)(h:RF n m m p B){v:Nat->Rat}(hv:∀i,i<n->A i m=sm m (λt=>A i t*v t)):∀t,t<m->v t=sol m m p B t:=by
 have E:=RF.idp h.inc h.lt
 intro t ht
 have h1:=h.zero_of hr hv t kb5
 rw[g8 ht (λl hl G=>by
  have:=h.unit t kb5 l hl
  rw[E l hl,if_neg (λe=>G e.symm)]at this;rw[this];grind)]at h1
 have h2:=h.unit t kb5 t ht
 rw[E t ht,if_pos Z]at h2
 unfold sol
 rw[g8 ht (λl hl G=>by rw[E l hl,if_neg (λe=>G e.symm)]),E t ht,if_pos Z,h1,h2];grind
end
end La
namespace Go.Proofs.YtlmihmlnpjkblaaGreatDoor
open Go Go.Eng Go.RowKit La Proofs.Tryz
def FZ {n m r:Nat}{A B:Mx}(h:Rk n m r A)(e:jg n m A B):Rk n m r B:=by
 obtain⟨C,F,CL,FR,h⟩:=h
 exact⟨C,F,CL,FR,⟨λi hi j E=>by rw[<-e i hi j E];exact h.eq i hi j E,h.cl,h.fr⟩⟩
def vk {l l':List R}{m:Nat}(h:l.length=m)(h':l'.length=m)(e:∀k,k<m->ap l k=ap l' k):l=l':=by
 refine List.ext_getElem J λk h1 h2=>?_
 have:=e k J
 rwa [eu h1,eu h2]at this
end Go.Proofs.YtlmihmlnpjkblaaGreatDoor
namespace La
variable {n k:Nat}
def Bo:Nat->Nat
 |0=>1
 |n+1=>(n+1)*Bo n
def Ms {f:Nat->Rat}{B:Nat}:∀n,(∀i,i<n->∃z:Int,f i=(z:Rat)/\z.natAbs<=B)->∃z:Int,sm n f=(z:Rat)/\z.natAbs<=n*B
 |0,_=>⟨0,by simp[sm],by simp⟩
 | n+1,h=>by
   obtain⟨z,h1,h2⟩:=Ms n (λi hi=>h i J)
   obtain⟨y,h3,h4⟩:=h n J
   exact⟨z+y,by rw[sm,h1,h3,Rat.intCast_add],by rw[Nat.add_mul,Nat.one_mul];omega⟩
def pN (N:Nat->Nat):Nat->Nat
 |0=>1
 |n+1=>N 0*pN (λj=>N (j+1)) n
def Bp (N:Nat):∀n,pN (λ_=>N) n=N^n
 |0=>rfl
 |n+1=>by rw[pN,Bp N n,Nat.pow_succ,Nat.mul_comm]
def F0:∀(n:Nat) (A:Mx) (N:Nat->Nat),(∀i,i<n->∀j,j<n->∃z:Int,A i j=(z:Rat)/\z.natAbs<=N j)->∃z:Int,det n A=(z:Rat)/\z.natAbs<=Bo n*pN N n
 |0,_,_,_=>⟨1,by simp[det],by simp[Bo,pN]⟩
 | n +1,A,N,h=>by
   obtain⟨z,h1,h2⟩:=Ms (f:=λi=>sg i*A i 0*det n (mn i A)) (B:=N 0*(Bo n*pN (λj=>N (j+1)) n)) (n+1) (λi hi=>by
    obtain⟨x,G,O⟩:=h i hi 0 J
    obtain⟨y,H,W⟩:=F0 n (mn i A) (λj=>N (j+1)) (λr hr c hc=>h _ (Rl hr) _ J)
    have E:(x*y).natAbs<=N 0*(Bo n*pN (λj=>N (j+1)) n):=by rw[Int.natAbs_mul];exact qb9 O W
    unfold sg
    by_cases e:i%2=0
    · exact⟨x*y,by rw[if_pos e,G,H,Rat.intCast_mul];grind,E⟩
    · exact⟨-(x*y),by rw[if_neg e,G,H,Rat.intCast_neg,Rat.intCast_mul];grind,by rw[Int.natAbs_neg];exact E⟩)
   refine⟨z,h1,qa8 h2 (Nat.le_of_eq ?_)⟩
   rw[Bo,pN,Nat.mul_assoc,Nat.mul_left_comm (N 0)]
def Mu {t:Rat}(ht:t≠0):∀n:Nat,t^n≠0
 |0=>by rw[Rat.pow_zero];decide
 |n+1=>by rw[Rat.pow_succ];intro e;exact(Rat.mul_eq_zero.1 e).elim (Mu ht n) ht
def F1 (t:Rat)(ht:t≠0):∀(n:Nat) (A:Mx),det n (λi j=>A i j/t)=det n A/t^n
 |0,_=>by simp[det];grind
 | n+1,A=>by
   rw[det,det,show∀x:Rat,x/t^(n+1)=(1/t^(n+1))*x by intro x;grind,<-dv]
   refine ao λi _=>?_
   rw[show mn i (λi j=>A i j/t)=λr c=>mn i A r c/t from rfl,F1 t ht n]
   rw[Rat.pow_succ]
   have:=Mu ht n
   grind
def uc (A:Mx)(k:Nat)(u:Nat->Rat):Mx:=λi j=>if j=k then u i else A i j
def Rx (A:Mx)(k:Nat)(u:Nat->Rat):uc A k u=tr (ur (tr A) k u):=rfl
def vl {n:Nat}{A:Mx}{k:Nat}(hk:k<n)(x:Nat->Rat):∀m,m<=n->det n (uc A k (λi=>sm m (λt=>A i t*x t)))=if k<m then x k*det n A else 0
 | 0,_=>by
   rw[if_neg J,Rx,kA]
   exact AT hk (λj _=>by show(if k=k then sm 0 _ else _)=_;rw[if_pos Z];rfl)
 | m +1,hm=>by
   have ih:=vl (A:=A) hk x m J
   rw[Rx,kA]at ih ⊢
   rw[show(λi=>sm (m+1) (λt=>A i t*x t))=λi=>sm m (λt=>A i t*x t)+x m*A i m by funext i;rw[sm];grind]
   rw[sS n (tr A) k _ (λi=>A i m) (x m) hk,ih]
   by_cases e:k=m
   · subst e
     rw[if_neg (Nat.lt_irrefl k),if_pos J,show ur (tr A) k (λi=>A i k)=tr A from sT (tr A) k,kA];grind
   · rw[AV (A:=ur (tr A) k (λi=>A i m)) hk (by omega:m<n) e (λj _=>by unfold ur tr;rw[if_pos Z,if_neg (λh=>e h.symm)])]
     by_cases e2:k<m
     · rw[if_pos e2,if_pos J];grind
     · rw[if_neg e2,if_neg J];grind
def Mv {A:Mx}{b x:Nat->Rat}(h:∀i,i<n->b i=sm n (λt=>A i t*x t))(hk:k<n):det n (uc A k b)=x k*det n A:=by
 rw[fk (A:=uc A k b) (B:=uc A k (λi=>sm n (λt=>A i t*x t))) (λi hi j _=>by unfold uc;rw[h i hi]),vl hk x n (qa0 n),if_pos hk]
def RF.inverse {p:Nat->Nat}{A B W kd:Mx}{f:Rat}(hr:RO n (n+n) W kd f)(h:RF n n n p kd)(hA:jg n n W A)(hI:∀i,i<n->∀j,j<n->W i (n+j)=one i j)(hB:∀i,i<n->∀j,j<n->kd i (n+j)=B i j):
 jg n n (mul n B A) one/\jg n n (mul n A B) one:=by
 have hZ:=h.full
 obtain⟨E,hE⟩:=hr.mat
 have hEB:∀i,i<n->∀j,j<n->E i j=B i j:=λi hi j G=>by
  rw[<-hB i hi j G,hE i hi (n+j) J]
  rw[show mul n E W i (n+j)=mul n E one i j from ao λl hl=>by rw[hI l hl j G]]
  exact(mul_one G).symm
 refine⟨λi hi j G=>?_,λi hi j G=>?_⟩
 · rw[<-hZ i hi j G,hE i hi j J]
   exact ao λl hl=>by rw[hEB i hi l hl,hA l hl j G]
 · let x:Nat->Rat:=λt=>if t<n then B t j else if t=n+j then -1 else 0
   have hx:∀D:Mx,∀i,sm (n+n) (λt=>D i t*x t)=sm n (λt=>D i t*B t j)-D i (n+j):=λD i=>by
    rw[uO]
    rw[ao (n:=n) (g:=λt=>D i t*B t j) (λt ht=>by show _*(if t<n then B t j else _)=_;rw[if_pos ht])]
    rw[g8 (n:=n) (k:=j) (f:=λt=>D i (n+t)*x (n+t)) G (λt ht H=>by
     show _*(if n+t<n then _ else if n+t=n+j then -1 else 0)=0
     rw[if_neg J,if_neg J];grind)]
    show _+D i (n+j)*(if n+j<n then _ else if n+j=n+j then -1 else 0)=_
    rw[if_neg J,if_pos Z];grind
   have h1:=(hr.ker x).2 (λk hk=>by
    rw[hx kd k,hB k hk j G]
    rw[g8 hk (λt ht H=>by rw[hZ k hk t ht];unfold one;rw[if_neg (λe=>H e.symm)];grind),hZ k hk k hk]
    unfold one;rw[if_pos Z];grind) i hi
   rw[hx W i,hI i hi j G]at h1
   have h2:mul n A B i j=sm n (λt=>W i t*B t j):=ao λt ht=>by rw[hA i hi t ht]
   rw[h2];grind
def Br {A B C:Mx}(h1:jg n n (mul n C B) one)(h2:jg n n (mul n A B) one)(h3:jg n n (mul n B A) one):jg n n C A:=λi hi j E=>by
 rw[<-mul_one (A:=C) E,show mul n C one i j=mul n C (mul n B A) i j from ao λl hl=>by rw[h3 l hl j E],<-mul_assoc]
 rw[show mul n (mul n C B) A i j=mul n one A i j from ao λl hl=>by rw[h1 i hi l hl]]
 exact one_mul hi
end La
namespace Go.Proofs.YtlmihmlnpjkblaaGreatDoor
open Go Go.Eng Go.RowKit La Proofs.Tryz
variable {n N D N' D' k i j:Nat}
def P3 {n d:Int}{q:R}(hd:d≠0)(h:im n d=some q):qv q=(n:Rat)/(d:Rat):=by
 obtain⟨h1,h2⟩:=Hi h
 unfold im at h
 rw[h1,h2,Bool.and_self,if_pos Z]at h
 exact uW hd h
def P5 {a b:R}{x y:Rat}(ha:Bq a x N D)(hb:Bq b y N' D')(h1:N*N'<dZ)(h2:D*D'<dZ):∃q,gj a b=some q/\Bq q (x*y) (N*N') (D*D'):=by
 obtain⟨q,e,ok,hv⟩:=p0 ha hb h1 h2
 have E:=c7 ha.ok
 have p2:=c7 hb.ok
 have q1:=hH ha.ok
 have G:=hH hb.ok
 have hq:qv q=((ai a.1*ai b.1:Int):Rat)/((ai a.2*ai b.2:Int):Rat):=by
  rw[hv,<-ha.eq,<-hb.eq,Rat.intCast_mul,Rat.intCast_mul];unfold qv;grind
 have:=Bq.of (N:=N*N') (D:=D*D') ok (λe=>by rcases Int.mul_eq_zero.1 e with e|e <;>omega) hq (by rw[Int.natAbs_mul];exact qb9 ha.num hb.num) DQ
 exact⟨q,e,ok,hv,this.num,this.den⟩
def pA (a:Nat->Nat):Nat->Nat
 |0=>1
 |r+1=>pA a r*a r
def Bs {l:List R}{a S:Nat->Nat}(hp:∀k,k<l.length->Bq (l.getD k z0) (qv (l.getD k z0)) (a k) (S k))(hA:∀k,k<=l.length->pA a k<dZ)(hS:∀k,k<=l.length->pA S k<dZ):
 ∀(f i:Nat) (d:R) (x:Rat),i+f=l.length->Bq d x (pA a i) (pA S i)->∃p,iq l f i d=some p/\Bq p (x*DI (l.drop i)) (pA a l.length) (pA S l.length)
 |0,i,d,x,h,hb=>⟨d,rfl,by rw[show i=l.length by omega]at hb ⊢;rw[List.drop_length];simpa[DI]using hb⟩
 | f+1,i,d,x,h,hb=>by
   have hi:i<l.length:=J
   have E:=hp i hi
   have hr:ap l i=l.getD i z0:=by rw[eu hi];simp[List.getD,hi]
   obtain⟨q,e,hq⟩:=P5 hb E (hA (i+1) J) (hS (i+1) J)
   obtain⟨p,e2,G⟩:=Bs hp hA hS f (i+1) q _ J hq
   refine⟨p,by rw[iq,hr,e];exact e2,?_⟩
   rw[show l.drop i=l.getD i z0::l.drop (i+1)by rw[List.drop_eq_getElem_cons hi];simp[List.getD,hi],DI,<-Rat.mul_assoc]
   exact G
def UT {a b q:R}(h:dE a b=some q):qv q=qv a-qv b:=by
 unfold dE at h
 split at h
 · rename_i hh
   simp only[Bool.and_eq_true]at hh
   split at h
   · have E:=c7 hh.1
     have p2:=c7 hh.2
     rw[P3 (λe=>by rcases Int.mul_eq_zero.1 e with e|e <;>omega) h,Rat.intCast_mul,Rat.intCast_sub,Rat.intCast_mul,Rat.intCast_mul]
     have q1:=hH hh.1
     have G:=hH hh.2
     unfold qv;grind
   · cases h
 · cases h
def Mw {d:R}(h:bN d=true):bN (r7 d)=true/\qv (r7 d)= -qv d:=by
 refine⟨Fb h,?_⟩
 rw[UT (qY h),mM];grind
def P6 {L:Rows}{a b S:Nat->Nat}{s:El}(hn:1<=n)(hn8:n<=8)(ok:gk n n L)(e:elim n n n L=some s)(h:EI n n n n (λ_=>1) (Q L) a b S s)(hA:∀k,k<=n->pA a k<dZ)(hS:∀k,k<=n->pA S k<dZ):
 ∃d r,kU n L=some d/\bN d=true/\qv d=det n (Q L)/\pL n L=some r/\Rk n n r (Q L)/\(det n (Q L)=0↔r<n)/\∀X,det n (La.mul n (Q L) X)=det n (Q L)*det n X:=by
 obtain⟨hv,G⟩:=nI hn hn8 hn hn8 ok
 have E:=h.rf.det_iff h.ro (qa0 n)
 have Af:=h.rf.rn
 have hrank:pL n L=some s.piv.length:=by unfold pL;rw[if_pos hv,G,e];rfl
 have O:kU n L=ox n s:=by unfold kU;rw[if_pos (Dp hv G.symm),e];rfl
 have A2:=h.ro.ne
 have H:det n (Q L)=0↔s.piv.length<n:=by
  constructor
  · intro e2
    rcases Nat.lt_or_ge s.piv.length n with h1|h1
    · exact h1
    · rw[E.1 J]at e2;exact absurd e2 A2
  · exact E.2
 have W:=h.rf.rank h.ro (qa0 n)
 have A0:=λX=>h.rf.det_mul h.ro (qa0 n) X
 by_cases hlt:s.piv.length<n
 · refine⟨z0,s.piv.length,by rw[O];unfold ox;rw[if_pos hlt],Vj,by rw[mM,E.2 hlt],hrank,W,H,A0⟩
 · obtain⟨d,e2,hd⟩:=Bs h.pv (λk hk=>hA k J) (λk hk=>hS k J) s.piv.length 0 o1 1 J ⟨Yx,Rq,show(ai o1.1).natAbs<=1 by decide +kernel,show(ai o1.2).natAbs<=1 by decide +kernel⟩
   have A1:qv d=DI s.piv:=by rw[hd.eq,List.drop_zero];grind
   have Ab:kU n L=some (if s.sw%2=1 then r7 d else d):=by rw[O];unfold ox;rw[if_neg hlt,e2];rfl
   have hf:=E.1 J
   refine⟨_,s.piv.length,Ab,?_,?_,hrank,W,H,A0⟩
   · split
     · exact(Mw hd.ok).1
     · exact hd.ok
   · rw[hf]
     unfold M8
     by_cases e3:s.sw%2=1
     · rw[if_pos e3,if_neg J,(Mw hd.ok).2,A1];grind
     · rw[if_neg e3,if_pos J,A1];grind
def P7 {L:Rows}(hn:1<=n)(hn8:n<=8)(ok:gk n n L)(hr:YB n n L N D)(hg:Gr n n n 1 (gA N) (gB N N) (gS N D))(hA:∀k,k<=n->pA (gA N) k<dZ)(hS:∀k,k<=n->pA (gS N D) k<dZ):
 ∃d r,kU n L=some d/\bN d=true/\qv d=det n (Q L)/\pL n L=some r/\Rk n n r (Q L)/\(det n (Q L)=0↔r<n)/\∀X,det n (La.mul n (Q L) X)=det n (Q L)*det n X:=by
 obtain⟨k3,t,hU⟩:=hr
 obtain⟨s,e,h⟩:=vj (w:=λ_=>1) ok hg (λj _=>⟨show(1:Int)≠0 by decide,show Int.natAbs 1<=1 by decide,λ_=>rfl⟩) (qa0 n) k3 t (λi hi=>⟨(hU i hi).1,(hU i hi).2.1,λj E=>⟨by rw[Int.mul_one];exact((hU i hi).2.2 j E).1,by rw[if_pos E];exact((hU i hi).2.2 j E).2⟩⟩)
 exact P6 hn hn8 ok e h hA hS
def pB (a0 s0 R:Nat):Bool:=(List.range (R+1)).all λk=>Nat.blt (pA (gA a0) k) dZ&&Nat.blt (pA (gS a0 s0) k) dZ
def My {a0 s0 R:Nat}(h:pB a0 s0 R=true)(hk:k<=R):pA (gA a0) k<dZ/\pA (gS a0 s0) k<dZ:=by
 have:=List.all_eq_true.1 h k (List.mem_range.2 J)
 simpa only[Bool.and_eq_true,Nat.blt_eq]using this
def Bt (t:Int):∀n:Nat,((t^n:Int):Rat)=(t:Rat)^n
 |0=>by rw[Int.pow_zero,Rat.pow_zero];rfl
 |n+1=>by rw[Int.pow_succ,Rat.pow_succ,Rat.intCast_mul,Bt t n]
def F2 {t:Int}(h:t≠0):∀n:Nat,t^n≠0
 |0=>by simp
 |n+1=>by rw[Int.pow_succ];intro e;exact(Int.mul_eq_zero.1 e).elim (F2 h n) h
def Bu {A:Mx}{k3:Nat->Nat->Int}{t:Int}{N:Nat->Nat}(ht:t≠0)(h:∀i,i<n->∀j,j<n->A i j=(k3 i j:Rat)/(t:Rat)/\(k3 i j).natAbs<=N j):
 ∃z:Int,det n A=(z:Rat)/((t^n:Int):Rat)/\z.natAbs<=Bo n*pN N n:=by
 obtain⟨z,h1,h2⟩:=F0 n (λi j=>(k3 i j:Rat)) N (λi hi j E=>⟨k3 i j,rfl,(h i hi j E).2⟩)
 refine⟨z,?_,h2⟩
 rw[fk (A:=A) (B:=λi j=>(k3 i j:Rat)/(t:Rat)) (λi hi j E=>(h i hi j E).1),F1 (t:Rat) (dU ht) n,h1,Bt]
def UU (h:j<n):ap (uR i n) j=if i=j then o1 else z0:=by
 rw[eu (by rw[mK];exact h)];simp[uR]
def ZM (h:j<n):qv (ap (uR i n) j)=one i j:=by
 rw[UU h];unfold one
 split
 · exact Rq
 · exact mM
def Mz {m:Nat}{L:Rows}(ok:gk n m L)(hi:i<n)(hj:j<m):Q (jX n L) i j=Q L i j:=by
 unfold Q jX;rw[jY (by rw[(ok i hi).1];exact hj)]
def MA {m:Nat}{L:Rows}(ok:gk n m L)(hi:i<n)(hj:j<n):Q (jX n L) i (m+j)=one i j:=by
 unfold Q jX;rw[kW (by rw[(ok i hi).1];omega),(ok i hi).1,show m+j-m=j by omega];exact ZM hj
def Bv {l:List R}:ap (l.drop n) j=ap l (n+j):=by unfold ap;simp[List.getD,List.getElem?_drop]
def F3 {N1 N2:Nat}{L:Rows}(hn:1<=n)(hn8:n<=8)(ok:gk n n L)(X:Nat->Nat->Int)(t:Nat->Int)(ht:∀i,i<n->t i≠0/\(t i).natAbs<=D/\(t i).natAbs<=N2)(hX:∀i,i<n->∀j,j<n->Q L i j=(X i j:Rat)/(t i:Rat)/\(X i j).natAbs<=N1)(hg:Gr n (n+n) n 1 (gA N1) (gB N1 N2) (gS N1 D)):
 ∃r,Rk n n r (Q L)/\((r<n/\eY n L=none)\/(r=n/\∃B,eY n L=some B/\gk n n B/\jg n n (La.mul n (Q B) (Q L)) one/\jg n n (La.mul n (Q L) (Q B)) one)):=by
 obtain⟨hv,G⟩:=nI hn hn8 hn hn8 ok
 have okU:gk n (n+n) (jX n L):=by have:=m8 (jc hv);rwa [G]at this
 obtain⟨s,e,h⟩:=vj (w:=λ_=>1) (V:=1) okU hg (λj _=>⟨show(1:Int)≠0 by decide,show Int.natAbs 1<=1 by decide,λ_=>rfl⟩) (Nat.le_add_right n n) (λi j=>if j<n then X i j else if i=j-n then t i else 0) t (λi hi=>by
  obtain⟨t1,t2,t3⟩:=ht i hi
  refine⟨t1,t2,λj E=>?_⟩
  by_cases e:j<n
  · simp only[if_pos e,Int.mul_one]
    rw[Mz ok hi e]
    exact hX i hi j e
  · simp only[if_neg e,Int.mul_one]
    obtain⟨k,rfl⟩:∃k,j=n+k:=⟨j-n,by omega⟩
    have q1:=dU t1
    rw[MA ok hi J,show n+k-n=k by omega]
    unfold one
    by_cases e2:i=k
    · rw[if_pos e2,if_pos e2];exact⟨by grind,t3⟩
    · rw[if_neg e2,if_neg e2];exact⟨by simp;grind,by simp⟩)
 have hwide:jg n n (Q (jX n L)) (Q L):=λi hi j E=>Mz ok hi E
 have hS:eY n L=yp n s:=by unfold eY;rw[if_pos (Dp hv G.symm),e];rfl
 have H:=h.rf.rn
 refine⟨s.piv.length,FZ (h.rf.rank h.ro (Nat.le_add_right n n)) hwide,?_⟩
 by_cases hlt:s.piv.length<n
 · left;exact⟨hlt,by rw[hS];unfold yp;rw[if_pos hlt]⟩
 · right
   have hfull:RF n n n (λl=>s.cols.getD l 0) (Q s.L):=by have:=h.rf;rwa [show s.piv.length=n by omega]at this
   have hB:∀i,i<n->∀j,j<n->Q s.L i (n+j)=Q (λi=>(s.L i).drop n) i j:=λi _ j _=>by unfold Q;rw[Bv]
   have:=RF.inverse h.ro hfull hwide (λi hi j E=>MA ok hi E) hB
   refine⟨by omega,λi=>(s.L i).drop n,by rw[hS];unfold yp;rw[if_neg hlt],λi hi=>⟨by rw[List.length_drop,(h.ok i hi).1];omega,λj E=>by rw[Bv];exact(h.ok i hi).2 (n+j) J⟩,this.1,this.2⟩
end Go.Proofs.YtlmihmlnpjkblaaGreatDoor
namespace La
variable {k n:Nat}{f v e:Nat->Rat}
def xf {f:Nat->Rat}:∀{n:Nat},(∀i,i<n->0<=f i)->0<=sm n f
 |0,_=>by simp[sm]
 |n+1,h=>by have h1:=xf (n:=n) λi hi=>h i J;have h2:=h n J;simp only[sm];grind
def MB {f:Nat->Rat}{k:Nat}:∀{n:Nat},(∀i,i<n->0<=f i)->k<n->0<f k->0<sm n f
 | n+1,h,hk,hp=>by
   have h2:=h n J
   simp only[sm]
   by_cases e:k=n
   · subst e;have h1:=xf (n:=k) λi hi=>h i J;grind
   · have h1:=MB (n:=n) (λi hi=>h i J) J hp;grind
def MC (hk:k<=n)(h:∀i,k<=i->i<n->f i=0):sm n f=sm k f:=by
 obtain⟨d,rfl⟩:∃d,n=k+d:=⟨n-k,by omega⟩
 rw[uO,dN (n:=d) (λi _=>h _ J J)];grind
def nJ (x:Rat):0<=x*x:=by
 rcases Rat.le_total (a:=0) (b:=x)with h|h
 · exact Rat.mul_nonneg h h
 · have:=Rat.mul_nonneg (show 0<=-x by grind) (show 0<=-x by grind);grind
def MD {x:Rat}(h:x≠0):0<x*x:=by
 have h1:=nJ x
 have h2:x*x≠0:=λe=>by rcases Rat.mul_eq_zero.1 e with e|e <;>contradiction
 grind
def qf (n:Nat)(A:Mx)(v:Nat->Rat):Rat:=sm n (λi=>v i*sm n (λj=>A i j*v j))
def PD (n:Nat)(A:Mx):Prop:=∀v:Nat->Rat,(∃j,j<n/\v j≠0)->0<qf n A v
def Bw {A B:Mx}(h:jg n n A B):qf n A v=qf n B v:=ao λi hi=>by rw[ao λj E=>by rw[h i hi j E]]
def PD.congr {A B:Mx}(h:PD n A)(e:jg n n A B):PD n B:=λv hv=>by rw[<-Bw e];exact h v hv
def PD.lead {A:Mx}(h:PD n A)(hk:k<=n):PD k A:=by
 intro v ⟨j,E,hv⟩
 have h1:=h (λi=>if i<k then v i else 0) ⟨j,by omega,by simpa[E]using hv⟩
 have h2:qf n A (λi=>if i<k then v i else 0)=qf k A v:=by
  unfold qf
  rw[MC hk (λi h3 _=>by simp only[if_neg (by omega:¬i<k)];grind)]
  refine ao λi hi=>?_
  simp only[if_pos hi]
  rw[MC hk (λi h3 _=>by simp only[if_neg (by omega:¬i<k)];grind)]
  congr 1
  exact ao λl hl=>by simp only[if_pos hl]
 rwa [h2]at h1
def PD.tail {A:Mx}(h:PD (n+1) A):PD n (mn 0 A):=by
 intro v ⟨j,E,hv⟩
 have h1:=h (λi=>if i=0 then 0 else v (i-1)) ⟨j+1,by omega,by simpa using hv⟩
 have h2:qf (n+1) A (λi=>if i=0 then 0 else v (i-1))=qf n (mn 0 A) v:=by
  unfold qf
  rw[g9]
  simp only[if_true]
  rw[show∀x y:Rat,0*x+y=y by intros;grind]
  refine ao λi _=>?_
  rw[g9]
  simp only[if_true,if_neg (Nat.succ_ne_zero _),Nat.add_sub_cancel]
  rw[show∀x y:Rat,x*0+y=y by intros;grind]
  congr 1
 rwa [h2]at h1
def PD.det_pos:∀{n:Nat} {A:Mx},PD n A->0<det n A
 |0,_,_=>by show(0:Rat)<1;decide
 | n + 1,A,h=>by
   obtain⟨v,hv,hz⟩:=ker n (n+1) (λi j=>A (i+1) j) (Nat.lt_succ_self n)
   have hq:=h v hv
   obtain⟨s,hs⟩:∃s,sm (n+1) (λj=>A 0 j*v j)=s:=⟨_,rfl⟩
   have h1:qf (n+1) A v=v 0*s:=by
    unfold qf
    rw[g9,hs,dN (n:=n) (λi hi=>by rw[hz i hi];grind)];grind
   have hc:=Mv (n:=n+1) (A:=A) (b:=λi=>if i=0 then s else 0) (x:=v) (λi hi=>by
    by_cases e:i=0
    · subst e;rw[if_pos Z];exact hs.symm
    · rw[if_neg e]
      obtain⟨i,rfl⟩:∃k,i=k+1:=⟨i-1,by omega⟩
      exact(hz i J).symm) (k:=0) J
   have hd:det (n+1) (uc A 0 λi=>if i=0 then s else 0)=s*det n (mn 0 A):=by
    rw[det,g9,dN (n:=n) (λi hi=>by unfold uc;simp)]
    have e1:mn 0 (uc A 0 λi=>if i=0 then s else 0)=mn 0 A:=by
     funext r c;unfold mn uc;rw[if_neg J]
    rw[e1];unfold uc sg;simp;grind
   have G:=h.tail.det_pos
   rw[h1]at hq
   rw[hd]at hc
   have H:v 0≠0:=λe=>by rw[e]at hq;grind
   have h3:=Rat.mul_pos hq G
   have h4:v 0*v 0*det (n+1) A=v 0*s*det n (mn 0 A):=by grind
   have E:=MD H
   have W:0<v 0*v 0*det (n+1) A:=by rw[h4];exact h3
   refine Rat.not_le.1 λ_=>?_
   have O:=Rat.mul_nonneg (Rat.le_of_lt E) (show 0<=- det (n+1) A by grind)
   grind
def Rk.inj {m:Nat}{A:Mx}(h:Rk n m m A)(hv:∀i,i<n->sm m (λj=>A i j*v j)=0):∀j,j<m->v j=0:=by
 intro E O
 refine qb6 λG=>?_
 obtain⟨m,rfl⟩:∃k,m=k+1:=⟨m-1,by omega⟩
 obtain⟨C,F,CL,FR,h⟩:=h
 have:=h.le (s:=m) (X:=λi l=>A i (sk E l)) (Y:=λl j=>if j=E then-(v (sk E l)/v E)else if j=sk E l then 1 else 0) (λi hi j H=>by
  show A i j=sm m _
  by_cases e:j=E
  · subst e
    simp only[if_true]
    have h1:=hv i hi
    rw[yy _ j m J]at h1
    rw[ao (g:=λl=>- (1/v j)*(A i (sk j l)*v (sk j l))) (λl _=>by grind),dv]
    grind
  · rw[g8 (k:=if j<E then j else j-1) kd2 (λl hl G=>by
     show A i (sk E l)*(if j=E then-(v (sk E l)/v E)else if j=sk E l then 1 else 0)=0
     rw[if_neg e,if_neg (by unfold sk;split at G <;>split <;>omega)];grind)]
    have:sk E (if j<E then j else j-1)=j:=by unfold sk;grind
    simp only[if_neg e,this,if_true];grind)
 omega
def PD.inv {m:Nat}{B G:Mx}(hG:PD m G)(h2:jg m m (mul m G B) one):PD m B:=by
 intro v ⟨j,H,hv⟩
 let w:Nat->Rat:=λi=>sm m (λj=>B i j*v j)
 have E:∀i,i<m->sm m (λj=>G i j*w j)=v i:=λi hi=>by
  have h3:sm m (λj=>G i j*w j)=mul m (mul m G B) (λj _=>v j) i 0:=by rw[mul_assoc];rfl
  rw[h3,show mul m (mul m G B) (λj _=>v j) i 0=mul m one (λj _=>v j) i 0 from ao λl hl=>by rw[h2 i hi l hl],one_mul hi]
 have A0:∃i,i<m/\w i≠0:=qb6 λW=>hv (by
  rw[<-E j H]
  exact dN λi hi=>by
   have:w i=0:=qb6 λh=>W ⟨i,hi,h⟩
   rw[this];grind)
 have h4:=hG w A0
 have O:qf m G w=qf m B v:=ao λi hi=>by rw[E i hi,Rat.mul_comm]
 rwa [O]at h4
def PD.apart {r:Nat}{A:Mx}(h:PD n A)(hr:r<n)(hz:∀j,j<r+1->A r j+sm r (λt=>e t*A t j)=0):False:=by
 have h1:=h.lead (k:=r+1) J (λt=>if t=r then 1 else e t) ⟨r,by omega,by simp⟩
 have h2:qf (r+1) A (λt=>if t=r then 1 else e t)=0:=by
  have h3:qf (r+1) A (λt=>if t=r then 1 else e t)=sm (r+1) (λj=>sm (r+1) (λi=>(if i=r then 1 else e i)*A i j)*(if j=r then 1 else e j)):=by
   unfold qf
   rw[ao (g:=λi=>sm (r+1) (λj=>(if i=r then 1 else e i)*A i j*(if j=r then 1 else e j))) (λi _=>by rw[<-dv];exact ao λj _=>by grind),jB]
   exact ao λj _=>by rw[nc]
  rw[h3]
  refine dN λj E=>?_
  have h4:=hz j E
  have G:sm (r+1) (λi=>(if i=r then 1 else e i)*A i j)=0:=by
   show sm r (λi=>(if i=r then 1 else e i)*A i j)+(if r=r then 1 else e r)*A r j=0
   rw[ao (n:=r) (g:=λt=>e t*A t j) (λt ht=>by rw[if_neg J]),if_pos Z];grind
  rw[G];grind
 rw[h2]at h1;grind
end La
namespace Go.Proofs.YtlmihmlnpjkblaaGreatDoor
open Go Go.Eng Go.RowKit La Proofs.Tryz
variable {c k n V j i N D N0 N1:Nat}
structure EP (n c:Nat)(A:Mx)(s:El):Prop where
 len:s.piv.length=c
 top:∀i,i<c->∃e:Nat->Rat,∀j,j<n->Q s.L i j=sm c (λt=>e t*A t j)
 low:∀i,c<=i->i<n->∃e:Nat->Rat,∀j,j<n->Q s.L i j=A i j+sm c (λt=>e t*A t j)
def yT {e f:Nat->Rat}{k:Rat}:sm c (λt=>e t*f t)+k*f c=sm (c+1) (λt=>(if t<c then e t else k)*f t):=by
 show _=sm c (λt=>(if t<c then e t else k)*f t)+(if c<c then e c else k)*f c
 rw[if_neg (Nat.lt_irrefl c)]
 congr 1
 exact ao λt ht=>by rw[if_pos ht]
def EP.step {w:Nat->Int}{A:Mx}{a b S:Nat->Nat}{s:El}(h:EI n n n c w A a b S s)(hp:EP n c A s)(pd:PD n A)(hc:c<n)(hg:X9 c n V a b S)(hwt:Wt n n V w):∃s',pu n n c s=some s'/\EI n n n (c+1) w A a b S s'/\EP n (c+1) A s':=by
 obtain⟨s',h1,h2,h3⟩:=h.colS (λ_ _=>by rw[hp.len];exact hg) hwt hc (qa0 n)
 rw[hp.len]at h3
 obtain⟨e0,O⟩:=hp.low c (qa0 c) hc
 have A1:Q s.L c c≠0:=λe=>pd.apart hc (e:=e0) λj E=>by
  rw[<-O j J]
  by_cases ej:j=c
  · rw[ej];exact e
  · exact h.rf.zero c (by rw[hp.len];exact qa0 c) hc j J
 obtain⟨A0,G⟩:=h3 hc A1
 refine⟨s',h1,h2,⟨A0,?_,?_⟩⟩
 · have hc':∀j,j<n->Q s'.L c j=sm (c+1) (λt=>(if t<c then e0 t/Q s.L c c else 1/Q s.L c c)*A t j):=λj E=>by
    rw[(G j E).1,O j E,<-yT]
    rw[ao (f:=λt=>e0 t/Q s.L c c*A t j) (g:=λt=>1/Q s.L c c*(e0 t*A t j)) (λt _=>by grind),dv];grind
   intro i hi
   by_cases e:i=c
   · subst e;exact⟨_,hc'⟩
   · obtain⟨e1,H⟩:=hp.top i J
     refine⟨λt=>(if t<c then e1 t else 0)-Q s.L i c*(if t<c then e0 t/Q s.L c c else 1/Q s.L c c),λj E=>?_⟩
     rw[(G j E).2 i J e,H j E,hc' j E]
     rw[ao (n:=c+1) (f:=λt=>((if t<c then e1 t else 0)-Q s.L i c*(if t<c then e0 t/Q s.L c c else 1/Q s.L c c))*A t j) (g:=λt=>(if t<c then e1 t else 0)*A t j-Q s.L i c*((if t<c then e0 t/Q s.L c c else 1/Q s.L c c)*A t j)) (λt _=>by grind),lM,dv,<-yT (e:=e1) (k:=0) (f:=λt=>A t j)];grind
 · have hc':∀j,j<n->Q s'.L c j=sm (c+1) (λt=>(if t<c then e0 t/Q s.L c c else 1/Q s.L c c)*A t j):=λj E=>by
    rw[(G j E).1,O j E,<-yT]
    rw[ao (f:=λt=>e0 t/Q s.L c c*A t j) (g:=λt=>1/Q s.L c c*(e0 t*A t j)) (λt _=>by grind),dv];grind
   intro i hi W
   obtain⟨e1,H⟩:=hp.low i J W
   refine⟨λt=>(if t<c then e1 t else 0)-Q s.L i c*(if t<c then e0 t/Q s.L c c else 1/Q s.L c c),λj E=>?_⟩
   rw[(G j E).2 i W J,H j E,hc' j E]
   rw[ao (n:=c+1) (f:=λt=>((if t<c then e1 t else 0)-Q s.L i c*(if t<c then e0 t/Q s.L c c else 1/Q s.L c c))*A t j) (g:=λt=>(if t<c then e1 t else 0)*A t j-Q s.L i c*((if t<c then e0 t/Q s.L c c else 1/Q s.L c c)*A t j)) (λt _=>by grind),lM,dv,<-yT (e:=e1) (k:=0) (f:=λt=>A t j)];grind
def X9.of {R M a0 b0 s0 r m:Nat}(h:UR R M V a0 b0 s0=true)(hV:1<=V)(hr:r<R)(hM:m<=M):X9 r m V (gA a0) (gB a0 b0) (gS a0 s0):=by
 have h1:=List.all_eq_true.1 h r (List.mem_range.2 hr)
 simp only[Bool.and_eq_true,Bool.or_eq_true,Nat.blt_eq,Nat.ble_eq]at h1
 exact⟨hV,qa0 _,qa0 _,qa0 _,h1.1,λ_=>by
  rcases h1.2 with h5|h5
  · omega
  · exact h5⟩
def UV {d:R}(h:bN d=true):0<qv d↔¬qN (ai d.1)<=0:=by
 unfold qN
 rw[dh]
 have E:=c7 h
 have hd:(0:Rat)<(ai d.2:Rat):=by rw[<-Rat.intCast_zero];exact Rat.intCast_lt_intCast.2 E
 have hq:(ai d.1:Rat)=qv d*(ai d.2:Rat):=by have:=hH h;unfold qv;grind
 constructor
 · intro h1 h2
   have h3:=Rat.mul_pos h1 hd
   rw[<-hq,<-Rat.intCast_zero]at h3
   have:=Rat.intCast_lt_intCast.1 h3
   omega
 · intro h1
   have h2:(0:Rat)<(ai d.1:Rat):=by rw[<-Rat.intCast_zero];exact Rat.intCast_lt_intCast.2 J
   rw[hq]at h2
   refine Rat.not_le.1 λ_=>?_
   have h4:=Rat.mul_nonneg (show 0<=- qv d by grind) (Rat.le_of_lt hd)
   grind
def By {L:Rows}{n:Nat}:∀(f k:Nat),k+f=n->(∀j,k<=j->j<n->∃d,kU (j+1) (λi=>(L i).take (j+1))=some d/\bN d=true/\0<qv d)->nl L f k=some true
 |0,_,_,_=>rfl
 | f+1,k,hk,h=>by
   obtain⟨d,h1,h2,h3⟩:=h k (qa0 k) J
   rw[nl,h1]
   dsimp only
   rw[if_neg ((UV h2).1 h3)]
   exact By f (k+1) J λj h1 h2=>h j J h2
def Bz {l:List R}(h:j<k):ap (l.take k) j=ap l j:=by unfold ap;rw[List.getD,List.getD,List.getElem?_take_of_lt h]
def P8 {L:Rows}(ok:gk n n L)(hk:k<=n):gk k k (λi=>(L i).take k):=λi hi=>⟨by rw[List.length_take,(ok i J).1];omega,λj E=>by rw[Bz E];exact(ok i J).2 j J⟩
def ME {L:Rows}(hj:j<k):Q (λi=>(L i).take k) i j=Q L i j:=by unfold Q;rw[Bz hj]
def P9 {R:Nat}{L:Rows}(hn:1<=n)(hn8:n<=8)(hR:n<=R)(ok:gk n n L)(hr:YB n n L N D)(hN:1<=N)(hD:1<=D)(hg:UR R R 1 N N D=true)(hp:pB N D R=true):
 ∃d r,kU n L=some d/\bN d=true/\qv d=det n (Q L)/\pL n L=some r/\Rk n n r (Q L)/\(det n (Q L)=0↔r<n)/\∀X,det n (La.mul n (Q L) X)=det n (Q L)*det n X:=
 P7 hn hn8 ok hr (Gr.of hg Vc hN hD (.inl hR) hR) (λk hk=>(My hp J).1) (λk hk=>(My hp J).2)
def Ya {R:Nat}{L:Rows}{t:Int}(hn8:n<=8)(hk:k<n)(hkR:k+1<=R)(ok:gk n n L)(hr:q7 n n L N t)(ht:t≠0)(htD:t.natAbs<=D)(hN:1<=N)(hD:1<=D)(hg:UR R R 1 N N D=true)(hp:pB N D R=true):
 ∃d,kU (k+1) (λi=>(L i).take (k+1))=some d/\bN d=true/\qv d=det (k+1) (Q L):=by
 obtain⟨k3,hU⟩:=hr
 obtain⟨d,_,h1,h2,h3,_⟩:=P9 (n:=k+1) J J hkR (P8 ok J) ⟨k3,λ_=>t,λi _=>⟨ht,htD,λj E=>by rw[ME E];exact hU i J j J⟩⟩ hN hD hg hp
 exact⟨d,h1,h2,by rw[h3];exact fk λi _ j E=>ME E⟩
def BA {t0:Int}{A B:Rows}(ht0:t0≠0)(hA:q7 n n A N0 t0)(h:jg n n (La.mul n (Q A) (Q B)) one)(hd:det n (Q A)≠0)(hb:∀i,i<n->Bo n*pN (λc=>if c=i then t0.natAbs else N0) n<=N1):∃z:Int,z≠0/\z.natAbs<=Bo n*N0^n/\q7 n n B N1 z:=by
 obtain⟨k3,hU⟩:=hA
 obtain⟨z,h1,h2⟩:=Bu (N:=λ_=>N0) ht0 hU
 rw[Bp]at h2
 have G:z≠0:=λe=>hd (by rw[h1,e];simp;grind)
 have A1:=dU (F2 ht0 n)
 have A2:=dU G
 have A0:=dU ht0
 refine⟨z,G,h2,q7.mk λi hi j H=>?_⟩
 obtain⟨y,W,O⟩:=Bu (A:=uc (Q A) i (λk=>one k j)) (k3:=λk c=>if c=i then(if k=j then t0 else 0)else k3 k c) (N:=λc=>if c=i then t0.natAbs else N0) ht0 (λk hk c hc=>by
  unfold uc
  by_cases e:c=i
  · simp only[if_pos e]
    unfold one
    by_cases e2:k=j
    · rw[if_pos e2,if_pos e2];exact⟨by grind,qa0 _⟩
    · rw[if_neg e2,if_neg e2];exact⟨by simp;grind,by simp⟩
  · simp only[if_neg e];exact hU k hk c hc)
 have E:=Mv (A:=Q A) (b:=λk=>one k j) (x:=λk=>Q B k j) (λk hk=>(h k hk j H).symm) hi
 refine⟨y,?_,qa8 O (hb i hi)⟩
 rw[W,h1]at E
 have:Q B i j*(z:Rat)=(y:Rat):=by
  have h3:(y:Rat)=Q B i j*((z:Rat)/((t0^n:Int):Rat))*((t0^n:Int):Rat):=by rw[<-E];grind
  rw[h3];grind
 rw[<-this];grind
end Go.Proofs.YtlmihmlnpjkblaaGreatDoor
namespace La
def ZN {m n:Nat}{W A:Mx}{v:Nat->Rat}:qf n (mul m (mul m (tr A) W) A) v=qf m W (λi=>sm n (λj=>A i j*v j)):=by
 let V:Mx:=λj _=>v j
 have h1:qf n (mul m (mul m (tr A) W) A) v=mul n (tr V) (mul n (mul m (mul m (tr A) W) A) V) 0 0:=rfl
 rw[h1]
 rw[show mul n (tr V) (mul n (mul m (mul m (tr A) W) A) V) 0 0=mul n (tr V) (mul m (tr A) (mul m W (mul n A V))) 0 0 from ao λi _=>by
  rw[mul_assoc m n (mul m (tr A) W) A V,mul_assoc m m (tr A) W (mul n A V)]]
 rw[<-mul_assoc n m (tr V) (tr A) (mul m W (mul n A V))]
 exact ao λi _=>by
  show mul n (tr V) (tr A) 0 i*_=_
  rw[<-yz n A V 0 i]
  rfl
def PD.gramW {m n:Nat}{W A:Mx}(hW:PD m W)(h:Rk m n n A):PD n (mul m (mul m (tr A) W) A):=by
 intro v ⟨j,E,hv⟩
 rw[ZN]
 refine hW _ ?_
 exact qb6 λG=>hv (h.inj (λi hi=>qb6 λh1=>G ⟨i,hi,h1⟩) j E)
def F4 {n m r:Nat}{A:Mx}(h:Rk n m r A)(hr:r<m):∃v:Nat->Rat,(∃j,j<m/\v j≠0)/\∀i,i<n->sm m (λj=>A i j*v j)=0:=by
 obtain⟨C,F,CL,FR,h⟩:=h
 obtain⟨v,hv,G⟩:=ker r m F hr
 refine⟨v,hv,λi hi=>?_⟩
 let Vm:Mx:=λj _=>v j
 rw[ao (n:=m) (g:=λj=>mul r C F i j*v j) λj E=>by rw[h.eq i hi j E]]
 have:sm m (λj=>mul r C F i j*v j)=mul r C (mul m F Vm) i 0:=by rw[<-mul_assoc];rfl
 rw[this]
 exact dN λl hl=>by
  show C i l*mul m F Vm l 0=0
  have h2:mul m F Vm l 0=0:=G l hl
  rw[h2];grind
def PD.nn {n:Nat}{A:Mx}(h:PD n A)(v:Nat->Rat):0<=qf n A v:=by
 by_cases e:∃j,j<n/\v j≠0
 · exact Rat.le_of_lt (h v e)
 · have:qf n A v=0:=dN λi hi=>by
    have:v i=0:=qb6 λh1=>e ⟨i,hi,h1⟩
    rw[this];grind
   rw[this];exact Rat.le_refl
def normal {m n:Nat}{B L C:Mx}{y x r:Nat->Rat}(hGC:jg n n (mul n (mul m B L) C) one)(hx:∀k,k<n->x k=sm n (λl=>C k l*sm m (λi=>B l i*y i)))(hr:∀i,i<m->r i=y i-sm n (λk=>L i k*x k)):∀k,k<n->sm m (λi=>B k i*r i)=0:=by
 intro k hk
 let d:Mx:=λl _=>sm m (λi=>B l i*y i)
 have h1:sm m (λi=>B k i*r i)=sm m (λi=>B k i*y i)-sm m (λi=>B k i*sm n (λl=>L i l*x l)):=by
  rw[<-lM];exact ao λi hi=>by rw[hr i hi];grind
 have h2:sm m (λi=>B k i*sm n (λl=>L i l*x l))=mul n (mul m B L) (mul n C d) k 0:=by
  rw[mul_assoc]
  exact ao λi _=>by
   show _=B k i*sm n (λl=>L i l*mul n C d l 0)
   rw[ao (n:=n) (f:=λl=>L i l*x l) λl hl=>by rw[hx l hl]]
   rfl
 rw[h1,h2,<-mul_assoc n n (mul m B L) C d]
 rw[show mul n (mul n (mul m B L) C) d k 0=mul n one d k 0 from ao λl hl=>by rw[hGC k hk l hl],one_mul hk]
 show sm m (λi=>B k i*y i)-sm m (λi=>B k i*y i)=0
 grind
def least {m n:Nat}{W L:Mx}{y x x' r r':Nat->Rat}(hs:∀i,i<m->∀j,j<m->W i j=W j i)(hW:PD m W)(ne:∀k,k<n->sm m (λi=>mul m (tr L) W k i*r i)=0)(hr:∀i,i<m->r i=y i-sm n (λk=>L i k*x k))(hr':∀i,i<m->r' i=y i-sm n (λk=>L i k*x' k)):qf m W r<=qf m W r':=by
 let u:Nat->Rat:=λi=>sm n (λk=>L i k*(x k-x' k))
 have hu:∀i,i<m->r' i=r i+u i:=λi hi=>by
  rw[hr' i hi,hr i hi]
  show _=_+sm n (λk=>L i k*(x k-x' k))
  rw[ao (n:=n) (f:=λk=>L i k*(x k-x' k)) (g:=λk=>L i k*x k-L i k*x' k) λk _=>by grind,lM]
  grind
 have hc:sm m (λi=>u i*sm m (λj=>W i j*r j))=0:=by
  have h1:sm m (λi=>u i*sm m (λj=>W i j*r j))=sm n (λk=>(x k-x' k)*sm m (λi=>mul m (tr L) W k i*r i)):=by
   have h2:∀k,sm m (λi=>mul m (tr L) W k i*r i)=sm m (λi=>L i k*sm m (λj=>W i j*r j)):=λk=>by
    let Rm:Mx:=λj _=>r j
    have:=mul_assoc m m (tr L) W Rm k 0
    exact this
   rw[ao (n:=n) (g:=λk=>sm m (λi=>(x k-x' k)*(L i k*sm m (λj=>W i j*r j)))) λk _=>by rw[h2,dv],jB]
   exact ao λi _=>by
    show sm n (λk=>L i k*(x k-x' k))*_=_
    rw[<-nc];exact ao λk _=>by grind
  rw[h1];exact dN λk hk=>by rw[ne k hk];grind
 have G:sm m (λi=>r i*sm m (λj=>W i j*u j))=0:=by
  rw[<-hc]
  rw[ao (n:=m) (f:=λi=>r i*sm m (λj=>W i j*u j)) (g:=λi=>sm m (λj=>r i*(W i j*u j))) λi _=>by rw[dv],jB]
  exact ao λj E=>by
   rw[<-dv];exact ao λi hi=>by rw[hs i hi j E];grind
 have hq:qf m W r'=qf m W r+(sm m (λi=>r i*sm m (λj=>W i j*u j))+sm m (λi=>u i*sm m (λj=>W i j*r j))+qf m W u):=by
  unfold qf
  rw[<-iH,<-iH,<-iH]
  exact ao λi hi=>by
   rw[ao (n:=m) (f:=λj=>W i j*r' j) (g:=λj=>W i j*r j+W i j*u j) λj E=>by rw[hu j E];grind,iH,hu i hi];grind
 have H:=hW.nn u
 rw[hq,hc,G];grind
end La
namespace Go.Proofs.YtlmihmlnpjkblaaGreatDoor
open Go Go.Eng Go.RowKit La Proofs.Tryz
variable {xs:List Int}{i j N n k lo:Nat}
section
def RB (n m:Nat)(L:Rows)(N D:Nat):Prop:=gk n m L/\∃t:Int,t≠0/\t.natAbs<=D/\q7 n m L N t
section
variable {m D N1 D1 N2 D2:Nat}{L B P:Rows}
def RB.mul (hn:1<=n/\n<=8)(hk:1<=k/\k<=8)(hm:1<=m/\m<=8)(hA:RB n k L N1 D1)(hB:RB k m B N2 D2)(h1:9*(N1*N2)*(D1*D2)<dZ)(h2:(D1*D2)*(D1*D2)<dZ)(hN:8*(N1*N2)<=N)(hD:D1*D2<=D):
 ∃K,dM n L k B=some K/\RB n m K N D/\jg n m (Q K) (La.mul k (Q L) (Q B)):=by
 obtain⟨okA,t,O,tD,rA⟩:=hA
 obtain⟨okB,u,H,uD,rB⟩:=hB
 have E:t.natAbs*u.natAbs<=D1*D2:=qb9 tD uD
 obtain⟨K,e,ok,hq,k3,hU⟩:=PZ hn.1 hn.2 hk.1 hk.2 hm.1 hm.2 okA okB rA rB O H
  (Nat.lt_of_le_of_lt (qb9 (Nat.mul_le_mul_right _ J) E) h1) (Nat.lt_of_le_of_lt (qb9 E E) h2)
 refine⟨K,e,⟨ok,t*u,Int.mul_ne_zero O H,?_,k3,λi hi j G=>⟨(hU i hi j G).1,?_⟩⟩,hq⟩
 · rw[Int.natAbs_mul];exact qa8 E hD
 · exact qa8 (hU i hi j G).2 (qa8 (Nat.mul_le_mul_right _ hk.2) hN)
def RB.tr (h:RB n m L N D):RB m n (λj=>l8 L n j) N D:=by
 obtain⟨ok,t,G,tD,k3,hU⟩:=h
 exact⟨λj E=>⟨pF _ _ _,λi hi=>by rw[uB _ _ hi];exact(ok i hi).2 j E⟩,t,G,tD,λi j=>k3 j i,λi hi j E=>by rw[US (m:=m) i j E];exact hU j E i hi⟩
def RB.mono (h:RB n m L N1 D1)(hN:N1<=N)(hD:D1<=D):RB n m L N D:=by
 obtain⟨ok,t,G,tD,k3,hU⟩:=h
 exact⟨ok,t,G,qa8 tD hD,k3,λi hi j E=>⟨(hU i hi j E).1,qa8 (hU i hi j E).2 hN⟩⟩
def RB.congr (h:RB n m L N D)(e:∀i,i<n->L i=B i):RB n m B N D:=by
 obtain⟨ok,t,G,tD,k3,hU⟩:=h
 exact⟨λi hi=>by rw[<-e i hi];exact ok i hi,t,G,tD,k3,λi hi j E=>by have:=hU i hi j E;unfold Q at this ⊢;rw[<-e i hi];exact this⟩
def RB.inv2 (hn:1<=n/\n<=2)(h:RB n n L N D)(hN:1<=N)(hD:1<=D)(hg:UR 2 4 1 N D D=true):
 ∃r,Rk n n r (Q L)/\((r<n/\eY n L=none)\/(r=n/\∃C,eY n L=some C/\gk n n C/\jg n n (La.mul n (Q C) (Q L)) one/\jg n n (La.mul n (Q L) (Q C)) one)):=by
 obtain⟨ok,t,E,tD,k3,hU⟩:=h
 exact F3 (N1:=N) (N2:=D) (D:=D) hn.1 J ok k3 (λ_=>t) (λ_ _=>⟨E,tD,tD⟩) hU (Gr.of hg Vc hN hD (.inl hn.2) J)
def RB.invR (hn:1<=n/\n<=2)(h:RB n n L N1 D1)(h1:1<=N1)(ok:gk n n B)(hi:jg n n (La.mul n (Q L) (Q B)) one)(hd:det n (Q L)≠0)(hN:2*(D1*N1)<=N)(hD:2*(N1*N1)<=D):RB n n B N D:=by
 obtain⟨_,t,E,tD,rL⟩:=h
 have hb:∀i,i<n->Bo n*pN (λc=>if c=i then t.natAbs else N1) n<=N:=λi hi=>by
  have a1:t.natAbs<=2*(D1*N1):=qa8 tD (by have:=Nat.mul_le_mul_left D1 h1;omega)
  have G:t.natAbs*N1<=D1*N1:=Nat.mul_le_mul_right _ tD
  have hc:n=1\/n=2:=J
  rcases hc with rfl|rfl
  · have:i=0:=J
    subst this
    simp only[Bo,pN,if_pos,Nat.mul_one,Nat.one_mul];omega
  · have:i=0\/i=1:=J
    rcases this with rfl|rfl
    · simp[Bo,pN];omega
    · simp[Bo,pN];rw[Nat.mul_comm N1];omega
 obtain⟨z,z0,z1,rB⟩:=BA E rL hi hd hb
 refine⟨ok,z,z0,qa8 z1 ?_,rB⟩
 have hc:n=1\/n=2:=J
 rcases hc with rfl|rfl
 · have:=Nat.mul_le_mul_left N1 h1
   simp only[Bo,Nat.pow_one,Nat.mul_one,Nat.one_mul];omega
 · simp only[Bo,Nat.pow_two];omega
def RB.bq (h:RB n m L N D)(hi:i<n)(hj:j<m):Bq (ap (L i) j) (Q L i j) N D:=by
 obtain⟨ok,t,E,tD,k3,hU⟩:=h
 have:=Bq.of ((ok i hi).2 j hj) E (hU i hi j hj).1 (hU i hi j hj).2 tD
 rwa [<-(hU i hi j hj).1]at this
def RB.sub {ys:List R}(hy:RB m 1 (cg ys) N1 D1)(hP:RB m 1 P N2 D2)(h1:N1*D2+N2*D1<dZ)(h2:D1*D2<dZ)(hN:N1*D2+N2*D1<=N)(hD:D1*D2<=D):
 (∀i,i<m->(dE (ap ys i) (ap (P i) 0)).isSome=true/\bN (vi P ys i)=true/\qv (vi P ys i)=qv (ap ys i)-Q P i 0)/\RB m 1 (cg ((List.range m).map (vi P ys))) N D:=by
 have key:∀i,i<m->(dE (ap ys i) (ap (P i) 0)).isSome=true/\bN (vi P ys i)=true/\qv (vi P ys i)=qv (ap ys i)-Q P i 0:=λi hi=>by
  obtain⟨q,e,ok,hq⟩:=uX (hy.bq hi (by decide:0<1)) (hP.bq hi (by decide:0<1)) h1 h2
  have e':dE (ap ys i) (ap (P i) 0)=some q:=e
  have e2:vi P ys i=q:=by unfold vi;rw[e'];rfl
  exact⟨by rw[e'];rfl,by rw[e2];exact ok,by rw[e2,hq];rfl⟩
 refine⟨key,?_⟩
 obtain⟨_,t,E,tD,k3,hU⟩:=hy
 obtain⟨_,u,G,uD,X,hX⟩:=hP
 refine⟨λi hi=>⟨rfl,λk _=>?_⟩,t*u,Int.mul_ne_zero E G,?_,λi _=>k3 i 0*u-X i 0*t,λi hi j _=>?_⟩
 · rw[show k=0 by omega]
   show bN (ap ((List.range m).map (vi P ys)) i)=true
   rw[ic hi];exact(key i hi).2.1
 · rw[Int.natAbs_mul];exact qa8 (qb9 tD uD) hD
 · have H:j=0:=J
   subst H
   have a:=hU i hi 0 Vc
   have b:=hX i hi 0 Vc
   have q1:=dU E
   have O:=dU G
   constructor
   · show qv (ap ((List.range m).map (vi P ys)) i)=_
     rw[ic hi,(key i hi).2.2,b.1]
     have a1:qv (ap ys i)=(k3 i 0:Rat)/(t:Rat):=a.1
     rw[a1];simp only[Rat.intCast_sub,Rat.intCast_mul];grind
   · show(k3 i 0*u-X i 0*t).natAbs<=N
     have c1:(k3 i 0*u).natAbs<=N1*D2:=by rw[Int.natAbs_mul];exact qb9 a.2 uD
     have c2:(X i 0*t).natAbs<=N2*D1:=by rw[Int.natAbs_mul];exact qb9 b.2 tD
     omega
end
structure vY (m n:Nat)(L V:Rows)(ys:List R)(W:Rows):Prop where
 hm:1<=m/\m<=5
 hn:1<=n/\n<=2
 hnm:n<=m
 rL:RB m n L 3 1
 okV:gk m m V
 sV:∀i,i<m->∀j,j<m->Q V i j=Q V j i
 pd:PD m (Q V)
 hp:pR m V=some true
 eW:eY m V=some W
 WV:jg m m (La.mul m (Q W) (Q V)) one
 VW:jg m m (La.mul m (Q V) (Q W)) one
 rW:RB m m W 2250000 11250000
 yl:ys.length=m
 rY:RB m 1 (cg ys) 240 4
section
variable {m:Nat}{L V W:Rows}{ys:List R}
def vY.ok (h:vY m n L V ys W):qi L V ys:=by
 obtain⟨h1,h2⟩:=nI h.hm.1 (by have:=h.hm.2;omega) h.hn.1 (by have:=h.hn.2;omega) h.rL.1
 obtain⟨h3,h4⟩:=nI h.hm.1 (by have:=h.hm.2;omega) h.hm.1 (by have:=h.hm.2;omega) h.okV
 have hl:=h.yl
 refine⟨by rw[hl];exact h1,by rw[hl];exact h3,by rw[hl];exact h4,by rw[hl,h2];exact h.hnm,?_,by rw[hl];exact h.hp⟩
 rw[List.all_eq_true]
 intro q hq
 obtain⟨i,hi,rfl⟩:=List.getElem_of_mem hq
 have:=(h.rY.1 i J).2 0 Vc
 have E:ap ys i=ys[i]:=eu hi
 rw[<-E];exact this
def vY.pdW (h:vY m n L V ys W):PD m (Q W):=h.pd.inv h.VW
def vY.fW (h:vY m n L V ys W):PV m V=W:=by unfold PV;rw[h.eW];rfl
structure MF (m n:Nat)(L V:Rows)(ys:List R)(W:Rows):Prop where
 fxl:(qm m n L V ys).length=n
 fxX:∀i,i<n->cg (qm m n L V ys) i=PW m n L V ys i
 rX:RB n 1 (PW m n L V ys) 24186470400000000000000000000 151165440000000000000000000
 rl:(nu m n L V ys).length=m
 rR:RB m 1 (cg (nu m n L V ys)) 2358180864000000000000000000000 604661760000000000000000000
 rv:∀i,i<m->qv (ap (nu m n L V ys) i)=qv (ap ys i)-sm n (λk=>Q L i k*qv (ap (qm m n L V ys) k))
 xv:∀k,k<n->qv (ap (qm m n L V ys) k)=sm n (λl=>Q (sd m n L V) k l*sm m (λi=>Q (vh m n L V) l i*qv (ap ys i)))
 bv:jg n m (Q (vh m n L V)) (La.mul m (tr (Q L)) (Q W))
 ne:∀k,k<n->sm m (λi=>Q (vh m n L V) k i*qv (ap (nu m n L V ys) i))=0
 rC:RB n n (sd m n L V) 29160000000000000 3359232000000000000
 CG:jg n n (La.mul n (Q (sd m n L V)) (Q (FO m n L V))) one
 GC:jg n n (La.mul n (Q (FO m n L V)) (Q (sd m n L V))) one
 gv:jg n n (Q (FO m n L V)) (La.mul m (Q (vh m n L V)) (Q L))
 okS:gk 1 1 (BL m n L V ys)
 sv:Q (BL m n L V ys) 0 0=qf m (Q W) (λi=>qv (ap (nu m n L V ys) i))
end
section
variable {m:Nat}{L V W:Rows}{ys:List R}
def MG {m:Nat}{L:Rows}(hm:1<=m/\m<=5)(hn:1<=n/\n<=5)(h:RB m n L N 1)(hN:1<=N)(hg:UR 5 5 1 N N 1=true):∃r,pL m L=some r/\Rk m n r (Q L):=by
 obtain⟨ok,t,E,_,rL⟩:=h
 have e:t.natAbs=1:=J
 have hr:=rL.rep E
 rw[e]at hr
 exact Mr hm.1 J hn.1 J ok hr (Gr.of hg Vc hN Vc (.inl hm.2) hn.2)
def F5 (h:vY m n L V ys W):∃r,pL m L=some r/\r<=n/\Rk m n r (Q L)/\dM n (λj=>l8 L m j) m W=some (vh m n L V)/\dM n (vh m n L V) m L=some (FO m n L V)/\
 ((r<n/\eY n (FO m n L V)=none)\/(r=n/\DD m n L V ys=true/\MF m n L V ys W)):=by
 have H:1<=m/\m<=8:=⟨h.hm.1,by have:=h.hm.2;omega⟩
 have A0:1<=n/\n<=8:=⟨h.hn.1,by have:=h.hn.2;omega⟩
 have O:1<=1/\1<=8:=by decide
 obtain⟨r,Ao,hr⟩:=MG h.hm ⟨h.hn.1,by have:=h.hn.2;omega⟩ h.rL Vc MT
 obtain⟨B,eB,rB,vB⟩:=RB.mul (N:=54000000) (D:=11250000) A0 H H h.rL.tr h.rW MT MT Vc Vc
 have fB:vh m n L V=B:=by unfold vh;rw[h.fW,eB];rfl
 obtain⟨G,eG,rG,vG⟩:=RB.mul (N:=1296000000) (D:=11250000) A0 H A0 rB h.rL MT MT Vc Vc
 have fG:FO m n L V=G:=by unfold FO;rw[fB,eG];rfl
 have bW:jg n m (Q B) (La.mul m (tr (Q L)) (Q W)):=λi hi j E=>by
  rw[vB i hi j E];exact ao λk hk=>by rw[US (m:=n) i k hk]
 have gW:jg n n (La.mul m (La.mul m (tr (Q L)) (Q W)) (Q L)) (Q G):=λi hi j E=>by
  rw[vG i hi j E];exact ao λk hk=>by rw[bW i hi k hk]
 refine⟨r,Ao,hr.le_m,hr,by rw[fB];exact eB,by rw[fB,fG];exact eG,?_⟩
 obtain⟨rg,A1,hs⟩:=RB.inv2 h.hn rG Vc Vc MT
 rcases hs with⟨h1,h2⟩|⟨h1,C,eC,okC,CG,GC⟩
 · left
   refine⟨?_,by rw[fG];exact h2⟩
   refine Nat.lt_of_le_of_ne hr.le_m λe=>?_
   subst e
   have pG:PD r (Q G):=(h.pdW.gramW hr).congr gW
   have:rg<=r:=A1.le_n
   have Aw:=A1
   obtain⟨v,⟨j,E,hv⟩,Ap⟩:=F4 A1 h1
   have h3:=pG v ⟨j,E,hv⟩
   have h4:qf r (Q G) v=0:=dN λi hi=>by rw[Ap i hi];grind
   rw[h4]at h3;grind
 · right
   have Am:r=n:=by
    have h3:rg<=r:=hr.mul_r (FZ A1 (λi hi j E=>by rw[vG i hi j E]))
    have:=hr.le_m
    omega
   have hrL:Rk m n n (Q L):=by rw[<-Am]at hr ⊢;exact hr
   have pG:PD n (Q G):=(h.pdW.gramW hrL).congr gW
   have Ar:det n (Q G)≠0:=λe=>by have:=pG.det_pos;rw[e]at this;grind
   have rC:RB n n C 29160000000000000 3359232000000000000:=RB.invR h.hn rG Vc okC GC Ar Vc Vc
   have fC:sd m n L V=C:=by unfold sd;rw[fG,eC];rfl
   obtain⟨D,eD,rD,vD⟩:=RB.mul (N:=103680000000) (D:=45000000) A0 H O rB h.rY MT MT Vc Vc
   have fD:X5 m n L V ys=D:=by unfold X5;rw[fB,eD];rfl
   obtain⟨X,eX,rX,vX⟩:=RB.mul (N:=24186470400000000000000000000) (D:=151165440000000000000000000) A0 A0 O rC rD MT MT Vc Vc
   have fX:PW m n L V ys=X:=by unfold PW;rw[fC,fD,eX];rfl
   obtain⟨P,eP,rP,vP⟩:=RB.mul (N:=580475289600000000000000000000) (D:=151165440000000000000000000) H A0 O h.rL rX MT MT Vc Vc
   have fP:Ru m n L V ys=P:=by unfold Ru;rw[fX,eP];rfl
   obtain⟨key,rR⟩:=RB.sub (N:=2358180864000000000000000000000) (D:=604661760000000000000000000) h.rY rP MT MT Vc Vc
   have fR:nu m n L V ys=(List.range m).map (vi P ys):=by unfold nu;rw[fP]
   have rl:(nu m n L V ys).length=m:=by simp[nu]
   rw[<-fR]at rR
   obtain⟨Av,_⟩:=nI H.1 H.2 O.1 O.2 rR.1
   obtain⟨Q9,eQ,rQ,vQ⟩:=RB.mul (N:=42447255552000000000000000000000000000) (D:=6802444800000000000000000000000000) O H H rR.tr h.rW MT MT Vc Vc
   have fQ:X6 m n L V ys=Q9:=by unfold X6;rw[h.fW,eQ];rfl
   obtain⟨S9,eS,rS,vS⟩:=RB.mul (N:=800786446176353255424000000000000000000000000000000000000000000000000) (D:=4113178245070848000000000000000000000000000000000000000000000) O H O rQ rR MT MT Vc Vc
   have fS:BL m n L V ys=S9:=by unfold BL;rw[fQ,eS];rfl
   have As:(qm m n L V ys).length=n:=by simp[qm]
   have A2:∀k,k<n->ap (qm m n L V ys) k=ap (X k) 0:=λk hk=>by rw[qm,ic hk,fX]
   refine⟨Am,?_,?_⟩
   · unfold DD
     rw[h.eW,h.fW,eB,fB,eG,fG,eC,eD,fC,fD,eX,fX,eP,fP,Av,eQ,fQ,eS,fS]
     simp only[Option.isSome_some,Bool.true_and,Bool.and_true,Bool.and_eq_true,List.all_eq_true,List.mem_range,decide_eq_true_eq]
     refine⟨⟨λi hi=>⟨by rw[(rP.1 i hi).1];decide,(key i hi).1⟩,λi hi=>by rw[(rX.1 i hi).1];decide⟩,by rw[(rS.1 0 Vc).1];decide⟩
   · have Af:∀i,i<m->qv (ap (nu m n L V ys) i)=qv (ap ys i)-sm n (λk=>Q L i k*qv (ap (qm m n L V ys) k)):=λi hi=>by
      rw[fR,ic hi,(key i hi).2.2,vP i hi 0 Vc]
      congr 1
      exact ao λk hk=>by rw[A2 k hk];rfl
     have Ab:∀k,k<n->qv (ap (qm m n L V ys) k)=sm n (λl=>Q C k l*sm m (λi=>Q B l i*qv (ap ys i))):=λk hk=>by
      rw[A2 k hk]
      show Q X k 0=_
      rw[vX k hk 0 Vc]
      exact ao λl hl=>by rw[vD l hl 0 Vc];rfl
     refine⟨As,λi hi=>?_,by rw[fX];exact rX,rl,rR,Af,by rw[fC,fB];exact Ab,by rw[fB];exact bW,?_,by rw[fC];exact rC,by rw[fC,fG];exact CG,by rw[fC,fG];exact GC,by rw[fB,fG];exact vG,by rw[fS];exact rS.1,?_⟩
     · rw[fX]
       exact vk (m:=1) Z (rX.1 i hi).1 λk hk=>by rw[show k=0 by omega];exact A2 i hi
     · rw[fB]
       exact normal (C:=Q C) (L:=Q L) (y:=λi=>qv (ap ys i)) (x:=λk=>qv (ap (qm m n L V ys) k)) (λi hi j E=>by rw[<-GC i hi j E];exact ao λk hk=>by rw[vG i hi k hk]) Ab Af
     · rw[fS,vS 0 Vc 0 Vc]
       have Aq:∀j,j<m->Q Q9 0 j=sm m (λi=>qv (ap (nu m n L V ys) i)*Q W i j):=λj E=>by
        rw[vQ 0 Vc j E]
        exact ao λi hi=>by rw[US (m:=1) 0 i hi];rfl
       show sm m (λj=>Q Q9 0 j*Q (cg (nu m n L V ys)) j 0)=_
       rw[ao (n:=m) (g:=λj=>sm m (λi=>qv (ap (nu m n L V ys) i)*(Q W i j*qv (ap (nu m n L V ys) j)))) λj E=>by
        rw[Aq j E]
        show _*qv (ap (nu m n L V ys) j)=_
        rw[<-nc];exact ao λi _=>by grind]
       rw[jB]
       exact ao λi _=>by rw[dv]
end
def qg {a b:Int}(ha:-1000<=a/\a<=1000)(hb:1<=b/\b<=1000):bN (bM a b)=true/\qv (bM a b)=(a:Rat)/(b:Rat):=by
 have G:=iI ha
 have H:=iI (a:=b) J
 have E:b≠0:=J
 have e:=Rv G H E
 refine⟨UA ha J E,?_⟩
 have e2:bM a b=qR a b:=FP ha J E
 rw[e2]
 exact uW E (sW E)
def UW:∀n:Fin 6,∀i:Fin 6,i.val<n.val->Bo n.val*pN (λc=>if c=i.val then 1 else 5) n.val<=75000:=by decide +kernel
def UX:∀n:Fin 6,Bo n.val*5^n.val<=375000:=by decide +kernel
def F6 {m:Nat}{V:Rows}(hm:1<=m/\m<=5)(rV:RB m m V 5 1)(sV:∀i,i<m->∀j,j<m->Q V i j=Q V j i)(pd:PD m (Q V)):
 pR m V=some true/\∃W,eY m V=some W/\jg m m (La.mul m (Q W) (Q V)) one/\jg m m (La.mul m (Q V) (Q W)) one/\RB m m W 75000 375000:=by
 obtain⟨ok,t,G,tD,H⟩:=rV
 have ht:t.natAbs=1:=J
 obtain⟨hv,hl⟩:=nI hm.1 J hm.1 J ok
 have A0:M7 m V:=λi hi k _=>uT ((ok i hi).2 k J) ((ok k J).2 i hi) (sV i hi k J)
 constructor
 · unfold pR
   rw[if_pos (Dp hv hl.symm),if_pos A0]
   exact By (n:=m) m 0 (Nat.zero_add m) λj _ E=>by
    obtain⟨d,h1,h2,h3⟩:=Ya (R:=5) (D:=1) J E J ok H G tD Vc Vc MT MT
    exact⟨d,h1,h2,by rw[h3];exact(pd.lead J).det_pos⟩
 · obtain⟨k3,hU⟩:=H
   obtain⟨r,hr,hs⟩:=F3 (N1:=5) (N2:=1) (D:=1) hm.1 J ok k3 (λ_=>t) (λ_ _=>⟨G,tD,tD⟩) hU (Gr.of (by decide +kernel:UR 5 10 1 5 1 1=true) Vc Vc Vc (.inl hm.2) J)
   rcases hs with⟨h1,_⟩|⟨_,W,eW,okW,WV,VW⟩
   · obtain⟨v,⟨j,E,hv⟩,O⟩:=F4 hr h1
     have h3:=pd v ⟨j,E,hv⟩
     have h4:qf m (Q V) v=0:=dN λi hi=>by rw[O i hi];grind
     rw[h4]at h3;grind
   · have hd:det m (Q V)≠0:=λe=>by have:=pd.det_pos;rw[e]at this;grind
     obtain⟨z,z0,z1,rW⟩:=BA (N1:=75000) G ⟨k3,hU⟩ VW hd (λi hi=>by rw[ht];exact UW ⟨m,by omega⟩ ⟨i,by omega⟩ hi)
     exact⟨W,eW,WV,VW,okW,z,z0,qa8 z1 (UX ⟨m,by omega⟩),rW⟩
def RB.int {m:Nat}{L:Rows}(hl:∀i,i<n->(L i).length=m)(z:Nat->Nat->Int)(h:∀i,i<n->∀j,j<m->(-1000<=z i j/\z i j<=1000)/\(z i j).natAbs<=N/\ap (L i) j=bM (z i j) 1):RB n m L N 1:=by
 refine⟨λi hi=>⟨hl i hi,λk hk=>?_⟩,1,by decide,by decide,z,λi hi j E=>⟨?_,(h i hi j E).2.1⟩⟩
 · rw[(h i hi k hk).2.2];exact(qg (h i hi k hk).1 Vc).1
 · unfold Q;rw[(h i hi j E).2.2];exact(qg (h i hi j E).1 Vc).2
def UY:z0=bM 0 1:=by decide +kernel
def si (xs:List Int)(i k:Nat):Int:=if i=k then 2+bL (kD xs (5*i+1)) 4 else if i+k=1 then bL (kD xs 2) 3-1 else 0
def UZ :Bj xs i k=bM (si xs i k) 1:=by
 unfold Bj si;split
 · rfl
 · split
   · rfl
   · exact UY
def F7 {xs:List Int}{i k:Nat}:(-1<=si xs i k/\si xs i k<=5):=by
 unfold si
 have h1:=dY (kD xs (5*i+1)) 4 Vc
 have h2:=dY (kD xs 2) 3 Vc
 split
 · omega
 · split <;>omega
def F8 {m:Nat}(hk:k<m):ap (fA xs m i) k=bM (si xs i k) 1:=by rw[fA,ic hk,UZ]
def yU {m:Nat}:RB m m (fA xs m) 5 1:=RB.int (λi _=>by simp[fA]) (si xs) λi _ j E=>by
 have:=@F7 xs i j
 exact⟨by omega,by omega,F8 E⟩
def DJ {m:Nat}(hk:k<m):Q (fA xs m) i k=(si xs i k:Rat):=by
 have h:=@F7 xs i k
 show qv (ap (fA xs m i) k)=_
 rw[F8 hk,(qg J Vc).2];simp;grind
def MH :si xs i k=si xs k i:=by
 unfold si
 by_cases e:i=k
 · subst e;rfl
 · rw[if_neg e,if_neg (show¬k=i from λh=>e h.symm),Nat.add_comm i k]
def BB {m:Nat}:∀i,i<m->∀j,j<m->Q (fA xs m) i j=Q (fA xs m) j i:=λi hi j E=>by rw[DJ E,DJ hi,MH]
def BC {m:Nat}:RB m n (eH xs n) 3 1:=RB.int (λi _=>by simp[eH]) (λi k=>bL (kD xs (7*i+k)) 7-3) λi _ j E=>by
 have:=dY (kD xs (7*i+j)) 7 Vc
 exact⟨by omega,by omega,by rw[eH,ic E];rfl⟩
def Yb {m:Nat}:RB m 1 (cg (yA xs m)) 20 2:=by
 have hb:∀i,-20<=bL (kD xs (3*i+2)) 41-20/\bL (kD xs (3*i+2)) 41-20<=20:=λi=>by have:=dY (kD xs (3*i+2)) 41 Vc;omega
 refine⟨λi hi=>⟨rfl,λk _=>?_⟩,2,by decide,by decide,λi _=>bL (kD xs (3*i+2)) 41-20,λi hi j _=>⟨?_,?_⟩⟩
 · rw[show k=0 by omega]
   show bN (ap (yA xs m) i)=true
   rw[yA,ic hi];exact(qg (by have:=hb i;omega) Vc).1
 · rw[show j=0 by omega]
   show qv (ap (yA xs m) i)=_
   rw[yA,ic hi];exact(qg (by have:=hb i;omega) Vc).2
 · have:=hb i;show(bL (kD xs (3*i+2)) 41-20).natAbs<=20;omega
def U0 {m:Nat}(hm:m<=5){d:Nat->Rat}{c:Rat}{A:Mx}(hd:∀i,2<=d i)(hc:c=-1\/c=0\/c=1)(h:∀i,i<m->∀j,j<m->A i j=if i=j then d i else if i+j=1 then c else 0):PD m A:=by
 intro v hv
 have hq:qf m A v=qf m (λi j=>if i=j then d i else if i+j=1 then c else 0) v:=Bw h
 have key:sm m (λi=>v i*v i)<=qf m A v:=by
  rw[hq]
  have g:∀i,0<=(d i-2)*(v i*v i):=λi=>Rat.mul_nonneg (by have:=hd i;grind) (nJ _)
  have A0:=g 0
  have A1:=g 1
  have H:=g 2
  have A2:=g 3
  have Ab:=g 4
  have O:=nJ (v 0)
  have Ao:=nJ (v 1)
  have Am:=nJ (v 2)
  have Af:=nJ (v 3)
  have Ap:=nJ (v 4)
  have p:=nJ (v 0+v 1)
  have q:=nJ (v 0-v 1)
  have hm':m=0\/m=1\/m=2\/m=3\/m=4\/m=5:=J
  rcases hm' with rfl|rfl|rfl|rfl|rfl|rfl <;>simp[qf,sm] <;>rcases hc with rfl|rfl|rfl <;>grind
 obtain⟨j,E,G⟩:=hv
 have:=MB (f:=λi=>v i*v i) (λ_ _=>nJ _) E (MD G)
 grind
def F9 {m:Nat}(hm:m<=5):PD m (Q (fA xs m)):=by
 refine U0 hm (d:=λi=>((2+bL (kD xs (5*i+1)) 4:Int):Rat)) (c:=((bL (kD xs 2) 3-1:Int):Rat)) (λi=>?_) ?_ λi _ j E=>?_
 · have h1:=dY (kD xs (5*i+1)) 4 Vc
   have:((2:Int):Rat)<=((2+bL (kD xs (5*i+1)) 4:Int):Rat):=Rat.intCast_le_intCast.2 J
   simpa using this
 · have h2:=dY (kD xs 2) 3 Vc
   have:bL (kD xs 2) 3=0\/bL (kD xs 2) 3=1\/bL (kD xs 2) 3=2:=J
   rcases this with e|e|e <;>rw[e]
   · left;decide
   · right;left;decide
   · right;right;decide
 · rw[DJ E]
   unfold si
   split
   · rfl
   · split <;>rfl
def MI {m:Nat}(hm:2<=m/\m<=5)(hn:1<=n/\n<=2):∃W,vY m n (eH xs n) (fA xs m) (yA xs m) W/\RB m m W 75000 375000:=by
 obtain⟨E,W,eW,WV,VW,rW⟩:=F6 (by omega:1<=m/\m<=5) yU (BB (xs:=xs)) (F9 hm.2)
 exact⟨W,⟨by omega,hn,by omega,BC,yU.1,BB,F9 hm.2,E,eW,WV,VW,rW.mono Vc Vc,Mg,Yb.mono Vc Vc⟩,rW⟩
end
section
attribute [local irreducible] wpListIn Code.wpIn Oper.wpIn Exit.then Exit.inBlock Exit.noGoto
set_option maxHeartbeats 40000000
def Qa (lo:Nat)(w:World)(v:Value)(k:Nat)(xs:List R)(C:Rows)(chi:R)(fr:Int):Prop:=∃A cp B D H,v=.agg #[.slice A k cp,.slice B k D,S chi.1,S chi.2,.int .i64 fr]/\k<=cp/\Rw w lo A (ag xs)/\k<=D/\Mt w lo B k H C
def mN.m {w:World}{v:Value}{xs:List R}{C:Rows}{chi:R}{fr:Int}(hl:xs.length=k)(h:mN lo w v k xs C chi fr):Qa lo w v k xs C chi fr:=by
 subst hl;exact h
end
section
section
variable {m:Nat}{L V W:Rows}{ys zs rs:List R}
def U2 (v:MF m n L V ys W):RB n 1 (cg (qm m n L V ys)) 24186470400000000000000000000 151165440000000000000000000:=v.rX.congr λi hi=>(v.fxX i hi).symm
end
end
end Go.Proofs.YtlmihmlnpjkblaaGreatDoor
namespace La
variable {n:Nat}{c:Rat}
def BD {m:Nat}{B L C:Mx}{y x x':Nat->Rat}(hCG:jg n n (mul n C (mul m B L)) one)(hx:∀k,k<n->sm m (λi=>B k i*(y i-sm n (λl=>L i l*x l)))=0)(hx':∀k,k<n->sm m (λi=>B k i*(y i-sm n (λl=>L i l*x' l)))=0):∀k,k<n->x k=x' k:=by
 let d:Mx:=λl _=>x l-x' l
 have h1:∀k,k<n->mul n (mul m B L) d k 0=0:=λk hk=>by
  rw[mul_assoc m n B L d k 0]
  show sm m (λi=>B k i*sm n (λl=>L i l*(x l-x' l)))=0
  have e:sm m (λi=>B k i*sm n (λl=>L i l*(x l-x' l)))=sm m (λi=>B k i*(y i-sm n (λl=>L i l*x' l)))-sm m (λi=>B k i*(y i-sm n (λl=>L i l*x l))):=by
   rw[<-lM]
   exact ao λi _=>by
    rw[ao (n:=n) (f:=λl=>L i l*(x l-x' l)) (g:=λl=>L i l*x l-L i l*x' l) λl _=>by grind,lM];grind
  rw[e,hx k hk,hx' k hk];grind
 intro k hk
 have h2:mul n (mul n C (mul m B L)) d k 0=0:=by
  rw[mul_assoc n n C (mul m B L) d k 0]
  exact dN λl hl=>by rw[h1 l hl];grind
 have h3:mul n (mul n C (mul m B L)) d k 0=d k 0:=by
  rw[show mul n (mul n C (mul m B L)) d k 0=mul n one d k 0 from ao λl hl=>by rw[hCG k hk l hl],one_mul hk]
 have E:x k-x' k=0:=h3.symm.trans h2
 grind
def MJ {A B:Mx}{v:Nat->Rat}(e:∀i,i<n->∀j,j<n->B i j=A i j*c):qf n B v=qf n A v*c:=by
 unfold qf
 rw[<-nc]
 exact ao λi hi=>by
  rw[ao (n:=n) (f:=λj=>B i j*v j) (g:=λj=>c*(A i j*v j)) λj E=>by rw[e i hi j E];grind,dv];grind
def PD.scale {A B:Mx}(hc:0<c)(h:PD n A)(e:∀i,i<n->∀j,j<n->B i j=A i j*c):PD n B:=λv hv=>by
 rw[MJ e];exact Rat.mul_pos (h v hv) hc
def HI {A B A' B':Mx}(hc:c≠0)(h1:jg n n (mul n B A) one)(h2:jg n n (mul n A B) one)(h3:jg n n (mul n B' A') one)(e:∀i,i<n->∀j,j<n->A' i j=A i j*c):
 ∀i,i<n->∀j,j<n->B' i j=B i j/c:=by
 have h4:jg n n (mul n (λi j=>B' i j*c) A) one:=λi hi j E=>by
  rw[<-h3 i hi j E]
  exact ao λl hl=>by rw[e l hl j E];grind
 intro i hi j E
 have G:B' i j*c=B i j:=Br h4 h1 h2 i hi j E
 rw[<-G];grind
end La
namespace Go.Proofs.YtlmihmlnpjkblaaGreatDoor
open Go Go.Eng Go.RowKit La Proofs.Tryz
section
variable {m n:Nat}{L V W V' W':Rows}{ys:List R}{c:Rat}
def MK {k:Nat}(v:MF m n L V ys W)(hk:k<n):bN (ap (qm m n L V ys) k)=true:=((U2 v).1 k hk).2 0 Vc
end
end Go.Proofs.YtlmihmlnpjkblaaGreatDoor
