/- Part of the proof of a statement about special functions. -/
import Derived.Test.YtgcfffdpcefifaaGreatDoorTqT1
import Derived.Test.YtgcfffdpcefifaaGreatDoorTqT2
import Derived.Test.YtgcfffdpcefifaaGreatDoorTqT3
import Derived.Test.YtgcfffdpcefifaaGreatDoorTqT4
import Derived.Test.YtgcfffdpcefifaaGreatDoorTqT5
set_option linter.all false
namespace Go.Proofs.YtgcfffdpcefifaaGreatDoor
open Go Go.Eng Go.RowKit Proofs.Tryz
variable {n m o k d p:Int}{l x y:List UInt8}{a b pl:Nat}
def H3 {n:Nat}(h1:1<=n)(h2:n<=499):∃t,BL n t=true:=by
 have g:∀{l:List (Nat×Nat×Nat×Nat)} {k c:Nat},l.length=c->si k l=true->k<=n->n<k+c->∃t,BL n t=true:=by
  intro l k c _ h a b
  obtain⟨t,ht⟩:=ug h (n-k) U
  exact⟨t,by rwa [Nat.add_sub_of_le a]at ht⟩
 rcases Nat.lt_or_ge n 101 with h|h
 · exact g (c:=100) VW LW U U
 rcases Nat.lt_or_ge n 201 with h|h
 · exact g (c:=100) VW LY U U
 rcases Nat.lt_or_ge n 301 with h|h
 · exact g (c:=100) VW L0 U U
 rcases Nat.lt_or_ge n 401 with h|h
 · exact g (c:=100) VW L3 U U
 · exact g (c:=99) VW L5 U U
def xa:fB (x7 100 0) 999999999999 2000000000000 1000000000001 2000000000000=true/\fB (xT BV 100 0) 999999999999 2000000000000 1000000000001 2000000000000=true:=by decide +kernel
def BM {p1 q1 p2 q2:Nat}(h:p2*q1=p1*q2+1)(hs:b<q1+q2):a*q1<=p1*b\/p2*b<=a*q2:=by
 rcases Nat.lt_or_ge (p1*b) (a*q1)with h1|h1
 · rcases Nat.lt_or_ge (a*q2) (p2*b)with h2|h2
   · exfalso
     have H:q2*(p1*b+1)<=q2*(a*q1):=Nat.mul_le_mul_left _ h1
     have E:q1*(a*q2+1)<=q1*(p2*b):=Nat.mul_le_mul_left _ h2
     have D:q2*(p1*b+1)=p1*q2*b+q2:=by grind
     have G:q1*(a*q2+1)=q2*(a*q1)+q1:=by grind
     have e3:q1*(p2*b)=p1*q2*b+b:=by
      have:q1*(p2*b)=p2*q1*b:=by grind
      rw[this,h,Nat.add_mul,Nat.one_mul]
     omega
   · exact Or.inr h2
 · exact Or.inl h1
def BN (h1:-499<=m)(h2:m<=499)(hb:0<b)(hb12:b<10^12)(hh:2*a≠b):∃u,pG (x7 100 m) a b 2 15=some u/\pG (xT BV 100 m) a b 2 15=some u:=by
 by_cases h0:m=0
 · subst h0
   have D:a*2000000000000<=999999999999*b\/1000000000001*b<=a*2000000000000:=J
   exact⟨_,mH xa.1 dc dc dc hb D,mH xa.2 dc dc dc hb D⟩
 · obtain⟨t,ht⟩:=H3 (n:=m.natAbs) U U
   simp only[BL,Bool.and_eq_true,decide_eq_true_eq]at ht
   obtain⟨t1,_,_,t4,t5,G,qx,H⟩:=ht
   generalize t.1=p1 at *;generalize t.2.1=q1 at *;generalize t.2.2.1=p2 at *;generalize t.2.2.2=q2 at *
   have E:0<q2:=by
    rcases Nat.eq_zero_or_pos q2 with h|h
    · subst h;have:p2=0:=J
      subst this;simp at t1
    · exact h
   rcases Int.lt_or_lt_of_ne h0 with hm|hm
   · have e:-((m.natAbs:Nat):Int)=m:=J
     rw[e]at qx H
     have d:(q1-p1)*q2=(q2-p2)*q1+1:=by
      rw[Nat.sub_mul,Nat.sub_mul]
      have W:p1*q2<=q1*q2:=Nat.mul_le_mul_right _ U
      have kk:p2*q1<=q2*q1:=Nat.mul_le_mul_right _ t4
      have O:q2*q1=q1*q2:=Nat.mul_comm _ _
      omega
     have D:=BM (a:=a) (b:=b) d U
     exact⟨_,mH qx E U U hb D,mH H E U U hb D⟩
   · have e:((m.natAbs:Nat):Int)=m:=J
     rw[e]at t5 G
     have D:=BM (a:=a) (b:=b) t1 U
     exact⟨_,mH t5 U E U hb D,mH G U E U hb D⟩
def sj {u1 u2:Int->Option Bool}{L H:Int}(h:∀m,L<m->m<H->∃u,u1 m=some u/\u2 m=some u):∀(f:Nat) (lo hi:Int),L<=lo->hi<=H->hi-lo<=((2^f:Nat):Int)->∃r,sl u1 (f+1) lo hi=some r/\sl u2 (f+1) lo hi=some r
 | f,lo,hi,hl,hh,hd=>by
   unfold sl
   by_cases h1:1<hi-lo
   · rw [if_pos h1,if_pos h1]
     obtain⟨u,e1,e2⟩:=h ((lo+hi)/2) U U
     rw[e1,e2,Option.bind_some,Option.bind_some]
     cases f with
     |zero=>simp at hd;omega
     | succ f=>
       have D:((2^(f+1):Nat):Int)=2*((2^f:Nat):Int):=by rw[Nat.pow_succ];omega
       cases u with
       | true=>
         rw[if_pos Z,if_pos Z]
         exact sj h f _ _ U hh U
       | false=>
         rw[if_neg dc,if_neg dc]
         exact sj h f _ _ hl U U
   · rw[if_neg h1,if_neg h1];exact⟨_,rfl,rfl⟩
def Ef (ho:0<o)(hk:0<k)(e:o*k=100):cE m o=cE (m*k) 100/\bI m o=bI (m*k) 100:=by
 have h:qR m o=qR (m*k) 100:=gm ho dc (by rw[<-e,Int.mul_assoc,Int.mul_comm k o])
 unfold qR at h
 exact⟨gP (qb1 Prod.fst h),gP (qb1 Prod.snd h)⟩
def Eg (hp:pl<=2)(hb:0<b)(hb12:b<10^12)(hh:2*a≠b):
 ∃r,sl (λm=>pG (x7 ((10^pl:Nat):Int) m) a b 2 15) 100 (-5*((10^pl:Nat):Int)) (5*((10^pl:Nat):Int))=some r/\sl (λm=>pG (xT BV ((10^pl:Nat):Int) m) a b 2 15) 100 (-5*((10^pl:Nat):Int)) (5*((10^pl:Nat):Int))=some r:=by
 have key:∃k:Int,0<k/\((10^pl:Nat):Int)*k=100/\0<((10^pl:Nat):Int)/\((10^pl:Nat):Int)<=100:=by
  rcases(show pl=0\/pl=1\/pl=2 by omega)with rfl|rfl|rfl
  · exact⟨100,by decide,by decide,by decide,by decide⟩
  · exact⟨10,by decide,by decide,by decide,by decide⟩
  · exact⟨1,by decide,by decide,by decide,by decide⟩
 obtain⟨k,hk,e,ho,_⟩:=key
 generalize ((10^pl:Nat):Int)=o at *
 refine sj (λm _ _=>?_) 99 _ _ (Int.le_refl _) (Int.le_refl _) ?_
 · obtain⟨D,E⟩:=Ef (m:=m) ho hk e
   have G:x7 o m=x7 100 (m*k):=by funext j;unfold x7;rw[D,E]
   have H:xT BV o m=xT BV 100 (m*k):=by funext j;unfold xT;rw[D,E]
   have b1:m*k<=(5*o-1)*k:=Int.mul_le_mul_of_nonneg_right U U
   have b2:(-5*o+1)*k<=m*k:=Int.mul_le_mul_of_nonneg_right U U
   have b3:(5*o-1)*k=5*(o*k)-k:=by grind
   have b4:(-5*o+1)*k=-5*(o*k)+k:=by grind
   rw[e]at b3 b4
   show∃u,pG (x7 o m) a b 2 15=some u/\pG (xT BV o m) a b 2 15=some u
   rw[G,H]
   exact BN U U hb hb12 hh
 · have:(1000:Nat)<=2^99:=by decide
   omega
def xb {k:Nat}(h:dh l=true)(hl:l.length<=k):au l<10^k:=by
 have h1:=fM h
 have D:=fK 10 (dy l) (λd hd=>nE h1 d hd)
 rw[eY]at D
 exact qb0 D (Nat.pow_le_pow_right dc hl)
def H4 (h:ew (x,y)=true):qR (ao x) (ao y)=(x,y):=by
 have h1:=jr h;have E:=gh h;have H:=jj h
 have D:bD x y=some [49]:=by
  simp only[ew,Bool.and_eq_true,decide_eq_true_eq]at h;exact h.2
 have G:Int.gcd (ao x) (ao y)=1:=by
  unfold bD aR at D
  rw[show isInt x=true from h1,show isInt y=true from E,if_pos (by rfl)]at D
  split at D
  · have:=gP ((qb4 D).trans g8)
    omega
  · cases D
 rw[AN H G,dj h1,dj E]
def mI {pl:Int}(s1:x.length<=1000000)(s2:y.length<=1000000)(hpl:¬(2<pl/\pl<=12)):∃q er,w4 x y pl q er:=by
 by_cases hr:iY (nw (x,y)) (ao x) (ao y) 1 1000000 999999 1000000 pl=true
 · have hr':=hr
   simp only[iY,Bool.and_eq_true,decide_eq_true_eq]at hr'
   obtain⟨hsh,_,_,O,kd⟩:=hr'
   have D:=kZ hsh
   simp only[nw,Bool.and_eq_true,decide_eq_true_eq]at hsh
   obtain⟨_,A2,Af⟩:=hsh
   obtain⟨p,rfl⟩:∃p:Nat,pl=(p:Int):=⟨pl.toNat,by omega⟩
   by_cases hx:(x,y)=((([49]:List UInt8),[50]):R)
   · cases hx
     refine⟨(([48],[49]),([48],[49])),0,λW ht=>?_,λW ht=>l7 U⟩
     have e:qR ((1:Nat):Int) ((2:Nat):Int)=(([49]:List UInt8),[50]):=by decide +kernel
     have h:=pS (a:=1) (b:=2) (pl:=p) (w:=W) (na dc dc dc) dc dc U (fW U dc dc) e ht
     unfold QV at h;rw[e]at h;exact h
   · have hq:=H4 D
     have hd:=jj D
     have H:=jr D;have G:=gh D
     rw[jm]at O
     rw[bw]at kd
     simp only at H G hd A2 Af
     have Ao:0<ao x:=by
      rcases Int.lt_trichotomy 0 (ao x)with h|h|h
      · exact h
      · rw[<-h]at O;omega
      · have:=Int.mul_neg_of_neg_of_pos h (show(0:Int)<1000000 by decide);omega
     obtain⟨a,ha⟩:∃a:Nat,ao x=(a:Int):=⟨(ao x).toNat,by omega⟩
     obtain⟨b,hb⟩:∃b:Nat,ao y=(b:Int):=⟨(ao y).toNat,by omega⟩
     have ex:x=nS a:=by rw[<-dj H,ha];rfl
     have E:y=nS b:=by rw[<-dj G,hb];rfl
     have Ap:a<10^12:=by
      have:=xb (cN H) (k:=12) U
      have kk:=cZ x;rw[ha]at kk;omega
     have Ad:b<10^12:=by
      have A1:neg y=false:=by have:=sW G;rw[decide_eq_false U]at this;exact this.symm
      have:=xb (cN G) (k:=12) (by rw[iM A1];omega)
      have kk:=cZ y;rw[hb]at kk;omega
     rw[ha,hb]at hq O kd
     have Ab:2*a≠b:=λe=>hx (by
      have g:qR ((a:Nat):Int) ((b:Nat):Int)=qR 1 2:=gm U dc U
      rw[<-hq,g];decide +kernel)
     obtain⟨r,r1,r2⟩:=Eg (pl:=p) (a:=a) (b:=b) U U Ad Ab
     refine⟨(qR r.1 ((10^p:Nat):Int),qR r.2 ((10^p:Nat):Int)),0,λW ht=>?_,λW ht=>?_⟩
     · have h:=r7 (a:=a) (b:=b) (pl:=p) (w:=W) (na U U U) U U U (fW U U U) (by rw[hq];exact hx) r1 ht
       unfold QV at h;rw[hq]at h;exact h
     · have Am:(10:Nat)^12<10^100:=by decide
       have h:=pV (c:=BV) (a:=a) (b:=b) (pl:=p) (w:=W) U U U U (by rw[<-ex];exact s1) (by rw[<-E];exact s2) Kr (by rw[<-ex,<-E];exact hr) (by rw[<-ex,<-E];exact hx) r2
       rw[<-ex,<-E]at h;exact h
 · have hr:iY (nw (x,y)) (ao x) (ao y) 1 1000000 999999 1000000 pl=false:=by simpa using hr
   exact⟨(([],[]),([],[])),60,λW ht=>pF hr ht,λW ht=>mG hr s1 s2⟩
def BO (hd:0<d)(fn:Fz n)(fd:Fz d):(qR n d).1.length<=1000000/\(qR n d).2.length<=1000000:=⟨cI (qG hd fn),cI (qH hd fd)⟩
def eM {w:World}(s1:x.length<=9223372036854775807)(s2:y.length<=9223372036854775807)(hn:In64 n)(hd:In64 d)(hp:In64 p)(ht:Tb w):
 CL 3 #[.agg #[S x,S y],.int .i64 n,.int .i64 d,.int .i64 p] w (aH w λv _=>v=.bool true):=by
 have b1:=lP d 1000 dc
 have b2:=lP n (1+c8 d 1000+2) U
 have b3:=lP p 3 dc
 obtain⟨O,H,h1⟩:=mI (x:=ax x) (y:=ax y) (pl:=c8 p 3) (uf x) (uf y) U
 have E:=BO (n:=c8 n (1+c8 d 1000+2)-1) (d:=1+c8 d 1000) U (ar U) (ar U)
 obtain⟨_,_,D⟩:=mI (pl:=c8 p 3) E.1 E.2 U
 have G:=BO (n:=1) (d:=3) dc (ar dc) (ar dc)
 by_cases hb:2<p/\p<=12
 · exact qT (q3:=O) (e3:=H) s1 s2 hn hd hp Z Z h1 D (λh=>absurd hb h) ht
 · obtain⟨q3,e3,kk⟩:=mI (pl:=p) G.1 G.2 hb
   exact qT s1 s2 hn hd hp Z Z h1 D (λ_=>kk) ht
end Go.Proofs.YtgcfffdpcefifaaGreatDoor
