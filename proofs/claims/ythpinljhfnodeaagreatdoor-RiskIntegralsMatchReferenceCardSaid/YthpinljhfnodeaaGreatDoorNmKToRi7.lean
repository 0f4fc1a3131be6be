/- Part of the proof of a statement about risks. -/
import Derived.Test.YthpinljhfnodeaaGreatDoorEnc3ToSpM
import Derived.MapKept
import Derived.Carry
set_option linter.all false
namespace Go.Proofs.YthpinljhfnodeaaGreatDoor
open Go Go.Eng Go.RowKit Tryz
variable {n a k pl f c H d p lo u:Nat}
section
def Az (h:n<=60):aa n<=10^60:=by
 unfold aa
 have h1:(10:Nat)^n<=10^60:=Nat.pow_le_pow_right dc h
 have h2:(((10:Nat)^60:Nat):Int)=(10:Int)^60:=by norm_cast
 omega
def JN (k pl:Nat){b:Nat}(h1:a<=b)(h2:b<=1000000000000000000000000000000000000000000000000000000000000):
 lh k pl ((a:Int),(b:Int)) ((a/10^k:Nat):Int) ((gl b (10^k):Nat):Int)/\lh k pl (-(b:Int),-(a:Int)) (-((gl b (10^k):Nat):Int)) (-((a/10^k:Nat):Int)):=by
 have O:0<10^k:=Nat.pow_pos dc
 have f1:a/10^k<=a:=Nat.div_le_self _ _
 have W:gl b (10^k)<=b:=lN O
 have qn:a/10^k<=gl b (10^k):=by rw[gq O];exact Nat.div_le_div_right U
 have qr:(1000000000000000000000000000000000000000000000000000000000000:Nat)<10^70:=by decide
 have l2:(1000000000000000000000000000000000000000000000000000000000000:Nat)<10^90:=by decide
 generalize he:a/10^k=f at *
 generalize hu:gl b (10^k)=c at *
 refine⟨⟨by simp only;omega,by simp only;omega,by simp only;omega,by rw[<-he];exact R9,by rw[<-hu];exact Vz,by omega,by omega,by omega⟩,⟨by simp only;omega,by simp only;omega,by simp only;omega,?_,?_,by omega,by omega,by omega⟩⟩
 · rw[j9 (aZ _)];simp only[Vz,hu]
 · rw[pB (aZ _)];simp only[R9,he]
def AA {b:Nat}(h:lh k pl (-(b:Int),-(a:Int)) (-(c:Int)) (-(f:Int)))(hp:pl+k<=60):lh k pl (aa (pl+k)-(b:Int),aa (pl+k)-(a:Int)) (aa pl-(c:Int)) (aa pl-(f:Int)):=by
 obtain⟨b1,b2,le,hf,hc,_,_,_⟩:=h
 have hS:aa (pl+k)<=10^60:=Az hp
 have hS0:=aZ (pl+k)
 have hT0:=aZ pl
 have hT:aa pl<=10^60:=Az U
 simp only at b1 b2 le hf hc
 refine⟨by simp only;omega,by simp only;omega,by simp only;omega,?_,?_,by omega,by omega,by omega⟩
 · simp only
   unfold dp at *
   rw[show aa (pl+k)-(b:Int)=-(b:Int)+aa (pl+k)by omega,Int.add_mul,Int.add_mul_ediv_left _ _ U,hf]
   omega
 · simp only
   unfold dz at *
   rw[show aa (pl+k)-(a:Int)=-(a:Int)+aa (pl+k)by omega,Int.add_mul,Int.add_mul_ediv_left _ _ U,Int.add_mul_emod_self_left]
   split at hc
   · rename_i h0;rw[if_pos h0];omega
   · rename_i h0;rw[if_neg h0];omega
def Pt (pl:Nat)(N:Int)(d:Nat)(k:Nat):Option (Int×Int):=Pn (10^(pl+k)) (pl+k) N d
def JO (pl n d f c:Nat):Prop:=0<n/\lV pl (Pt pl (n:Int) d) (f:Int) (c:Int)/\lV pl (Pt pl (-(n:Int)) d) (aa pl-c) (aa pl-f)
def ND {S:Nat}{h:N2}(hn:0<n)(hH:S=2*H)(hh:GQ S pl n d=some h):Pn S pl (n:Int) d=some (((H+h.1:Nat):Int),((H+h.2:Nat):Int))/\Pn S pl (-(n:Int)) d=some ((S:Int)-((H+h.2:Nat):Int),(S:Int)-((H+h.1:Nat):Int)):=by
 have O:bV S 1 2=(H,H):=by
  unfold bV
  rw[gq dc,Nat.one_mul,hH,Nat.mul_div_cancel_left _ dc]
  congr 1
  omega
 unfold Pn
 constructor
 · rw[show(n:Int).natAbs=n from rfl,hh,Option.map_some,if_neg U,O];rfl
 · rw[show(-(n:Int)).natAbs=n by omega,hh,Option.map_some,if_pos U,O]
   unfold Ct
   simp only[]
   rw[show(H:Int)-(h.2:Int)=(S:Int)-((H+h.2:Nat):Int)by omega,show(H:Int)-(h.1:Int)=(S:Int)-((H+h.1:Nat):Int)by omega]
def uS {h:N2}(hn:0<n)(hp:pl+k<=60)(hH:10^(pl+k)=2*H)(hh:GQ (10^(pl+k)) (pl+k) n d=some h)(h1:H+h.1<=H+h.2)(h2:H+h.2<=1000000000000000000000000000000000000000000000000000000000000):
 ∃r s,Pt pl (n:Int) d k=some r/\lh k pl r (((H+h.1)/10^k:Nat):Int) ((gl (H+h.2) (10^k):Nat):Int)/\Pt pl (-(n:Int)) d k=some s/\lh k pl s (aa pl-((gl (H+h.2) (10^k):Nat):Int)) (aa pl-(((H+h.1)/10^k:Nat):Int)):=by
 obtain⟨O,qr⟩:=ND hn hH hh
 obtain⟨c1,c2⟩:=JN k pl h1 h2
 refine⟨_,_,O,c1,qr,?_⟩
 have e:((10^(pl+k):Nat):Int)=aa (pl+k):=rfl
 rw[e]
 exact AA c2 hp
def p40:(10:Nat)^40=10000000000000000000000000000000000000000:=by decide +kernel
def wI (S S1 H c1 c2 S' S1' H' c1' c2':Nat)(n d:Nat)(K:Nat->Nat->Bool):Bool:=WJ S S1 c1 c2 (λr1 r2=>fz (Nat.add H r1) λa=>fz (Nat.add H r2) λb=>
 cond (and (Nat.ble a b) (Nat.ble b 1000000000000000000000000000000000000000000000000000000000000)) (fz (Nat.div a 1000000000000000) λf=>fz (Nat.div (Nat.add b (Nat.pred 1000000000000000)) 1000000000000000) λc=>cond (Nat.ble c (Nat.succ f)) (K f c)
  (WJ S' S1' c1' c2' (λr1 r2=>fz (Nat.add H' r1) λa=>fz (Nat.add H' r2) λb=>Pr 10000000000000000000000000000000000000000 a b K) n d)) false) n d
def mS {S S1 S' S1' H':Nat}{c c':N2}{K:Nat->Nat->Bool}(hp:pl<=12)(hS:S=10^(pl+15))(h1:S1=S-1)(hH:S=2*H)(hc:im S (cH (jf (pl+15),jf (pl+15)+1) 2 1)=some c)(hcb:kO c=true)(hS':S'=10^(pl+40))(h1':S1'=S'-1)(hH':S'=2*H')(hc':im S' (cH (jf (pl+40),jf (pl+40)+1) 2 1)=some c')(hcb':kO c'=true)(hn:0<n)(hd:0<d)(hk:wI S S1 H c.1 c.2 S' S1' H' c'.1 c'.2 n d K=true):∃f g,JO pl n d f g/\K f g=true:=by
 have hS0:0<S:=by rw[hS];exact Nat.pow_pos dc
 have hS0':0<S':=by rw[hS'];exact Nat.pow_pos dc
 obtain⟨h,Av,hq⟩:=JD hS0 h1 hc hcb hd hk
 clear hk
 have hk:=hq
 clear hq
 rw[dl,dl]at hk
 rcases ee hk with⟨h2,hk⟩|⟨_,hk⟩
 · simp only[Bool.and_eq_true,Nat.ble_eq]at h2
   obtain⟨h2,h3⟩:=h2
   simp only[dl]at hk
   subst hS
   obtain⟨r,s,A1,A2,W,qn⟩:=uS (k:=15) hn U hH Av h2 h3
   have Af:Nat.div (Nat.add H h.1) 1000000000000000=(H+h.1)/10^15:=rfl
   have As:Nat.div (Nat.add (Nat.add H h.2) (Nat.pred 1000000000000000)) 1000000000000000=gl (H+h.2) (10^15):=by rw[gq dc];rfl
   rw[Af,As]at hk
   rcases ee hk with⟨h4,hk⟩|⟨h4,hk⟩
   · rw[Nat.ble_eq]at h4
     refine⟨(H+h.1)/10^15,gl (H+h.2) (10^15),⟨hn,⟨by omega,Or.inl ⟨r,A1,A2⟩⟩,⟨by omega,Or.inl ⟨s,W,qn⟩⟩⟩,hk⟩
   · have E1:(H+h.1)/10^15+1<gl (H+h.2) (10^15):=by
      rcases Nat.lt_or_ge ((H+h.1)/10^15+1) (gl (H+h.2) (10^15))with x|x
      · exact x
      · rw[show Nat.ble (gl (H+h.2) (10^15)) (Nat.succ ((H+h.1)/10^15))=true from Nat.ble_eq_true_of_le x]at h4;cases h4
     obtain⟨O,Ay,hk⟩:=JD hS0' h1' hc' hcb' hd hk
     unfold Pr at hk
     rcases ee hk with⟨qr,hk⟩|⟨_,hk⟩
     · simp only[Bool.and_eq_true,Nat.ble_eq]at qr
       obtain⟨qr,Ap⟩:=qr
       simp only[dl]at hk
       rcases ee hk with⟨h8,hk⟩|⟨_,hk⟩
       · rw[Nat.ble_eq]at h8
         have hH2:10^(pl+40)=2*H':=by rw[<-hS'];exact hH'
         have Ad:GQ (10^(pl+40)) (pl+40) n d=some O:=by rw[<-hS'];exact Ay
         obtain⟨Aw,Ar,Ao,Am,Aq,Ab⟩:=uS (k:=40) hn U hH2 Ad qr Ap
         have Ax:Nat.div (Nat.add H' O.1) 10000000000000000000000000000000000000000=(H'+O.1)/10^40:=by rw[p40];rfl
         have E0:Nat.div (Nat.add (Nat.add H' O.2) (Nat.pred 10000000000000000000000000000000000000000)) 10000000000000000000000000000000000000000=gl (H'+O.2) (10^40):=by rw[p40,gq dc];rfl
         rw[Ax,E0]at hk h8
         refine⟨(H'+O.1)/10^40,gl (H'+O.2) (10^40),⟨hn,⟨by omega,Or.inr ⟨r,Aw,_,_,A1,A2,by omega,Ao,Am⟩⟩,⟨by omega,Or.inr ⟨s,Ar,_,_,W,qn,by omega,Aq,Ab⟩⟩⟩,hk⟩
       · cases hk
     · cases hk
 · cases hk
def Pu (pl:Nat)(ck:Nat->Nat->(Nat->Nat->Bool)->Bool):Prop:=∀n d K,0<n->0<d->ck n d K=true->∃f c,JO pl n d f c/\K f c=true
def VD (ck:Nat->Nat->(Nat->Nat->Bool)->Bool)(T p:Nat)(K:Nat->Nat->Bool)(n d lo hi:Nat):Bool:=
 ck n d λf c=>cond (and (Nat.ble T (Nat.mul 2 f)) (Nat.ble c T)) (fz (Nat.mul f p) λWf=>fz (Nat.mul c p) λc8=>fz (cond (Nat.ble lo Wf) Wf lo) λl=>fz (cond (Nat.ble c8 hi) c8 hi) λh=>K l h) false
def pE (pl p n d lo hi:Nat):Prop:=∃f c,JO pl n d f c/\10^pl<=2*f/\c<=10^pl/\f*p<=lo/\hi<=c*p
def yx {ck:Nat->Nat->(Nat->Nat->Bool)->Bool}{T hi:Nat}{K:Nat->Nat->Bool}(hc:Pu pl ck)(hT:T=10^pl)(hn:0<n)(hd:0<d)(h:VD ck T p K n d lo hi=true):∃l h,lo<=l/\h<=hi/\pE pl p n d l h/\K l h=true:=by
 obtain⟨f,c,hP,hk⟩:=hc n d _ hn hd h
 rcases ee hk with⟨h1,hk⟩|⟨_,hk⟩
 · simp only[Bool.and_eq_true,Nat.ble_eq]at h1
   obtain⟨h1,h2⟩:=h1
   rw[dl,dl,dl,dl]at hk
   have O:∀{x y:Nat},x<=cond (Nat.ble x y) y x/\y<=cond (Nat.ble x y) y x:=by
    intro x y
    cases hb:Nat.ble x y
    · have:¬x<=y:=λe=>by rw[Nat.ble_eq_true_of_le e]at hb;cases hb
      exact⟨qa0 _,by show y<=x;omega⟩
    · exact⟨qa3 hb,qa0 _⟩
   have qr:∀{x y:Nat},cond (Nat.ble x y) x y<=x/\cond (Nat.ble x y) x y<=y:=by
    intro x y
    cases hb:Nat.ble x y
    · have:¬x<=y:=λe=>by rw[Nat.ble_eq_true_of_le e]at hb;cases hb
      exact⟨by show y<=x;omega,qa0 _⟩
    · exact⟨qa0 _,qa3 hb⟩
   refine⟨_,_,O.1,qr.2,⟨f,c,hP,by rw[<-hT];exact h1,by rw[<-hT];exact h2,O.2,qr.1⟩,hk⟩
 · cases hk
def pE.weak {hi lo' hi':Nat}(h:pE pl p n d lo hi)(h1:lo<=lo')(h2:hi'<=hi):pE pl p n d lo' hi':=by
 obtain⟨f,c,a,b,e,g,k⟩:=h
 exact⟨f,c,a,b,e,by omega,by omega⟩
def Xs:im 10000000000000000 (cH (jf 16,jf 16+1) 2 1)=some (25066282746310004,25066282746310006):=by decide +kernel
def Xt:im 100000000000000000000000000000000000000000 (cH (jf 41,jf 41+1) 2 1)=some (250662827463100050241576528481104525300698,250662827463100050241576528481104525300699):=by decide +kernel
def Si:Nat->Nat->(Nat->Nat->Bool)->Bool:=wI 10000000000000000 9999999999999999 5000000000000000 25066282746310004 25066282746310006 100000000000000000000000000000000000000000 99999999999999999999999999999999999999999 50000000000000000000000000000000000000000 250662827463100050241576528481104525300698 250662827463100050241576528481104525300699
def VE:Pu 1 Si:=λn d K h1 h2 hk=>mS dc Nd Nd Nd Xs Nd Nd Nd Nd Xt Nd h1 h2 hk
def Xu:im 100000000000000000 (cH (jf 17,jf 17+1) 2 1)=some (250662827463100049,250662827463100051):=by decide +kernel
def Xv:im 1000000000000000000000000000000000000000000 (cH (jf 42,jf 42+1) 2 1)=some (2506628274631000502415765284811045253006986,2506628274631000502415765284811045253006987):=by decide +kernel
def NE:Nat->Nat->(Nat->Nat->Bool)->Bool:=wI 100000000000000000 99999999999999999 50000000000000000 250662827463100049 250662827463100051 1000000000000000000000000000000000000000000 999999999999999999999999999999999999999999 500000000000000000000000000000000000000000 2506628274631000502415765284811045253006986 2506628274631000502415765284811045253006987
def JP:Pu 2 NE:=λn d K h1 h2 hk=>mS dc Nd Nd Nd Xu Nd Nd Nd Nd Xv Nd h1 h2 hk
def Xw:im 1000000000000000000 (cH (jf 18,jf 18+1) 2 1)=some (2506628274631000502,2506628274631000503):=by decide +kernel
def Xx:im 10000000000000000000000000000000000000000000 (cH (jf 43,jf 43+1) 2 1)=some (25066282746310005024157652848110452530069867,25066282746310005024157652848110452530069868):=by decide +kernel
def NF:Nat->Nat->(Nat->Nat->Bool)->Bool:=wI 1000000000000000000 999999999999999999 500000000000000000 2506628274631000502 2506628274631000503 10000000000000000000000000000000000000000000 9999999999999999999999999999999999999999999 5000000000000000000000000000000000000000000 25066282746310005024157652848110452530069867 25066282746310005024157652848110452530069868
def Sj:Pu 3 NF:=λn d K h1 h2 hk=>mS dc Nd Nd Nd Xw Nd Nd Nd Nd Xx Nd h1 h2 hk
def Xy:im 10000000000000000000 (cH (jf 19,jf 19+1) 2 1)=some (25066282746310005023,25066282746310005025):=by decide +kernel
def Xz:im 100000000000000000000000000000000000000000000 (cH (jf 44,jf 44+1) 2 1)=some (250662827463100050241576528481104525300698673,250662827463100050241576528481104525300698675):=by decide +kernel
def VF:Nat->Nat->(Nat->Nat->Bool)->Bool:=wI 10000000000000000000 9999999999999999999 5000000000000000000 25066282746310005023 25066282746310005025 100000000000000000000000000000000000000000000 99999999999999999999999999999999999999999999 50000000000000000000000000000000000000000000 250662827463100050241576528481104525300698673 250662827463100050241576528481104525300698675
def VG:Pu 4 VF:=λn d K h1 h2 hk=>mS dc Nd Nd Nd Xy Nd Nd Nd Nd Xz Nd h1 h2 hk
def XC:im 100000000000000000000 (cH (jf 20,jf 20+1) 2 1)=some (250662827463100050241,250662827463100050242):=by decide +kernel
def XD:im 1000000000000000000000000000000000000000000000 (cH (jf 45,jf 45+1) 2 1)=some (2506628274631000502415765284811045253006986740,2506628274631000502415765284811045253006986741):=by decide +kernel
def VH:Nat->Nat->(Nat->Nat->Bool)->Bool:=wI 100000000000000000000 99999999999999999999 50000000000000000000 250662827463100050241 250662827463100050242 1000000000000000000000000000000000000000000000 999999999999999999999999999999999999999999999 500000000000000000000000000000000000000000000 2506628274631000502415765284811045253006986740 2506628274631000502415765284811045253006986741
def XF:Pu 5 VH:=λn d K h1 h2 hk=>mS dc Nd Nd Nd XC Nd Nd Nd Nd XD Nd h1 h2 hk
def VI (n d lo hi:Nat):Prop:=pE 1 10000000 n d lo hi/\pE 2 1000000 n d lo hi/\pE 3 100000 n d lo hi/\pE 4 10000 n d lo hi/\pE 5 1000 n d lo hi/\pE 6 100 n d lo hi/\pE 7 10 n d lo hi/\pE 8 1 n d lo hi
def VI.at {hi:Nat}(h:VI n d lo hi)(h1:1<=pl)(h2:pl<=8):pE pl (10^(8-pl)) n d lo hi:=by
 obtain⟨a1,a2,O,A1,A2,qr,W,qn⟩:=h
 rcases(by omega:pl=1\/pl=2\/pl=3\/pl=4\/pl=5\/pl=6\/pl=7\/pl=8)with rfl|rfl|rfl|rfl|rfl|rfl|rfl|rfl
 · exact a1
 · exact a2
 · exact O
 · exact A1
 · exact A2
 · exact qr
 · exact W
 · exact qn
def yy (pl u f c:Nat):Prop:=lV pl (mR pl (u:Int) 1000000) (f:Int) (c:Int)/\lV pl (mR pl (-(u:Int)) 1000000) (aa pl-c) (aa pl-f)/\10^pl<=2*f/\c<=10^pl
def AB {N D:Int}(hD:0<D):cG (-N) D=-cG N D/\bK (-N) D=bK N D:=by
 have h:=Aa (a:=cG (-N) D) (b:=bK (-N) D) (c:=-cG N D) (d:=bK N D) (eY hD) (eY hD) (uO hD) (by rw[Int.neg_gcd];exact uO hD) ?_
 · exact h
 · have h1:=ez (n:=-N) hD
   have h2:=ez (n:=N) hD
   have h3:cG (-N) D*bK N D*D=-cG N D*bK (-N) D*D:=by
    rw[show cG (-N) D*bK N D*D=cG (-N) D*D*bK N D by grind,h1,show -cG N D*bK (-N) D*D=-(cG N D*D)*bK (-N) D by grind,h2]
    grind
   exact Int.eq_of_mul_eq_mul_right U h3
def AC (hd:0<d):cG (u:Int) (d:Int)=((u/Nat.gcd u d:Nat):Int)/\(bK (u:Int) (d:Int)).toNat=d/Nat.gcd u d:=by
 unfold cG bK
 rw[if_neg U,if_neg U,show Int.gcd (u:Int) (d:Int)=Nat.gcd u d from rfl]
 constructor
 · rw[Int.natCast_ediv]
 · rw[<-Int.natCast_ediv];rfl
def mT (hd:0<d)(h:JO pl (u/Nat.gcd u d) (d/Nat.gcd u d) f c):lV pl (mR pl (u:Int) (d:Int)) (f:Int) (c:Int)/\lV pl (mR pl (-(u:Int)) (d:Int)) (aa pl-c) (aa pl-f):=by
 obtain⟨_,h1,h2⟩:=h
 obtain⟨O,qr⟩:=AC (u:=u) hd
 obtain⟨qn,W⟩:=AB (N:=(u:Int)) (D:=(d:Int)) U
 have x1:mR pl (u:Int) (d:Int)=Pt pl ((u/Nat.gcd u d:Nat):Int) (d/Nat.gcd u d):=funext λk=>by unfold mR Pt;rw[O,qr]
 have x2:mR pl (-(u:Int)) (d:Int)=Pt pl (-((u/Nat.gcd u d:Nat):Int)) (d/Nat.gcd u d):=funext λk=>by unfold mR Pt;rw[qn,W,O,qr]
 rw[x1,x2];exact⟨h1,h2⟩
def XI (ck:Nat->Bool)(n:Nat):Bool:=Nat.rec (motive:=λ_=>Bool) false (λm ih=>cond (ck (Nat.succ m)) true ih) n
def JQ (K:Nat):Bool:=XI (λW=>and (Nat.beq (Nat.mod K W) 0) (Nat.ble (Nat.div K W) 50)) 40
def VJ (pk:Nat->Nat->Bool)(S lo n:Nat):Bool:=Sa (λi=>fz (Nat.add lo i) λK=>cond (Nat.ble (Nat.mul 160 S) K) true (cond (Nat.beq (Nat.gcd K S) 1) (cond (JQ K) (pk S K) true) true)) n
def NG {pk:Nat->Nat->Bool}{S K:Nat}(h:VJ pk S lo n=true)(h1:lo<K)(h2:K<=lo+n)(h3:K<160*S)(h4:Nat.gcd K S=1)(h5:JQ K=true):pk S K=true:=by
 have O:=Ey h (K-lo) U U
 rw[dl,show Nat.add lo (K-lo)=K by show lo+(K-lo)=K;omega]at O
 rcases ee O with⟨h7,_⟩|⟨_,O⟩
 · have:=qa3 h7
   exact absurd (show 160*S<=K from this) U
 · rw[h4]at O
   rcases ee O with⟨_,O⟩|⟨h7,_⟩
   · rw[h5]at O;exact O
   · cases h7
def VK (pk:Nat->Nat->Bool)(S m:Nat):Prop:=∀K,0<K->K<=m->K<160*S->Nat.gcd K S=1->JQ K=true->pk S K=true
def VK.zero {pk:Nat->Nat->Bool}{S:Nat}:VK pk S 0:=λK h1 h2=>by omega
def VK.next {pk:Nat->Nat->Bool}{S m:Nat}(h:VK pk S m)(h2:VJ pk S m n=true):VK pk S (m+n):=λK a b c d e=>by
 by_cases h3:K<=m
 · exact h K a h3 c d e
 · exact NG h2 U b c d e
end
section
attribute [local irreducible] wpListIn Code.wpIn Oper.wpIn Exit.then Exit.inBlock Exit.noGoto
set_option maxHeartbeats 40000000
end
end Go.Proofs.YthpinljhfnodeaaGreatDoor
namespace Go.Eng
open Go Go.RowKit
variable {l:List Oper}{d t i a s ty j n0:Nat}{ls:Nat->Bool}{e:Nat->Value}{v:Value}{w w':World}
def jS:List (Option (Nat×Value))->Nat->Option (Option (Nat×Value))
 |[],_=>none
 |x::_,0=>some x
 |_::l,i+1=>jS l i
def VL (L:List (Option (Nat×Value)))(ls:Nat->Bool)(e:Nat->Value):Prop:=∀i d v,jS L i=some (some (d,v))->ls i=true->e d=v
def VM:Option Nat->Nat->Bool
 |none,_=>false
 |some a,b=>Nat.beq a b
def Sk:List Oper->Bool
 |[]=>true
 |o::l=>(match o.dst with|none=>true|some d=>l.all λp=>!VM p.dst d)&&Sk l
def TL:List Oper->List (Option (Nat×Value))->Bool
 |_,[]=>true
 |[],_::_=>false
 |o::os,x::xs=>(match x with|none=>true|some y=>VM o.dst y.1)&&TL os xs
def YT (D:List Nat)(l:List Oper):Bool:=l.all λo=>match o.dst with|none=>true|some d=>y9 D d
def yz {o:Option Nat}:VM o d=true↔o=some d:=by
 cases o with
 |none=>simp[VM]
 |some a=>simp only[VM,Option.some.injEq];exact⟨qb3,λh=>by subst h;simp⟩
def Ez:∀{l:List Oper} {i j d:Nat} {o p:Oper},Sk l=true->l[i]?=some o->l[j]?=some p->o.dst=some d->p.dst=some d->i=j
 |[],i,_,_,_,_,_,h,_,_,_=>by simp at h
 |q::l,0,0,_,_,_,_,_,_,_,_=>rfl
 | q::l,0,j+1,d,o,p,h,ho,hp,hd,he=>by
   simp at ho;subst ho
   simp only[Sk,hd,Bool.and_eq_true]at h
   have:=List.all_eq_true.1 h.1 p (qa9 (by simpa using hp))
   rw[yz.2 he]at this;cases this
 | q::l,i+1,0,d,o,p,h,ho,hp,hd,he=>by
   simp at hp;subst hp
   simp only[Sk,he,Bool.and_eq_true]at h
   have:=List.all_eq_true.1 h.1 o (qa9 ka9)
   rw[yz.2 hd]at this;cases this
 | q::l,i+1,j+1,d,o,p,h,ho,hp,hd,he=>by
   simp only[Sk,Bool.and_eq_true]at h
   have e:=Ez h.2 ka9 (by simpa using hp) hd he
   omega
def yA:∀{l:List Oper} {L:List (Option (Nat×Value))} {i d:Nat} {v:Value},TL l L=true->jS L i=some (some (d,v))->∃o,l[i]?=some o/\o.dst=some d
 |_,[],i,_,_,_,h=>by cases i <;>cases h
 |[],_::_,_,_,_,h,_=>by cases h
 | o::os,x::xs,0,d,v,h,hx=>by
   cases hx
   simp only[TL,Bool.and_eq_true]at h
   exact⟨o,rfl,yz.1 h.1⟩
 | o::os,x::xs,i+1,d,v,h,hx=>by
   simp only[TL,Bool.and_eq_true]at h
   obtain⟨p,h1,h2⟩:=yA h.2 (show jS xs i=_ from hx)
   exact⟨p,by simpa using h1,h2⟩
def au.cst {b:Nat}{t:TypeId}{ds cs:Array Value}(h:au w b t ds)(e:ds=cs):au w b t cs:=e▸h
def ab8:=@au.cst
section draws
variable {P:Program}{r:Option Nat}{n N:Nat}{e0:Nat->Value}{ds:List Deferred}{w0:World}{Q:Exit->Act->World->Prop}{M:Nat}
def lO (N:Nat)(ds:List Deferred)(X:(Nat->Bool)->(Nat->Value)->World->Prop)(L:List (Option (Nat×Value)))(ls:Nat->Bool)(e:Nat->Value)(i:Nat)(dst:Option Nat):Exit->Act->World->Prop:=
 λx a' w'=>x=.normal/\∃v,a'=(act N e ds).put dst v/\(∀d u,jS L i=some (some (d,u))->v=u)/\X (fH ls i) (l0 e dst v) w'
def XJ (r:Option Nat)(n:Nat)(P:Program)(N:Nat)(ds:List Deferred)(l:List Oper)(D:List Nat)(L:List (Option (Nat×Value)))(X:(Nat->Bool)->(Nat->Value)->World->Prop)(e0:Nat->Value):Nat->List Oper->Prop
 |_,[]=>True
 |i,o::os=>(∀(e:Nat->Value) (w:World) (ls:Nat->Bool),(∀t,y9 D t=false->e t=e0 t)->(∀k d v,jS L k=some (some (d,v))->dF l i k=true->e d=v)->X ls e w->(∀j k,dF l j k=true->ls j=true->ls k=true)->ls i=false->(∀k,dF l i k=true->ls k=true)->
  wpListIn (Fw r) n P l.toArray (lO N ds X L ls e i o.dst) [o] (act N e ds) w)/\XJ r n P N ds l D L X e0 (i+1) os
def EA {D:List Nat}{L:List (Option (Nat×Value))}{X:(Nat->Bool)->(Nat->Value)->World->Prop}(hnd:Sk (l.take M)=true)(hmt:TL (l.take M) L=true)(hD:YT D (l.take M)=true):
 ∀(os:List Oper) (i0:Nat),(∀k,os[k]?=(l.take M)[i0+k]?)->XJ r n P N ds l D L X e0 i0 os->
 uf r n P N ds l (λls e w=>(∀t,y9 D t=false->e t=e0 t)/\VL L ls e/\X ls e w) i0 os
 |[],_,_,_=>trivial
 | o ::os,i0,hk,h=>by
   refine⟨λe w ls hJ hcl hni hpr=>?_,EA hnd hmt hD os (i0+1) (λk=>by rw[show i0+1+k=i0+(k+1)by omega,<-hk (k+1)];rfl) h.2⟩
   obtain⟨hs,hv,hX⟩:=hJ
   have ho:(l.take M)[i0]?=some o:=by have:=hk 0;simpa using this.symm
   have hstep:=h.1 e w ls hs (λk d v hl Ab=>hv k d v hl (hpr k Ab)) hX hcl hni hpr
   refine ue (K1:=λa' w'=>∃v,a'=(act N e ds).put o.dst v/\(∀d u,jS L i0=some (some (d,u))->v=u)/\X (fH ls i0) (l0 e o.dst v) w') hstep (λa' w' hE=>?_)
   obtain⟨v,ha,Ad,hX'⟩:=hE
   refine⟨v,ha,?_,?_,hX'⟩
   · cases hd:o.dst with
     |none=>exact hs
     | some d=>
       refine bv ?_ hs
       have:=List.all_eq_true.1 hD o (qa9 ho)
       rw[hd]at this;exact this
   · intro j O qr W hl
     by_cases hji:j=i0
     · subst hji
       obtain⟨p,qn,A1⟩:=yA hmt W
       rw[ho]at qn
       cases qn
       rw[A1]
       show upd e O v O=qr
       rw[jg];exact Ad O qr W
     · have hl':ls j=true:=by
        have hb:Nat.beq j i0=false:=by
         cases hb:Nat.beq j i0 with
         |false=>rfl
         |true=>exact absurd (qb3 hb) hji
        unfold fH at hl;rw[hb]at hl;exact hl
       have A2:=hv j O qr W hl'
       cases hd:o.dst with
       |none=>exact A2
       | some d=>
         show upd e d v O=qr
         obtain⟨p,qn,A1⟩:=yA hmt W
         rw[upd_ne _ _ (λhh:O=d=>hji (Ez hnd qn ho (by rw[A1,hh]) hd))]
         exact A2
def kJ {id:Nat}(hm:P.follows .mixedOrders=true)(M:Nat)(D:List Nat)(L:List (Option (Nat×Value)))(X:(Nat->Bool)->(Nat->Value)->World->Prop)(h0:X (λ_=>false) e0 w0.drew)(hwf:OI l=true)(hshape:kn l M=true)(hchk:(Sk (l.take M)&&(TL (l.take M) L&&YT D (l.take M)))=true)(hstep:XJ r n P N ds l D L X e0 0 (l.take M))(hfin:∀(e:Nat->Value) (w:World) (ls:Nat->Bool),(∀j,Nat.blt j M=true->ls j=true)->(∀t,y9 D t=false->e t=e0 t)->(∀k d v,jS L k=some (some (d,v))->Nat.blt k M=true->e d=v)->X ls e w->wpListIn (Fw r) n P l.toArray Q (l.drop M) (act N e ds) w):
 (Code.region id l.toArray true).wpIn (Fw r) n P Q (act N e0 ds) w0:=by
 simp only[Bool.and_eq_true]at hchk
 refine uh hm M (λe0 ls e w=>(∀t,y9 D t=false->e t=e0 t)/\VL L ls e/\X ls e w) ⟨λ_ _=>rfl,(λ_ _ _ _ h=>by cases h),h0⟩ hwf hshape (EA hchk.1 hchk.2.1 hchk.2.2 _ 0 (λk=>by rw[Nat.zero_add]) hstep) ?_
 intro e w ls O hJ
 exact hfin e w ls O hJ.1 (λk d v hl hk=>hJ.2.1 k d v hl (O k hk)) hJ.2.2
def XE (w0:World)(_:Nat->Bool)(_:Nat->Value)(w:World):Prop:=bF w0 w
def dX {L:List (Option (Nat×Value))}(hl:jS L i=some (some (d,v)))(hX:XE w0 ls e w)(k:bF w w'):lO N ds (XE w0) L ls e i (some d) .normal (act N (upd e d v) ds) w':=
 ⟨rfl,v,(aw ..).symm,(λ_ _ h=>by rw[hl]at h;cases h;rfl),ac4 hX k⟩
def XA (w0:World)(a s d ty:Nat)(z v:Array Value)(ls:Nat->Bool)(e:Nat->Value)(w:World):Prop:=
 bF w0 w/\(ls a=true->∃b,e d=.pointer (some ⟨b,0,none⟩)/\w0.heap.size<=b/\au w b ty (match ls s with|true=>v|false=>z))
def XA.start {z v:Array Value}:XA w0 a s d ty z v (λ_=>false) e0 w0.drew:=⟨aa8 w0,λh=>by cases h⟩
def fP (h:Nat.beq j i=false):fH ls i j=ls j:=by unfold fH;rw[h]
def NH :fH ls i i=true:=by unfold fH;simp
def jT (h:Nat.beq t d=false):upd e d v t=e t:=upd_ne _ _ (λO=>by subst O;simp at h)
def r6 {L:List (Option (Nat×Value))}{z u:Array Value}(hl:jS L i=some (some (d,v)))(hX:XA w0 a s t ty z u ls e w)(k:bF w w')(h1:Nat.beq a i=false:=by rfl)(h2:Nat.beq s i=false:=by rfl)(h3:Nat.beq t d=false:=by rfl):
 lO N ds (XA w0 a s t ty z u) L ls e i (some d) .normal (act N (upd e d v) ds) w':=by
 refine⟨rfl,v,(aw ..).symm,(λ_ _ h=>by rw[hl]at h;cases h;rfl),ac4 hX.1 k,λh=>?_⟩
 rw[fP h1]at h
 obtain⟨b,O,qr,W⟩:=hX.2 h
 refine⟨b,?_,qr,?_⟩
 · show upd e d v t=_
   rw[jT h3];exact O
 · rw[fP h2];exact au.ext k W
def VN {L:List (Option (Nat×Value))}{z u:Array Value}(hl:jS L a=some none)(hX:XA w0 a s t ty z u ls e w)(hs:ls s=false)(k:bF w w')(hb:au w' w.heap.size ty z)(h2:Nat.beq s a=false:=by rfl):
 lO N ds (XA w0 a s t ty z u) L ls e a (some t) .normal (act N (upd e t (.pointer (some ⟨w.heap.size,0,none⟩))) ds) w':=by
 refine⟨rfl,_,(aw ..).symm,(λ_ _ h=>by rw[hl]at h;cases h),ac4 hX.1 k,λ_=>⟨w.heap.size,?_,Below.size hX.1,?_⟩⟩
 · show upd e t _ t=_
   rw[jg]
 · rw[fP h2,hs];exact hb
def VO {L:List (Option (Nat×Value))}{b:Nat}{z u:Array Value}(hl:jS L s=none\/jS L s=some none)(hX:XA w0 a s t ty z u ls e w)(he:e t=.pointer (some ⟨b,0,none⟩))(hlo:w0.heap.size<=b)(k:fU w w' b)(hb:au w' b ty u)(h2:Nat.beq a s=false:=by rfl):
 lO N ds (XA w0 a s t ty z u) L ls e s none .normal (act N e ds) w':=by
 refine⟨rfl,undef,rfl,(λ_ _ h=>absurd h (by rcases hl with hl|hl <;>rw[hl] <;>simp)),fU.low k hX.1 hlo,λ_=>⟨b,he,hlo,?_⟩⟩
 rw[NH];exact hb
def VP {L:List (Option (Nat×Value))}{z:Array Value}(hl:jS L a=some none)(hX:XA w0 a s t ty z z ls e w)(k:bF w w')(hb:au w' w.heap.size ty z):
 lO N ds (XA w0 a s t ty z z) L ls e a (some t) .normal (act N (upd e t (.pointer (some ⟨w.heap.size,0,none⟩))) ds) w':=by
 refine⟨rfl,_,(aw ..).symm,(λ_ _ h=>by rw[hl]at h;cases h),ac4 hX.1 k,λ_=>⟨w.heap.size,?_,Below.size hX.1,?_⟩⟩
 · show upd e t _ t=_
   rw[jg]
 · cases fH ls a s <;>exact hb
def XA.opn {z v:Array Value}(h:XA w0 a s d ty z v ls e w)(ha:ls a=true)(hs:ls s=false):∃b,e d=.pointer (some ⟨b,0,none⟩)/\w0.heap.size<=b/\au w b ty z:=by
 obtain⟨b,h1,h2,h3⟩:=h.2 ha
 rw[hs]at h3
 exact⟨b,h1,h2,h3⟩
def XA.fin {z v:Array Value}(h:XA w0 a s d ty z v ls e w)(ha:ls a=true)(hs:ls s=true\/z=v):∃b,e d=.pointer (some ⟨b,0,none⟩)/\w0.heap.size<=b/\au w b ty v:=by
 obtain⟨b,h1,h2,h3⟩:=h.2 ha
 rcases hs with hs|hs
 · rw[hs]at h3;exact⟨b,h1,h2,h3⟩
 · subst hs;refine⟨b,h1,h2,?_⟩;cases hh:ls s <;>rw[hh]at h3 <;>exact h3
def XW (w0:World)(b s ty:Nat)(z v:Array Value)(ls:Nat->Bool)(_:Nat->Value)(w:World):Prop:=
 w0.grownBy w (some b)/\au w b ty (match ls s with|true=>v|false=>z)
def XW.start {b:Nat}{z v:Array Value}(h:au w0 b ty z):XW w0 b s ty z v (λ_=>false) e0 w0.drew:=⟨aS (World.grownBy.refl w0 _) (aa8 w0),au.ext (aa8 w0) h⟩
def XW.opn {b:Nat}{z v:Array Value}(h:XW w0 b s ty z v ls e w)(hs:ls s=false):au w b ty z:=by
 have h3:=h.2
 rw[hs]at h3;exact h3
def XW.fin {b:Nat}{z v:Array Value}(h:XW w0 b s ty z v ls e w)(hs:ls s=true):au w b ty v:=by
 have h3:=h.2
 rw[hs]at h3;exact h3
def XG (Rel:World->Prop)(_:Nat->Bool)(_:Nat->Value)(w:World):Prop:=Rel w
def uT {Rel:World->Prop}{L:List (Option (Nat×Value))}(hl:jS L i=some (some (d,v)))(h:Rel w'):lO N ds (XG Rel) L ls e i (some d) .normal (act N (upd e d v) ds) w':=
 ⟨rfl,v,(aw ..).symm,(λ_ _ h=>by rw[hl]at h;cases h;rfl),h⟩
def XH (Rel:World->Prop)(n0 a d ty:Nat)(z:Array Value)(ls:Nat->Bool)(e:Nat->Value)(w:World):Prop:=
 Rel w/\n0<=w.heap.size/\(ls a=true->∃b,e d=.pointer (some ⟨b,0,none⟩)/\n0<=b/\au w b ty z)
def XH.start {Rel:World->Prop}{z:Array Value}(h:Rel w0.drew):XH Rel w0.heap.size a d ty z (λ_=>false) e0 w0.drew:=⟨h,Below.size (aa8 w0),λh=>by cases h⟩
def JR {Rel:World->Prop}{L:List (Option (Nat×Value))}{z:Array Value}{row:Option Nat}(hl:jS L i=some (some (d,v)))(hX:XH Rel n0 a t ty z ls e w)(h:Rel w')(k:w.grownBy w' row)(hr:∀g,row=some g->g<n0)(h1:Nat.beq a i=false:=by rfl)(h3:Nat.beq t d=false:=by rfl):
 lO N ds (XH Rel n0 a t ty z) L ls e i (some d) .normal (act N (upd e d v) ds) w':=by
 refine⟨rfl,v,(aw ..).symm,(λ_ _ h=>by rw[hl]at h;cases h;rfl),h,qa8 hX.2.1 k.size,λha=>?_⟩
 rw[fP h1]at ha
 obtain⟨b,O,qr,qn⟩:=hX.2.2 ha
 refine⟨b,?_,qr,aa0 k (λW=>by have:=hr b W.symm;omega) qn⟩
 show upd e d v t=_
 rw[jT h3];exact O
def c7 {Rel:World->Prop}{L:List (Option (Nat×Value))}{z:Array Value}(hl:jS L i=some (some (d,v)))(hX:XH Rel n0 a t ty z ls e w)(h:Rel w')(k:bF w w')(h1:Nat.beq a i=false:=by rfl)(h3:Nat.beq t d=false:=by rfl):
 lO N ds (XH Rel n0 a t ty z) L ls e i (some d) .normal (act N (upd e d v) ds) w':=JR hl hX h (aS (World.grownBy.refl w none) k) (λg h=>by cases h) h1 h3
def Sl {Rel:World->Prop}{L:List (Option (Nat×Value))}{z:Array Value}(hl:jS L a=some none)(hX:XH Rel n0 a t ty z ls e w)(h:Rel w')(k:bF w w')(hb:au w' w.heap.size ty z):
 lO N ds (XH Rel n0 a t ty z) L ls e a (some t) .normal (act N (upd e t (.pointer (some ⟨w.heap.size,0,none⟩))) ds) w':=by
 refine⟨rfl,_,(aw ..).symm,(λ_ _ h=>by rw[hl]at h;cases h),h,qa8 hX.2.1 k.size,λ_=>⟨w.heap.size,?_,hX.2.1,hb⟩⟩
 show upd e t _ t=_
 rw[jg]
end draws
end Go.Eng
namespace Go.Proofs.YthpinljhfnodeaaGreatDoor
variable {q:Bool}{a c d k a' b' c' d':Int}{l m l' m':List UInt8}{n cp lo pl g i b0 b1 b2 bm bp N:Nat}{A:Option Addr}{w w':World}
section
set_option maxRecDepth 100000
open Go Go.Eng Go.RowKit Tryz
attribute [local irreducible] wpListIn Code.wpIn Oper.wpIn Exit.then Exit.inBlock Exit.noGoto
set_option maxHeartbeats 40000000
def sB (q:Bool)(x y:R):R:=cond q y x
def ri {x y:R}(h:q=true):sB q x y=y:=by subst h;rfl
def rj {x y:R}(h:q=false):sB q x y=x:=by subst h;rfl
def VQ (q:Bool)(x y:R)(i:Nat):R:=if i=1 then x else sB q x y
def EB {x y:R}:VQ q x y 2=sB q x y:=rfl
section
variable {b:Int}
def pF (h1:Q9 a b)(h2:Q9 c d)(ht:Tb w):CL 77 #[QV a b,QV c d] w (aC w λv _=>v=.int .i64 (aG (a*d) (c*b))):=lf Z Z h1 h2 ht
def JS (h1:Q9 a b)(h2:Q9 c d)(ht:Tb w):CL 49 #[QV a b,QV c d] w (aC w λv _=>v=Qv (a*d+c*b) (b*d)):=Po Z Z h1 h2 ht
def uV (h1:Q9 a b)(h2:Q9 c d)(ht:Tb w):CL 50 #[QV a b,QV c d] w (aC w λv _=>v=Qv (a*d-c*b) (b*d)):=Jm Z Z h1 h2 ht
def Pv (h1:Q9 a b)(h2:Q9 c d)(hc:0<c)(ht:Tb w):CL 81 #[QV a b,QV c d] w (aC w λv _=>v=Qv (a*d) (b*c)):=Vt Z Z h1 h2 hc ht
end
def dU :
 CL 48 #[.agg #[S l,S m],.int .i64 0] w (aC w λv w'=>v=.agg #[S l,S m]):=by
 refine aE func48 Z (I ?_);refine bx (λA1 A2 qr=>?_);have O:=A2.2;refine al aQ (λ_ Ab qn=>?_);have⟨qr,O⟩:=bD Ab.2 qr O;refine I ?_;refine SA qn (λ_ W Ad=>?_);have qr:=pb W qr;have O:=bB W O;refine I ?_;refine aI (v:=.agg #[S l,S m]) (cF  rfl ?_) O Z;refine ag (t:=4) (cs:=[S l,S m]) (b:=A1.heap.size) (o:=0) eB Z aM ?_ ?_;exact Z;exact aa1 Ad (i:=0) Z
def mU {x:R×R}:
 CL 37 #[.agg #[S x.1.1,S x.1.2,S x.2.1,S x.2.2],.int .i64 0] w (aC w λv w'=>v=.agg #[S x.1.1,S x.1.2,S x.2.1,S x.2.2]):=by
 refine aE func37 Z (I ?_);refine bx (λA1 A2 O=>?_);have qr:=A2.2;refine al ap (λ_ Ab qn=>?_);have⟨O,qr⟩:=bD Ab.2 O qr;refine I ?_;refine ac (ar (cs:=[S x.1.1,S x.1.2,S x.2.1,S x.2.2]) (b:=w.heap.size) (o:=0) aJ Z ay Z (aa1 O (i:=0) Z) ?_);refine SA qn (λ_ W Ad=>?_);have O:=pb W O;have qr:=bB W qr;refine I ?_;refine aI (v:=.agg #[S x.1.1,S x.1.2,S x.2.1,S x.2.2]) (cF  rfl ?_) qr Z;refine ag (t:=4) (cs:=[S x.1.1,S x.1.2,S x.2.1,S x.2.2]) (b:=A1.heap.size) (o:=0) aJ Z ay ?_ ?_;exact Z;exact aa1 Ad (i:=0) Z
def eA {n:Int}(hn:In64 n)(ht:Tb w):
 CL 41 #[.int .i64 n] w (aC w λv w'=>v=QV n 1):=by
 refine aE func41 Z (I ?_);refine al aQ (λ_ A2 qr=>?_);have O:=A2.2;refine I ?_;refine clb BI (hc:=yo hn Rg dc (ht.ext O)) (hk:=?_);rintro _ _ Ab rfl;have⟨qr,O⟩:=bD Ab.2 qr O;refine I ?_;refine cl gd dU ?_;rintro _ _ qn rfl;have⟨qr,O⟩:=bD qn.2 qr O;refine SA qr (λ_ A1 W=>?_);have O:=bB A1 O;refine I ?_;refine aI (v:=QV n 1) (cF  rfl ?_) O Z;refine ag (t:=2) (cs:=[S (qR n 1).1,S (qR n 1).2]) (b:=w.heap.size) (o:=0) eB Z aM ?_ ?_;exact Z;exact aa1 W (i:=0) Z
def iL {b:Int}(h1:Q9 a b)(h2:Q9 c d)(ht:Tb w):
 CL 36 #[QV a b,QV c d] w (aC w λv w'=>v=.bool (decide (aG (a*d) (c*b)<0))):=by
 refine aE func36 Z (I ?_);refine bx (λ_ W qr=>?_);have O:=W.2;refine bx (λ_ A1 _=>?_);have⟨qr,O⟩:=bD A1.2 qr O;refine I ?_;refine cl ko (pF h1 h2 (ht.ext O)) ?_;rintro _ _ qn rfl;have O:=xt O qn.2;refine I ?_;exact ax (t:=4) (v:=.bool (decide ((aG (a*d) (c*b))<0))) Z O Z Z
def CC {x y:R}(hr:Rw w lo A (eX [x,y]))(hq:decide (k<0)=q)(hc:∀W,bF w W->CL 77 #[.agg #[S y.1,S y.2],.agg #[S x.1,S x.2]] W (aC W λv _=>v=.int .i64 k)):
 CL 82 #[.slice A 2 cp,.func (.func 77) #[] #[]] w (aC w λv w'=>v=.agg #[S (sB q x y).1,S (sB q x y).2]):=by
 obtain⟨LX,Ao,hA0,Ay⟩:=ik hr (i:=0) RW;obtain⟨bk1,o1,hA1,Ad⟩:=ik hr (i:=1) RW;refine aE func82 Z (I ?_);refine al aQ (λAb ny O=>?_);have A1:=ny.2;refine I ?_;refine ac (ah (i:=0) (oo:=Ao+0*2) kS aM Z hA0 Z dc Z ?_);refine ac (ar (cs:=[S x.1,S x.2]) (b:=LX) (o:=Ao+0*2) eB Z aM Z (λj u A2=>ac1 A1 (Ay j u A2)) ?_);refine al aQ (λ_ E4 od=>?_);have⟨O,A1⟩:=bD E4.2 O A1;refine SA od (λAw Af qr=>?_);have O:=pb Af O;have A1:=bB Af A1;refine I ?_;refine JT [(6,6),(14,31)] (λAs e W=>∃i:Nat,(2-i=As)/\(e 6=.int .i64 i)/\(1<=i/\i<=2)/\(Aw.heap.size<=W.heap.size)/\(bF w W)/\(au W w.heap.size 25 #[S [],S []])/\(au W Ab.heap.size 25 #[S ((VQ q x y i).1),S ((VQ q x y i).2)])) (2-1) ⟨1,rfl,rfl,dc,(qa0 _),A1,O,qr⟩ ?_;rintro _ _ Ap ⟨i,rfl,E7,hi,E9,qn,O,qr⟩;by_cases h0:i<2;obtain rfl:i=1:=J
 have qr:au Ap Ab.heap.size 25 #[S x.1,S x.2]:=qr;refine I ?_;refine bY 6 ?_;refine sf ?_;refine bl (λ_ _ _ _=>by refine ac (ah (i:=1) (oo:=o1+1*2) kS aM Z hA1 Z dc Z ?_);refine I ?_;exact cz) ?_;refine bl (λ_ _ Aq _=>by refine ac (ar (cs:=[S y.1,S y.2]) (b:=bk1) (o:=o1+1*2) eB Z aM Z (λj u A2=>ac1 (xt qn Aq) (Ad j u A2)) ?_);refine I ?_;exact cz) ?_;refine sf ?_;intro _ _ Ax _;have⟨O,qr,qn⟩:=bC Ax.2 O qr qn;refine ac (uo (vs:=[.agg #[S y.1,S y.2],.agg #[S x.1,S x.2]]) (lb:=[]) ko Z Z (hc _ qn) ?_);rintro _ _ E0 rfl;have⟨O,qr,qn⟩:=bC E0.2 O qr qn;refine I ?_;by_cases cy:k<0;refine I ?_;refine ac (ah (i:=1) (oo:=o1+1*2) kS aM Z hA1 Z dc Z ?_);refine ac (ar (cs:=[S y.1,S y.2]) (b:=bk1) (o:=o1+1*2) eB Z aM Z (λj u A2=>ac1 qn (Ad j u A2)) ?_);refine SA qr (λ_ Av Ar=>?_);have⟨O,qn,_⟩:=ks Av O qn;refine I ?_;refine ac (bb (a:=1) (b:=1) (c:=2) Z Z L7 Z ?_);refine I ?_;exact c6 (hk:=by decide) ⟨2,rfl,rfl,dc,U,qn,O,kc8⟩;refine I ?_;refine ac (bb (a:=1) (b:=1) (c:=2) Z Z L7 Z ?_);refine I ?_
 exact c6 (hk:=by decide) ⟨2,rfl,rfl,dc,U,qn,O,kc6⟩;obtain rfl:i=2:=J
 have qr:au Ap Ab.heap.size 25 #[S ((sB q x y).1),S ((sB q x y).2)]:=qr;refine I ?_;refine SA O (λ_ Am E1=>?_);have qr:=pb Am qr;have qn:=bB Am qn;refine I ?_;refine aI (v:=.agg #[S ((sB q x y).1),S ((sB q x y).2)]) (cF  rfl ?_) qn Z;refine ag (t:=4) (cs:=[S ((sB q x y).1),S ((sB q x y).2)]) (b:=w.heap.size) (o:=0) eB Z aM ?_ ?_;exact Z;exact aa1 E1 (i:=0) Z
def eO (a b c d:Int):R:=sB (decide (aG (c*b) (a*d)<0)) (qR a b) (qR c d)
def li (a b c d:Int):R:=sB (decide (0<aG (c*b) (a*d))) (qR a b) (qR c d)
def CE {x y:R}(hr:Rw w lo A (eX [x,y]))(hq:decide (0<k)=q)(hc:∀W,bF w W->CL 77 #[.agg #[S y.1,S y.2],.agg #[S x.1,S x.2]] W (aC W λv _=>v=.int .i64 k)):
 CL 104 #[.slice A 2 cp,.func (.func 77) #[] #[]] w (aC w λv w'=>v=.agg #[S (sB q x y).1,S (sB q x y).2]):=by
 obtain⟨LX,Ao,hA0,Ay⟩:=ik hr (i:=0) RW;obtain⟨bk1,o1,hA1,Ad⟩:=ik hr (i:=1) RW;refine aE func104 Z (I ?_);refine al aQ (λAb ny O=>?_);have A1:=ny.2;refine I ?_;refine ac (ah (i:=0) (oo:=Ao+0*2) kS aM Z hA0 Z dc Z ?_);refine ac (ar (cs:=[S x.1,S x.2]) (b:=LX) (o:=Ao+0*2) eB Z aM Z (λj u A2=>ac1 A1 (Ay j u A2)) ?_);refine al aQ (λ_ E4 od=>?_);have⟨O,A1⟩:=bD E4.2 O A1;refine SA od (λAw Af qr=>?_);have O:=pb Af O;have A1:=bB Af A1;refine I ?_;refine JT [(6,6),(14,31)] (λAs e W=>∃i:Nat,(2-i=As)/\(e 6=.int .i64 i)/\(1<=i/\i<=2)/\(Aw.heap.size<=W.heap.size)/\(bF w W)/\(au W w.heap.size 25 #[S [],S []])/\(au W Ab.heap.size 25 #[S ((VQ q x y i).1),S ((VQ q x y i).2)])) (2-1) ⟨1,rfl,rfl,dc,(qa0 _),A1,O,qr⟩ ?_;rintro _ _ Ap ⟨i,rfl,E7,hi,E9,qn,O,qr⟩;by_cases h0:i<2;obtain rfl:i=1:=J
 have qr:au Ap Ab.heap.size 25 #[S x.1,S x.2]:=qr;refine I ?_;refine bY 6 ?_;refine sf ?_;refine bl (λ_ _ _ _=>by refine ac (ah (i:=1) (oo:=o1+1*2) kS aM Z hA1 Z dc Z ?_);refine I ?_;exact cz) ?_;refine bl (λ_ _ Aq _=>by refine ac (ar (cs:=[S y.1,S y.2]) (b:=bk1) (o:=o1+1*2) eB Z aM Z (λj u A2=>ac1 (xt qn Aq) (Ad j u A2)) ?_);refine I ?_;exact cz) ?_;refine sf ?_;intro _ _ Ax _;have⟨O,qr,qn⟩:=bC Ax.2 O qr qn;refine ac (uo (vs:=[.agg #[S y.1,S y.2],.agg #[S x.1,S x.2]]) (lb:=[]) ko Z Z (hc _ qn) ?_);rintro _ _ E0 rfl;have⟨O,qr,qn⟩:=bC E0.2 O qr qn;refine I ?_;by_cases cy:0<k;refine I ?_;refine ac (ah (i:=1) (oo:=o1+1*2) kS aM Z hA1 Z dc Z ?_);refine ac (ar (cs:=[S y.1,S y.2]) (b:=bk1) (o:=o1+1*2) eB Z aM Z (λj u A2=>ac1 qn (Ad j u A2)) ?_);refine SA qr (λ_ Av Ar=>?_);have⟨O,qn,_⟩:=ks Av O qn;refine I ?_;refine ac (bb (a:=1) (b:=1) (c:=2) Z Z L7 Z ?_);refine I ?_;exact c6 (hk:=by decide) ⟨2,rfl,rfl,dc,U,qn,O,kc8⟩;refine I ?_;refine ac (bb (a:=1) (b:=1) (c:=2) Z Z L7 Z ?_);refine I ?_
 exact c6 (hk:=by decide) ⟨2,rfl,rfl,dc,U,qn,O,kc6⟩;obtain rfl:i=2:=J
 have qr:au Ap Ab.heap.size 25 #[S ((sB q x y).1),S ((sB q x y).2)]:=qr;refine I ?_;refine SA O (λ_ Am E1=>?_);have qr:=pb Am qr;have qn:=bB Am qn;refine I ?_;refine aI (v:=.agg #[S ((sB q x y).1),S ((sB q x y).2)]) (cF  rfl ?_) qn Z;refine ag (t:=4) (cs:=[S ((sB q x y).1),S ((sB q x y).2)]) (b:=w.heap.size) (o:=0) eB Z aM ?_ ?_;exact Z;exact aa1 E1 (i:=0) Z
def lj {b:Int}(hr:Rw w lo A (eX [qR a b,qR c d]))(h1:Q9 a b)(h2:Q9 c d)(ht:Tb w):
 CL 40 #[.slice A 2 cp] w (aC w λv w'=>v=.agg #[S ((eO a b c d).1),S ((eO a b c d).2)]):=by
 refine aE func40 Z (I ?_);refine al aQ (λ_ Ab qr=>?_);have O:=Ab.2;refine I ?_;refine cl HA (CC (x:=qR a b) (y:=qR c d) (hr.ext O) Z (λW e=>pF h2 h1 ((ht.ext O).ext e))) ?_;rintro _ _ qn rfl;have⟨qr,O⟩:=bD qn.2 qr O;refine SA qr (λ_ A2 A1=>?_);have O:=bB A2 O;refine I ?_;refine aI (v:=.agg #[S ((eO a b c d).1),S ((eO a b c d).2)]) (cF  rfl ?_) O Z;refine ag (t:=2) (cs:=[S ((eO a b c d).1),S ((eO a b c d).2)]) (b:=w.heap.size) (o:=0) eB Z aM ?_ ?_;exact Z;exact aa1 A1 (i:=0) Z
def ke {b:Int}(hr:Rw w lo A (eX [qR a b,qR c d]))(h1:Q9 a b)(h2:Q9 c d)(ht:Tb w):
 CL 55 #[.slice A 2 cp] w (aC w λv w'=>v=.agg #[S ((li a b c d).1),S ((li a b c d).2)]):=by
 refine aE func55 Z (I ?_);refine al aQ (λ_ Ab qr=>?_);have O:=Ab.2;refine I ?_;refine cl HB (CE (x:=qR a b) (y:=qR c d) (hr.ext O) Z (λW e=>pF h2 h1 ((ht.ext O).ext e))) ?_;rintro _ _ qn rfl;have⟨qr,O⟩:=bD qn.2 qr O;refine SA qr (λ_ A2 A1=>?_);have O:=bB A2 O;refine I ?_;refine aI (v:=.agg #[S ((li a b c d).1),S ((li a b c d).2)]) (cF  rfl ?_) O Z;refine ag (t:=2) (cs:=[S ((li a b c d).1),S ((li a b c d).2)]) (b:=w.heap.size) (o:=0) eB Z aM ?_ ?_;exact Z;exact aa1 A1 (i:=0) Z
def ni {b s t:Int}(h1:Q9 a b)(h2:Q9 c d)(h3:Q9 s t)(h4:Q9 (a*d-c*b) (b*d))(hs:0<s)(ht:Tb w):
 CL 39 #[.agg #[S (qR a b).1,S (qR a b).2],.agg #[S (qR c d).1,S (qR c d).2],.agg #[S (qR s t).1,S (qR s t).2]] w (aC w λv w'=>v=.agg #[S ((qR ((a*d-c*b)*t) (b*d*s)).1),S ((qR ((a*d-c*b)*t) (b*d*s)).2)]):=by
 refine aE func39 Z (I ?_);refine bx (λ_ Ay qr=>?_);have O:=Ay.2;refine bx (λ_ Af W=>?_);have⟨qr,O⟩:=bD Af.2 qr O;refine bx (λE0 Aq qn=>?_);have⟨qr,W,O⟩:=bC Aq.2 qr W O;refine al aQ (λ_ Ap A1=>?_);have⟨qr,W,qn,O⟩:=bW Ap.2 qr W qn O;refine I ?_;refine bY 10 ?_;refine sf ?_;refine aF (V:=.tuple #[.agg #[S ((qR (a*d-c*b) (b*d)).1),S ((qR (a*d-c*b) (b*d)).2)],.int .i64 0]) (λ_ _ Ax _=>?_) ?_;refine cl oT (uV h1 h2 (ht.ext (xt O Ax))) ?_;rintro _ _ E1 rfl;have Am:=E1.2;refine I ?_;exact fs ⟨Am,rfl⟩;refine sf ?_;refine aF (V:=.agg #[S ((qR (a*d-c*b) (b*d)).1),S ((qR (a*d-c*b) (b*d)).2)]) (λ_ _ _ _=>?_) ?_;refine cl gd dU ?_;rintro _ _ E4 rfl;have Aw:=E4.2;refine I ?_;exact fs ⟨Aw,rfl⟩;refine sf ?_;refine aF (V:=.tuple #[.agg #[S ((qR ((a*d-c*b)*t) ((b*d)*s)).1),S ((qR ((a*d-c*b)*t) ((b*d)*s)).2)],.int .i64 0]) (λ_ _ Ab _=>?_) ?_;refine cl OS (Pv h4 h3 hs (ht.ext (xt O Ab))) ?_;rintro _ _ Ar rfl;have As:=Ar.2;refine I ?_;exact fs ⟨As,rfl⟩;refine sf ?_;intro _ _ Av _;have⟨qr,W,qn,A1,O⟩:=eE Av.2 qr W qn A1 O;refine cl gd dU ?_;rintro _ _ Ao rfl;have⟨qr,W,qn,A1,O⟩:=eE Ao.2 qr W qn A1 O;refine SA A1 (λ_ A2 Ad=>?_);have⟨qr,W,qn⟩:=kt A2 qr W qn;have O:=bB A2 O;refine I ?_
 refine aI (v:=.agg #[S ((qR ((a*d-c*b)*t) ((b*d)*s)).1),S ((qR ((a*d-c*b)*t) ((b*d)*s)).2)]) (cF  rfl ?_) O Z;refine ag (t:=6) (cs:=[S ((qR ((a*d-c*b)*t) ((b*d)*s)).1),S ((qR ((a*d-c*b)*t) ((b*d)*s)).2)]) (b:=E0.heap.size) (o:=0) eB Z aM ?_ ?_;exact Z;exact aa1 Ad (i:=0) Z
def gD (h1:1<=pl)(h12:pl<=12):
 CL 29 #[.int .i64 pl] w (aC w λv w'=>v=.bool true):=by
 refine aE func29 Z (I ?_);exact ax (t:=2) (v:=.bool (decide ((pl:Int)<=12))) Z (aa2 _) (qb1 Value.bool (qa1 U)) Z
def ShR (q:R):Prop:=∃a b:Int,q=qR a b/\Q9 a b/\a.natAbs<10^12/\b<10^12
def pG {b:Int}(e:(l,m)=qR a b)(h:Q9 a b)(ha:a.natAbs<10^12)(hb:b<10^12)(ht:Tb w):
 CL 33 #[.agg #[S l,S m]] w (aC w λv w'=>v=.bool true):=by
 have h1:=yr e h ha;have h2:=yt e h hb;refine aE func33 Z (I ?_);refine bx (λ_ W qr=>?_);have O:=W.2;refine I ?_;refine cl qF (cB (ep _ _ _ (ht.ext O)) (Ny e h)) ?_;rintro _ _ A1 rfl;have⟨qr,O⟩:=bD A1.2 qr O;refine I ?_;refine cl DC (sS _ _) ?_;rintro _ _ qn rfl;have⟨qr,O⟩:=bD qn.2 qr O;refine I ?_;refine ac (cY (l:=body l) U9 Z ?_);refine I ?_;refine ac (cY (l:=m) U9 Z ?_);refine I ?_;exact ax (t:=2) (v:=.bool (decide ((((m).length:Nat):Int)<=12))) Z O (qb1 Value.bool (qa1 h2)) Z
def AD {b:Int}(e:(l,m)=qR a b)(h:Q9 a b)(ha:a.natAbs<10^12)(hb:b<10^12)(ht:Tb w):
 CL 76 #[.agg #[S l,S m]] w (aC w λv w'=>v=.bool false):=by
 refine aE func76 Z (I ?_);refine bx (λ_ qr _=>?_);have O:=qr.2;refine I ?_;refine cl BQ (pG e h ha hb (ht.ext O)) ?_;rintro _ _ W rfl;have O:=xt O W.2;refine I ?_;exact ax (t:=2) (v:=.bool false) Z O Z Z
def F9 {l:List R}(hr:Rw w lo A (eX l))(hn:l.length=n)(hb:n<=1000)(hg:Enters prog g)(hf:∀i<n,∀W,bF w W->CL g #[.agg #[S (iw l i).1,S (iw l i).2]] W (aC W λv _=>v=.bool false)):
 CL 128 #[.slice A n cp,.func (.func g) #[] #[]] w (aC w λv w'=>v=.int .i64 (-1)):=by
 refine aE func128 Z (I ?_);have Ab:=aa2 w;refine JT [(4,5),(8,18)] (λqn e W=>∃i:Nat,(n-i=qn)/\(e 8=.int .i64 i)/\(i<=n)/\(bF w W)) (n-0) ⟨0,rfl,rfl,(qa7 _),Ab⟩ ?_;rintro _ _ _ ⟨i,rfl,qr,hi,O⟩;by_cases hl:i<n;obtain⟨bk,o,hA,A2⟩:=ik (hr.ext O) (i:=i) U;refine I ?_;refine ac (ah (i:=i) (oo:=o+i*2) kS aM Z hA Z U Z ?_);refine ac (ar (cs:=[S (iw l i).1,S (iw l i).2]) (b:=bk) (o:=o+i*2) eB Z aM Z A2 ?_);refine ac (uo (vs:=[.agg #[S (iw l i).1,S (iw l i).2]]) (lb:=[]) hg Z Z (hf i U _ O) ?_);rintro _ _ A1 rfl;have O:=xt O A1.2;refine I ?_;refine ac (bb (a:=(i:Int)) (b:=1) (c:=((i+1:Nat):Int)) qr Z L7 U ?_);refine I ?_;exact c6 ⟨i+1,rfl,rfl,U,O⟩;refine I ?_;exact ax (t:=4) (v:=.int .i64 (-1)) Z O Z Z
def yB {l:List R}(hr:Rw w lo A (eX l))(hn:l.length=n)(hb:n<=1000)(hg:Enters prog g)(hf:∀i<n,∀W,bF w W->CL g #[.agg #[S (iw l i).1,S (iw l i).2]] W (aC W λv _=>v=.bool false)):
 CL 75 #[.slice A n cp,.func (.func g) #[] #[]] w (aC w λv w'=>v=.bool false):=by
 refine aE func75 Z (I ?_);refine cl ON (F9 (hr.ext (aa2 _)) hn hb hg (λi hi W e=>hf i hi W (xt (aa2 _) e))) ?_;rintro _ _ O rfl;have qr:=O.2;refine I ?_;exact ax (t:=4) (v:=.bool false) Z qr Z Z
def NI {l:List R}(h:i<l.length):iw l i∈l:=by unfold iw;simp[h]
def r7 {l:List R}(hr:Rw w lo A (eX l))(hn:l.length=n)(hb:n<=1000)(hs:∀q∈l,ShR q)(ht:Tb w):
 CL 35 #[.slice A n cp] w (aC w λv w'=>v=.bool true):=by
 refine aE func35 Z (I ?_);refine clb T5 (hc:=yB (hr.ext (aa2 _)) hn hb HC (λi hi W e=>by obtain⟨a,b,A1,qr,Ab,A2⟩:=hs _ (NI (l:=l) (i:=i) U);exact AD A1 qr Ab A2 ((ht.ext (aa2 _)).ext e))) (hk:=?_);rintro _ _ O rfl;have qn:=O.2;refine I ?_;exact ax (t:=2) (v:=.bool true) Z qn Z Z
def AE {b p n:Int}(e1:(l,m)=qR a b)(e2:(l',m')=qR p n)(q1:Q9 a b)(q2:Q9 p n)(ht:Tb w):
 CL 80 #[.func (.func 49) #[] #[],.agg #[S l,S m],.agg #[S l',S m']] w (aC w λv w'=>v=.agg #[S ((qR (a*n+p*b) (b*n)).1),S ((qR (a*n+p*b) (b*n)).2)]):=by
 refine aE func80 Z (I ?_);refine bx (λ_ Af qr=>?_);have O:=Af.2;refine bx (λA2 Ap W=>?_);have⟨qr,O⟩:=bD Ap.2 qr O;refine al aQ (λ_ Ad qn=>?_);have⟨qr,W,O⟩:=bC Ad.2 qr W O;refine I ?_;refine ac (uo (f:=49) (lb:=[]) (vs:=[.agg #[S l,S m],.agg #[S l',S m']]) DF Z Z (Po e1 e2 q1 q2 (ht.ext O)) ?_);rintro _ _ Ao rfl;have⟨qr,W,qn,O⟩:=bW Ao.2 qr W qn O;refine I ?_;refine cl tS pz ?_;rintro _ _ Ab rfl;have⟨qr,W,qn,O⟩:=bW Ab.2 qr W qn O;refine SA qn (λ_ A1 Am=>?_);have⟨qr,W⟩:=eR A1 qr W;have O:=bB A1 O;refine I ?_;refine aI (v:=.agg #[S ((qR (a*n+p*b) (b*n)).1),S ((qR (a*n+p*b) (b*n)).2)]) (cF  rfl ?_) O Z;refine ag (t:=6) (cs:=[S ((qR (a*n+p*b) (b*n)).1),S ((qR (a*n+p*b) (b*n)).2)]) (b:=A2.heap.size) (o:=0) eB Z aM ?_ ?_;exact Z;exact aa1 Am (i:=0) Z
def NJ {b:Int}{x y:R×R}(e1:x.1=qR a b)(e2:x.2=qR c d)(q1:Q9 a b)(q2:Q9 c d)(e3:y.1=qR a' b')(e4:y.2=qR c' d')(q3:Q9 a' b')(q4:Q9 c' d')(hb0:au w b0 96 #[.func (.func 49) #[] #[]])(hb1:au w b1 33 #[S x.1.1,S x.1.2,S x.2.1,S x.2.2])(hb2:au w b2 33 #[S y.1.1,S y.1.2,S y.2.1,S y.2.2])(ht:Tb w):
 CL 79 #[pT b0,pT b1,pT b2] w (aC w λv w'=>v=.agg #[S ((qR (a*b'+a'*b) (b*b')).1),S ((qR (a*b'+a'*b) (b*b')).2),S ((qR (c*d'+c'*d) (d*d')).1),S ((qR (c*d'+c'*d) (d*d')).2)]):=by
 have Ao:=bt hb0;have Aq:=bt hb1;have Ap:=bt hb2;refine aE func79 Z (I ?_);refine al ap (λ_ qn qr=>?_);have⟨hb1,hb0,hb2⟩:=rQ qn.2 hb1 hb0 hb2;have O:=qn.2;refine I ?_;refine bY 11 ?_;refine sf ?_;refine aF (V:=.agg #[S ((qR (a*b'+a'*b) (b*b')).1),S ((qR (a*b'+a'*b) (b*b')).2)]) (λ_ _ A1 _=>?_) ?_;refine cl qI (AE e1 e3 q1 q3 (ht.ext (xt O A1))) ?_;rintro _ _ Ad rfl;have Af:=Ad.2;refine I ?_;exact fs ⟨Af,rfl⟩;refine sf ?_;intro _ _ Am _;have⟨hb1,hb0,hb2,qr,O⟩:=eE Am.2 hb1 hb0 hb2 qr O;refine cl qI (AE e2 e4 q2 q4 (ht.ext O)) ?_;rintro _ _ Ab rfl;have⟨hb1,hb0,hb2,qr,O⟩:=eE Ab.2 hb1 hb0 hb2 qr O;refine ac (aV (vs:=[(0,.agg #[S ((qR (a*b'+a'*b) (b*b')).1),S ((qR (a*b'+a'*b) (b*b')).2)]),(1,.agg #[S ((qR (c*d'+c'*d) (d*d')).1),S ((qR (c*d'+c'*d) (d*d')).2)])]) (cells:=#[S ((qR (a*b'+a'*b) (b*b')).1),S ((qR (a*b'+a'*b) (b*b')).2),S ((qR (c*d'+c'*d) (d*d')).1),S ((qR (c*d'+c'*d) (d*d')).2)]) (pl:=[(0,2),(2,2)]) aJ ap GS Z GS ?_);refine SA qr (λ_ W A2=>?_);have⟨hb1,hb0,hb2⟩:=kt W hb1 hb0 hb2;have O:=bB W O;refine I ?_;refine aI (v:=.agg #[S ((qR (a*b'+a'*b) (b*b')).1),S ((qR (a*b'+a'*b) (b*b')).2),S ((qR (c*d'+c'*d) (d*d')).1),S ((qR (c*d'+c'*d) (d*d')).2)]) (cF  rfl ?_) O Z
 refine ag (t:=3) (cs:=[S ((qR (a*b'+a'*b) (b*b')).1),S ((qR (a*b'+a'*b) (b*b')).2),S ((qR (c*d'+c'*d) (d*d')).1),S ((qR (c*d'+c'*d) (d*d')).2)]) (b:=w.heap.size) (o:=0) aJ Z ay ?_ ?_;exact Z;exact aa1 A2 (i:=0) Z
def wJ {b:Int}{x y:R×R}(hx:y7 x)(hy:y7 y)(e1:x.1=qR a b)(e2:x.2=qR c d)(q1:Q9 a b)(q2:Q9 c d)(e3:y.1=qR a' b')(e4:y.2=qR c' d')(q3:Q9 a' b')(q4:Q9 c' d')(ht:Tb w):
 CL 38 #[.agg #[S x.1.1,S x.1.2,S x.2.1,S x.2.2],.agg #[S y.1.1,S y.1.2,S y.2.1,S y.2.2]] w (aC w λv w'=>v=.tuple #[.agg #[S ((qR (a*b'+a'*b) (b*b')).1),S ((qR (a*b'+a'*b) (b*b')).2),S ((qR (c*d'+c'*d) (d*d')).1),S ((qR (c*d'+c'*d) (d*d')).2)],.int .i64 0]):=by
 refine aE func38 Z (I ?_);refine bx (λAd Aw qr=>?_);have O:=Aw.2;refine bx (λAp Ay qn=>?_);have⟨qr,O⟩:=bD Ay.2 qr O;refine al ap (λAr Aq A1=>?_);have⟨qr,qn,O⟩:=bC Aq.2 qr qn O;refine I ?_;refine al Ma (λ_ As E1=>?_);have⟨qr,qn,A1,O⟩:=bW As.2 qr qn A1 O;refine SO E1 (λ_ Af A2=>?_);have⟨qr,qn,A1⟩:=kt Af qr qn A1;have O:=bB Af O;refine I ?_;refine ac (cL (vf:=[]) (vc:=[pT Ar.heap.size,pT w.heap.size,pT Ad.heap.size]) Z Z ?_);refine ac (ar (cs:=[S x.1.1,S x.1.2,S x.2.1,S x.2.2]) (b:=w.heap.size) (o:=0) aJ Z ay Z (aa1 qr (i:=0) Z) ?_);refine ac (ar (cs:=[S y.1.1,S y.1.2,S y.2.1,S y.2.2]) (b:=Ad.heap.size) (o:=0) aJ Z ay Z (aa1 qn (i:=0) Z) ?_);refine Ru (λ_ Av _ Ax=>?_);have⟨qr,qn,A1,A2,O⟩:=eE Av qr qn A1 A2 O;refine clb BM (hc:=mN (l:=[x,y]) (x:=(qR (a*b'+a'*b) (b*b'),qR (c*d'+c'*d) (d*d'))) Qy (aa4 Ax) Z RW (λz E0=>by rcases List.mem_cons.1 E0 with h|h;exact h▸hx;rw[List.mem_singleton.1 h];exact hy) (λW e=>NJ e1 e2 q1 q2 e3 e4 q3 q4 (A2.ext e) (qr.ext e) (qn.ext e) ((ht.ext O).ext e)) (ht.ext O)) (hk:=?_);rintro _ _ Ao rfl;have⟨qr,qn,A1,A2,O⟩:=eE Ao.2 qr qn A1 A2 O;refine I ?_;refine SA A1 (λ_ Ab Am=>?_);have⟨qr,qn,A2⟩:=kt Ab qr qn A2;have O:=bB Ab O;refine I ?_
 refine aI (v:=.tuple #[.agg #[S ((qR (a*b'+a'*b) (b*b')).1),S ((qR (a*b'+a'*b) (b*b')).2),S ((qR (c*d'+c'*d) (d*d')).1),S ((qR (c*d'+c'*d) (d*d')).2)],.int .i64 0]) (cn (r1:=.cell 4 33) (r2:=.tmp 5) Z ?_ ?_) O Z;refine ag (t:=4) (cs:=[S ((qR (a*b'+a'*b) (b*b')).1),S ((qR (a*b'+a'*b) (b*b')).2),S ((qR (c*d'+c'*d) (d*d')).1),S ((qR (c*d'+c'*d) (d*d')).2)]) (b:=Ap.heap.size) (o:=0) aJ Z ay ?_ ?_;exact Z;exact aa1 Am (i:=0) Z;exact aD (t:=5) Rd _
end
section
open Go Go.Eng Go.RowKit Tryz
def JU (F:R->Value)(es:List MapEntry):Prop:=∀e∈es,∃q:R,e.key=.agg #[S q.1,S q.2]/\e.val=F q
def jb (w:World)(b:Nat)(F:R->Value):Prop:=∃es clock,w.heap[b]?=some (.map es clock)/\JU F es.toList
def jb.ext {b:Nat}{F:R->Value}(k:bF w w')(h:jb w b F):jb w' b F:=by
 obtain⟨es,c,h1,h2⟩:=h
 exact⟨es,c,k.heap h1,h2⟩
def ab0:=@jb.ext
def jb.lt {b:Nat}{F:R->Value}(h:jb w b F):b<w.heap.size:=by
 obtain⟨_,c,h1,_⟩:=h
 exact(Array.getElem?_eq_some_iff.1 h1).1
def jb.ne {b c t:Nat}{F:R->Value}{cs:Array Value}(h:jb w b F)(k:au w c t cs):c≠b:=by
 obtain⟨_,_,h1,_⟩:=h
 unfold au at k
 intro e
 subst e
 rw[k]at h1;cases h1
def jb.put {b c:Nat}{F:R->Value}(k:fU w w' c)(hne:b≠c)(h:jb w b F):jb w' b F:=by
 obtain⟨es,cl,h1,h2⟩:=h
 exact⟨es,cl,(k.block b hne).trans h1,h2⟩
def ac0:=@jb.put
def YU (w:World)(em:Bool)(a:List UInt8)(n:Nat):(Instr.checkKey em (n+1) 9 (S a)).run prog w=.ok () w:=by
 unfold Instr.checkKey
 simp[run_underlying underlying9,S]
def Sm (w:World)(em:Bool)(q:R):(Instr.checkKey em 10000 25 (.agg #[S q.1,S q.2])).run prog w=.ok () w:=by
 show(Instr.checkKey em (9998+1+1) 25 _).run _ _=_
 unfold Instr.checkKey
 have p1:=nU w #[S q.1,S q.2] 0 (S q.1) Z
 have p2:=nU w #[S q.1,S q.2] 1 (S q.2) Z
 have c1:=YU w em q.1 9998
 have c2:=YU w em q.2 9998
 simp[run_underlying underlying25,p1,p2,c1,c2]
def Pw (w:World)(F:R->Value)(q:R):∀(es:List MapEntry) (i:Nat),JU F es->∃o:Option (Nat×Value),(Instr.findAsking 25 (.agg #[S q.1,S q.2]) es i).run prog w=.ok o w/\
 ∀j v,o=some (j,v)->v=F q/\i<=j/\∃e,es[j-i]?=some e/\e.key=.agg #[S q.1,S q.2]
 |[],i,_=>⟨none,by simp[Instr.findAsking],λj v h=>by cases h⟩
 | e ::es,i,h=>by
   obtain⟨p,hk,hv⟩:=h e RW
   have qr:=Vx w q p
   unfold Instr.findAsking
   by_cases hq:q=p
   · subst hq
     refine⟨some (i,e.val),by simp[hk,qr],λj v O=>?_⟩
     cases O
     exact⟨hv,qa0 _,e,by simp,hk⟩
   · obtain⟨o,h1,h2⟩:=Pw w F q es (i+1) (λx hx=>h x ke5)
     refine⟨o,by simp[hk,qr,hq,h1],λj v O=>?_⟩
     obtain⟨h3,h4,e',W,qn⟩:=h2 j v O
     refine⟨h3,by omega,e',?_,qn⟩
     rw[show j-i=(j-(i+1))+1 by omega,List.getElem?_cons_succ]
     exact W
def CF (w:World)(F:R->Value)(q:R)(es:List MapEntry)(h:JU F es):∃o:Option (Nat×Value),(Instr.findKey 25 (.agg #[S q.1,S q.2]) es).run prog w=.ok o w/\
 ∀j v,o=some (j,v)->v=F q/\∃e,es[j]?=some e/\e.key=.agg #[S q.1,S q.2]:=by
 cases es with
 |nil=>exact⟨none,by simp[Instr.findKey,run_underlying underlying25,Instr.findNow],λj v h=>by cases h⟩
 | cons e es=>
   obtain⟨o,h1,h2⟩:=Pw w F q (e::es) 0 h
   refine⟨o,?_,λj v W=>?_⟩
   · obtain⟨p,hk,_⟩:=h e RW
     have O:∀fs,Instr.findNow (.struct fs) (.agg #[S q.1,S q.2]) (e::es) 0=none:=λfs=>by simp[Instr.findNow,Instr.sameNow,hk]
     simp[Instr.findKey,run_underlying underlying25,O,h1]
   · obtain⟨h3,_,e',qr,qn⟩:=h2 j v W
     exact⟨h3,e',qr,qn⟩
def Z4:Value:=.agg #[S [],S [],S [],S []]
section
variable {r:Option Nat}{e:Nat->Value}{ds:List Deferred}{Q:Exit->Act->World->Prop}{K:Act->World->Prop}
variable {d ty:Nat}{pos:String}{af:Array Edge}{g:Option (Nat×Bool)}{v u:Value}{x y z:Operand}{t t':TypeId}{F:R->Value}{b:Nat}{q:R}
def Ga (hk:∀w',bF w w'->w'.heap.size=w.heap.size+1->jb w' w.heap.size F->K (act N (upd e d (.map (some w.heap.size))) ds) w'):
 Oper.wpIn (Fw r) n prog ⟨some d,.makeMap t none,ty,pos,af,g⟩ (act N e ds) w K Q:=by
 refine dG (v:=.map (some w.heap.size)) (w':=w.alloc (.map #[] 0)) Z ?_ (by rw[aw];exact hk _ (bF.alloc _ _) RW ⟨#[],0,heap_alloc_new w _,λe O=>by simp at O⟩)
 simp[execOp,run_makeMap]
def EC {b:Nat}{o:Obj}:fU w {w with heap:=w.heap.setIfInBounds b o} b:=
 ⟨rfl,rfl,rfl,by simp,λk hk=>by simp[Array.getElem?_setIfInBounds,Ne.symm hk]⟩
def vU (hx:ev N e x=.map (some b))(hy:ev N e y=.agg #[S q.1,S q.2])(hz:ev N e z=F q)(hM:jb w b F)(hk:∀w',fU w w' b->jb w' b F->K (act N e ds) w'):
 Oper.wpIn (Fw r) n prog ⟨none,.mapUpdate 89 x y z,ty,pos,af,g⟩ (act N e ds) w K Q:=by
 have O:=hM.lt
 obtain⟨es,c,h1,h2⟩:=hM
 obtain⟨o,h3,h4⟩:=CF w F q es.toList h2
 have hc:=Sm w false q
 cases o with
 | none=>
   refine xg (w':={w with heap:=w.heap.setIfInBounds b (.map (es.push {key:=.agg #[S q.1,S q.2],val:=F q,born:=c}) (c+1))}) Z ?_ (hk _ EC ⟨es.push {key:=.agg #[S q.1,S q.2],val:=F q,born:=c},c+1,by simp[O],λx hx=>?_⟩)
   · simp[execOp,Instr.mapUpdate,hx,hy,hz,run_underlying underlying89,MapKept.run_getObj_map h1,hc,h3,MapKept.run_setObj_map _ h1]
   · simp at hx
     rcases hx with hx|rfl
     · exact h2 x (by simpa using hx)
     · exact⟨q,rfl,rfl⟩
 | some p=>
   obtain⟨_,e',qn,qr⟩:=h4 p.1 p.2 Z
   have hs:(Instr.keyThatStays (.agg #[S q.1,S q.2]) (.agg #[S q.1,S q.2])).run prog w=.ok (.agg #[S q.1,S q.2]) w:=by
    have:Instr.sameBits 10000 (.agg #[S q.1,S q.2]) (.agg #[S q.1,S q.2])=true:=by
     show Instr.sameBits (9999+1) _ _=true
     have hb:∀x y:ByteArray,(x==y)=(x.data==y.data):=λx y=>by cases x;cases y;rfl
     simp[Instr.sameBits,S,hb]
    simp[Instr.keyThatStays,this]
   have W:es[p.1]?=some e':=by simpa using qn
   refine xg (w':={w with heap:=w.heap.setIfInBounds b (.map (es.modify p.1 λe=>{e with key:=.agg #[S q.1,S q.2],val:=F q}) c)}) Z ?_ (hk _ EC ⟨es.modify p.1 λe=>{e with key:=.agg #[S q.1,S q.2],val:=F q},c,by simp[O],λx hx=>?_⟩)
   · simp[execOp,Instr.mapUpdate,hx,hy,hz,run_underlying underlying89,MapKept.run_getObj_map h1,hc,h3,W,qr,hs,MapKept.run_setObj_map _ h1]
   · rw[Array.toList_modify]at hx
     obtain⟨i,hi⟩:=List.mem_iff_getElem?.1 hx
     rw[List.getElem?_modify]at hi
     cases hg:es.toList[i]? with
     |none=>rw[hg]at hi;simp at hi
     | some y=>
       rw[hg]at hi
       by_cases hp:p.1=i
       · simp[hp]at hi;exact⟨q,by rw[<-hi],by rw[<-hi]⟩
       · simp[hp]at hi;rw[<-hi];exact h2 y (List.mem_iff_getElem?.2 ⟨i,hg⟩)
end
def vV (G:R->R×R)(q:R):Value:=.agg #[S (G q).1.1,S (G q).1.2,S (G q).2.1,S (G q).2.2]
def JV (w:World)(b:Nat)(q:R):Prop:=∃es clock p,w.heap[b]?=some (.map es clock)/\(Instr.findKey 25 (.agg #[S q.1,S q.2]) es.toList).run prog w=.ok (some p) w
def Tb.grm {b:Nat}{F:R->Value}(k:w.grownBy w' (some b))(hM:jb w b F)(h:Tb w):Tb w':=by
 unfold Tb at *
 obtain⟨x,hx⟩:=h
 refine⟨x,?_⟩
 obtain⟨_,c,h1,_⟩:=hM
 rw[<-hx]
 refine k.block _ (Array.getElem?_eq_some_iff.1 hx).1 (λe=>?_)
 have O:=qb4 e
 rw[O,h1]at hx
 cases hx
section
variable {r:Option Nat}{e:Nat->Value}{ds:List Deferred}{Q:Exit->Act->World->Prop}{K:Act->World->Prop}
variable {d ty:Nat}{pos:String}{af:Array Edge}{g:Option (Nat×Bool)}{v u:Value}{x y z:Operand}{t t':TypeId}{G:R->R×R}{b:Nat}{q:R}
def NK (hx:ev N e x=.map (some b))(hy:ev N e y=.agg #[S q.1,S q.2])(hM:jb w b (vV G))(hL:JV w b q)(hk:K (act N (upd e d (.tuple #[.agg #[S (G q).1.1,S (G q).1.2,S (G q).2.1,S (G q).2.2],.bool true])) ds) w):
 Oper.wpIn (Fw r) n prog ⟨some d,.lookup 89 x y true,ty,pos,af,g⟩ (act N e ds) w K Q:=by
 obtain⟨es,c,h1,h2⟩:=hM
 obtain⟨_,_,p,O,l2⟩:=hL
 rw[h1]at O
 cases O
 obtain⟨o,h3,h4⟩:=CF w (vV G) q es.toList h2
 rw[l2]at h3
 cases h3
 obtain⟨qr,_⟩:=h4 p.1 p.2 Z
 have hc:=Sm w es.isEmpty q
 refine dG (v:=.tuple #[vV G q,.bool true]) (w':=w) Z ?_ Th
 simp[execOp,Instr.lookup,hx,hy,run_underlying underlying89,MapKept.run_getObj_map h1,hc,l2,qr]
def NL (hx:ev N e x=.map (some b))(hy:ev N e y=.agg #[S q.1,S q.2])(hM:jb w b (vV G))(hL:¬JV w b q)(hk:K (act N (upd e d (.tuple #[.agg #[S [],S [],S [],S []],.bool false])) ds) w):
 Oper.wpIn (Fw r) n prog ⟨some d,.lookup 89 x y true,ty,pos,af,g⟩ (act N e ds) w K Q:=by
 obtain⟨es,c,h1,h2⟩:=hM
 obtain⟨o,h3,_⟩:=CF w (vV G) q es.toList h2
 cases o with
 |some p=>exact absurd ⟨es,c,p,h1,h3⟩ hL
 | none=>
   have W:(zeroValue 33).run prog w=.ok Z4 w:=by
    obtain⟨i,qr,O,_,_⟩:=(ap:gK prog 33 _ _ _).parts
    simp[zeroValue,typeInfo,qr,O,Z4]
   have hc:=Sm w es.isEmpty q
   refine dG (v:=.tuple #[Z4,.bool false]) (w':=w) Z ?_ Th
   simp[execOp,Instr.lookup,hx,hy,run_underlying underlying89,MapKept.run_getObj_map h1,hc,h3,W]
def JW (hx:ev N e x=.map (some b))(hy:ev N e y=.agg #[S q.1,S q.2])(hz:ev N e z=.agg #[S (G q).1.1,S (G q).1.2,S (G q).2.1,S (G q).2.2])(hM:jb w b (vV G))(hk:∀w',fU w w' b->jb w' b (vV G)->K (act N e ds) w'):
 Oper.wpIn (Fw r) n prog ⟨none,.mapUpdate 89 x y z,ty,pos,af,g⟩ (act N e ds) w K Q:=vU hx hy hz hM hk
def jc {R:Value->World->Prop}{f:FuncId}{lb:List Value}{xs:Array Operand}{ats:Array TypeId}{vs:List Value}(hf:Enters prog f)(hx:ev N e x=.func (.func f) #[] lb.toArray)(hv:xs.toList.map (ev N e)=vs)(hc:CL f (vs++lb).toArray w (fp R))(hk:∀v w',R v w'->K (act N (upd e d v) ds) w'):Oper.wpIn (Fw r) n prog ⟨some d,.call {callee:=.value x,args:=xs,argTypes:=ats},ty,pos,af,g⟩ (act N e ds) w K Q:=by
 subst hv
 have h2:xs.map (ev N e)++lb.toArray=(xs.toList.map (ev N e)++lb).toArray:=by simp
 refine⟨λf _=>l8 r f,?_⟩
 have hs:(execOp (ev N e) ⟨some d,.call {callee:=.value x,args:=xs,argTypes:=ats},ty,pos,af,g⟩).run prog w=.ok (.enter f (xs.map (ev N e)++lb.toArray)) w:=by
  simp[execOp,resolve,Deferred.ofValue,hx,invoke,hf _ _]
 rw[kP Z,dI,hs]
 refine⟨(λh=>by rw[oO]at h;cases h),tv ((show CL f (xs.map (ev N e)++lb.toArray) w (fp R)from by rw[h2];exact hc).mono ?_)⟩
 intro e' w' h
 cases e' with
 | returned v=>
   show K ((act N e ds).put (some d) v) w'
   rw[aw];exact hk v w' h
 |panicked c=>exact h.elim
 |outgrown=>exact h.elim
def rk {a b' c' d':List UInt8}(hx:ev N e x=.agg #[S a,S b',S c',S d'])(hk:K (act N (upd e d (.agg #[S a,S b'])) ds) w):
 Oper.wpIn (Fw r) n prog ⟨some d,.field 33 x 0,ty,pos,af,g⟩ (act N e ds) w K Q:=by
 refine dG (v:=.agg #[S a,S b']) (w':=w) Z ?_ Th
 have p:=yu w a b' c' d'
 simp[execOp,Instr.field,hx,run_underlying underlying33,asAgg,p]
def lk {a b' c' d':List UInt8}(hx:ev N e x=.agg #[S a,S b',S c',S d'])(hk:K (act N (upd e d (.agg #[S c',S d'])) ds) w):
 Oper.wpIn (Fw r) n prog ⟨some d,.field 33 x 1,ty,pos,af,g⟩ (act N e ds) w K Q:=by
 refine dG (v:=.agg #[S c',S d']) (w':=w) Z ?_ Th
 have p:=yv w a b' c' d'
 simp[execOp,Instr.field,hx,run_underlying underlying33,asAgg,p]
end
end
section
open Go Go.Eng Go.RowKit Tryz
attribute [local irreducible] wpListIn Code.wpIn Oper.wpIn Exit.then Exit.inBlock Exit.noGoto
set_option maxHeartbeats 40000000
def Tb.putm {b:Nat}{F:R->Value}(k:fU w w' b)(hM:jb w b F)(h:Tb w):Tb w':=by
 unfold Tb at *
 obtain⟨x,hx⟩:=h
 refine⟨x,?_⟩
 obtain⟨_,c,h1,_⟩:=hM
 rw[<-hx]
 refine k.block _ (λe=>?_)
 rw[e,h1]at hx
 cases hx
set_option maxRecDepth 100000 in
def AF {b:Nat}{Gf:R->R×R}(hbm:au w bm 89 #[.map (some b)])(hbp:au w bp 3 #[.int .i64 pl])(hM:jb w b (vV Gf))(hF:∀W,Tb W->CL 69 #[.agg #[S l,S m],.int .i64 pl] W (aC W λv _=>v=.tuple #[.agg #[S ((Gf (l,m)).1.1),S ((Gf (l,m)).1.2),S ((Gf (l,m)).2.1),S ((Gf (l,m)).2.2)],.int .i64 0]))(ht:Tb w):
 CL 68 #[.agg #[S l,S m],pT bm,pT bp] w (fp λv w'=>w.grownBy w' (some b)/\jb w' b (vV Gf)/\v=.agg #[S ((Gf (l,m)).1.1),S ((Gf (l,m)).1.2),S ((Gf (l,m)).2.1),S ((Gf (l,m)).2.2)]):=by
 have G:=World.grownBy.refl w (some b);have Ek:=jb.lt hM;have EW:=bt hbm;have EE:=bt hbp;have n1:=jb.ne hM hbm;have n2:=jb.ne hM hbp;refine nM func68 Z (I ?_);refine bx (λE4 Ar O=>?_);have⟨hbm,hbp⟩:=jk Ar.2 hbm hbp;have hM:=ab0 Ar.2 hM;have ht:=aa7 Ar.2 ht;have G:=aS G Ar.2;refine al ap (λAx Ap qr=>?_);have⟨hbm,hbp⟩:=jk Ap.2 hbm hbp;have hM:=ab0 Ap.2 hM;have ht:=aa7 Ap.2 ht;have O:=be Ap.2 O;have G:=aS G Ap.2;refine I ?_;by_cases ny:JV Ax b (l,m);refine I ?_;refine ac (NK (b:=b) (q:=(l,m)) (G:=Gf) Z Z hM ny ?_);refine I ?_;refine al ap (λ_ As od=>?_);have⟨hbm,hbp⟩:=jk As.2 hbm hbp;have hM:=ab0 As.2 hM;have⟨O,qr⟩:=jk As.2 O qr;have G:=aS G As.2;refine SA od (λ_ Am E0=>?_);have⟨hbm,hbp⟩:=eR Am hbm hbp;have hM:=ac0 Am U hM;have⟨O,qr⟩:=eR Am O qr;have G:=de G Am U;have wr:=mC Am;refine I ?_;refine ac (ar (cs:=[S ((Gf (l,m)).1.1),S ((Gf (l,m)).1.2),S ((Gf (l,m)).2.1),S ((Gf (l,m)).2.2)]) (b:=Ax.heap.size) (o:=0) aJ Z ay Z (aa1 E0 (i:=0) Z) ?_);refine SA qr (λ_ Av E7=>?_);have⟨hbm,hbp⟩:=eR Av hbm hbp;have hM:=ac0 Av U hM;have⟨O,E0⟩:=eR Av O E0;have G:=de G Av U;refine I ?_;refine ge (v:=.agg #[S ((Gf (l,m)).1.1),S ((Gf (l,m)).1.2),S ((Gf (l,m)).2.1),S ((Gf (l,m)).2.2)]) (cF  rfl ?_) ⟨G,hM,rfl⟩
 refine ag (t:=4) (cs:=[S ((Gf (l,m)).1.1),S ((Gf (l,m)).1.2),S ((Gf (l,m)).2.1),S ((Gf (l,m)).2.2)]) (b:=E4.heap.size) (o:=0) aJ Z ay ?_ ?_;exact Z;exact aa1 E7 (i:=0) Z;refine I ?_;refine ac (NL (b:=b) (q:=(l,m)) (G:=Gf) Z Z hM ny ?_);refine I ?_;refine al ap (λ_ Af E1=>?_);have⟨hbm,hbp⟩:=jk Af.2 hbm hbp;have hM:=ab0 Af.2 hM;have ht:=aa7 Af.2 ht;have⟨O,qr⟩:=jk Af.2 O qr;have G:=aS G Af.2;refine SA E1 (λ_ qn A2=>?_);have⟨hbm,hbp⟩:=eR qn hbm hbp;have hM:=ac0 qn U hM;have ht:=Tb.put qn E1 dc ht;have⟨O,qr⟩:=eR qn O qr;have G:=de G qn U;have EP:=mC qn;refine I ?_;refine cl P9 (hF _ ht) ?_;rintro _ _ Ao rfl;have⟨hbm,hbp⟩:=jk Ao.2 hbm hbp;have hM:=ab0 Ao.2 hM;have ht:=aa7 Ao.2 ht;have⟨O,qr,A2⟩:=rQ Ao.2 O qr A2;have G:=aS G Ao.2;refine I ?_;refine cl tT (mU (x:=Gf (l,m))) ?_;rintro _ _ Ab rfl;have⟨hbm,hbp⟩:=jk Ab.2 hbm hbp;have hM:=ab0 Ab.2 hM;have ht:=aa7 Ab.2 ht;have⟨O,qr,A2⟩:=rQ Ab.2 O qr A2;have G:=aS G Ab.2;refine SA A2 (λ_ Ad A1=>?_);have⟨hbm,hbp⟩:=eR Ad hbm hbp;have hM:=ac0 Ad U hM;have ht:=Tb.put Ad A2 dc ht;have⟨O,qr⟩:=eR Ad O qr;have G:=de G Ad U;refine I ?_
 refine ac (ar (cs:=[S ((Gf (l,m)).1.1),S ((Gf (l,m)).1.2),S ((Gf (l,m)).2.1),S ((Gf (l,m)).2.2)]) (b:=Ax.heap.size) (o:=0) aJ Z ay Z (aa1 A1 (i:=0) Z) ?_);refine ac (JW (b:=b) (q:=(l,m)) (G:=Gf) Z Z Z hM (λ_ Aq Ay=>?_));have⟨hbm,hbp⟩:=eR Aq hbm hbp;have ht:=Tb.putm Aq hM ht;have⟨O,qr,A1⟩:=kt Aq O qr A1;have G:=xL G Aq;refine I ?_;refine ac (ar (cs:=[S ((Gf (l,m)).1.1),S ((Gf (l,m)).1.2),S ((Gf (l,m)).2.1),S ((Gf (l,m)).2.2)]) (b:=Ax.heap.size) (o:=0) aJ Z ay Z (aa1 A1 (i:=0) Z) ?_);refine SA qr (λ_ Aw E9=>?_);have⟨hbm,hbp⟩:=eR Aw hbm hbp;have Ay:=ac0 Aw U Ay;have⟨O,A1⟩:=eR Aw O A1;have G:=de G Aw U;refine I ?_;refine ge (v:=.agg #[S ((Gf (l,m)).1.1),S ((Gf (l,m)).1.2),S ((Gf (l,m)).2.1),S ((Gf (l,m)).2.2)]) (cF  rfl ?_) ⟨G,Ay,rfl⟩;refine ag (t:=4) (cs:=[S ((Gf (l,m)).1.1),S ((Gf (l,m)).1.2),S ((Gf (l,m)).2.1),S ((Gf (l,m)).2.2)]) (b:=E4.heap.size) (o:=0) aJ Z ay ?_ ?_;exact Z;exact aa1 E9 (i:=0) Z
def pI {p:Prop}(h:p:=by kernel_rfl):p:=h
def XL:Q9 9 1:=⟨by decide,by decide,by decide⟩
def XM:Q9 (-9) 1:=⟨by decide,by decide,by decide⟩
set_option maxRecDepth 100000 in
def rl {b0 ca cb za zb:Int}{b bn bf:Nat}{Gf:R->R×R}(qa:Q9 a b0)(qc:Q9 ca cb)(qz:Q9 za zb)(hca:eO 9 1 a b0=qR ca cb)(hza:li (-9) 1 ca cb=qR za zb)(hbm:au w bm 89 #[.map (some b)])(hbp:au w bp 3 #[.int .i64 pl])(hbn:au w bn 25 #[S (qR 9 1).1,S (qR 9 1).2])(hbf:au w bf 57 #[.func (.func 68) #[] #[pT bm,pT bp]])(hM:jb w b (vV Gf))(hFd:∀W,Tb W->CL 69 #[QV (dp za zb (aa 6)) (aa 6),.int .i64 pl] W (aC W λv _=>v=.tuple #[.agg #[S ((Gf (qR (dp za zb (aa 6)) (aa 6))).1.1),S ((Gf (qR (dp za zb (aa 6)) (aa 6))).1.2),S ((Gf (qR (dp za zb (aa 6)) (aa 6))).2.1),S ((Gf (qR (dp za zb (aa 6)) (aa 6))).2.2)],.int .i64 0]))(hFu:∀W,Tb W->CL 69 #[QV (dz za zb (aa 6)) (aa 6),.int .i64 pl] W (aC W λv _=>v=.tuple #[.agg #[S ((Gf (qR (dz za zb (aa 6)) (aa 6))).1.1),S ((Gf (qR (dz za zb (aa 6)) (aa 6))).1.2),S ((Gf (qR (dz za zb (aa 6)) (aa 6))).2.1),S ((Gf (qR (dz za zb (aa 6)) (aa 6))).2.2)],.int .i64 0]))(ht:Tb w):
 CL 70 #[QV a b0,pT bn,pT bf] w (fp λv w'=>w.grownBy w' (some b)/\jb w' b (vV Gf)/\v=.agg #[S ((Gf (qR (dp za zb (aa 6)) (aa 6))).1.1),S ((Gf (qR (dp za zb (aa 6)) (aa 6))).1.2),S ((Gf (qR (dz za zb (aa 6)) (aa 6))).2.1),S ((Gf (qR (dz za zb (aa 6)) (aa 6))).2.2)]):=by
 have fN:=bt hbm;have fT:=jb.ne hM hbm;have f6:=bt hbp;have f9:=jb.ne hM hbp;have fl:=bt hbn;have fD:=jb.ne hM hbn;have fi:=bt hbf;have WE:=jb.ne hM hbf;have G:=World.grownBy.refl w (some b);have f0:=jb.lt hM;refine nM func70 Z (I ?_);refine bx (λZA F6 L2=>?_);have⟨hbm,hbp,hbn,hbf⟩:=DW F6.2 hbm hbp hbn hbf;have hM:=ab0 F6.2 hM;have ht:=aa7 F6.2 ht;have G:=aS G F6.2;refine al ap (λT3 E4 ed=>?_);have⟨hbm,hbp,hbn,hbf⟩:=DW E4.2 hbm hbp hbn hbf;have hM:=ab0 E4.2 hM;have ht:=aa7 E4.2 ht;have L2:=be E4.2 L2;have G:=aS G E4.2;refine I ?_;have od:=aa8 T3
 refine uh g8 4 (λe0 ls e W=>∃Am:Nat,(∀t,y9 [5,6,7,8] t=false->e t=e0 t)/\(w.grownBy W (some b))/\(T3.heap.size<=W.heap.size)/\(ls 0=true->e 5=QV (-9) 1)/\(ls 1=true->e 6=QV 9 1)/\(ls 2=true->e 7=QV a b0)/\(ls 3=true->e 8=.slice (some ⟨Am,0,none⟩) 2 2)/\(ls 3=true->T3.heap.size<=Am)/\(au W bm 89 #[.map (some b)])/\(au W bp 3 #[.int .i64 pl])/\(au W bn 25 #[S (qR 9 1).1,S (qR 9 1).2])/\(au W bf 57 #[.func (.func 68) #[] #[pT bm,pT bp]])/\(jb W b (vV Gf))/\(Tb W)/\(au W w.heap.size 25 #[S (qR a b0).1,S (qR a b0).2])/\(au W ZA.heap.size 33 #[S [],S [],S [],S []])/\(ls 3=true->World.ownsRow W Am 25 2 (.slice (some ⟨Am,0,none⟩) 2 2) 2 [S (qR 9 1).1,S (qR 9 1).2,S (qR a b0).1,S (qR a b0).2])) ⟨0,(λ_ _=>rfl),(aS G od),(bz od),(ff Z),(ff Z),(ff Z),(ff Z),(ff Z),(be od hbm),(be od hbp),(be od hbn),(be od hbf),(ab0 od hM),(aa7 od ht),(be od L2),(be od ed),(λh=>ff Z h)⟩ pI pI ?_ ?_;refine⟨λZp _ _ ZN _ _ _=>?_,?_⟩;obtain⟨Am,Z5,G,F4,Ar,wr,As,Av,Ax,qn,A1,Ad,A2,qr,O,Af,Ab,Ay⟩:=ZN;obtain⟨Zp,rfl⟩:=aT Z5;have G4:=bt qn;have Ek:=bt A1;have F3:=bt Ad;have G3:=bt A2;have ZB:=bt Af;have EW:=bt Ab;refine clb gQ (hc:=eA (n:=(-9)) Rg O) (hk:=?_);rintro _ _ E0 rfl
 have⟨qn,A1,Ad,A2⟩:=DW E0.2 qn A1 Ad A2;have qr:=ab0 E0.2 qr;have O:=aa7 E0.2 O;have⟨Af,Ab⟩:=jk E0.2 Af Ab;have G:=aS G E0.2;refine I ?_;exact⟨rfl,_,(aw _ _ _ _ _).symm,Am,(bv Z Z5),G,U,(λ_=>rfl),wr,As,Av,Ax,(qn),(A1),(Ad),(A2),(qr),(O),(Af),(Ab),(λZQ=>(aX E0.2 (Ay ZQ)))⟩;refine⟨λa8 _ cq cd Zw ZU _=>?_,?_⟩;obtain⟨Am,Z8,G,F4,Ar,wr,As,Av,Ax,qn,A1,Ad,A2,qr,O,Af,Ab,Ay⟩:=cd;obtain⟨a8,rfl⟩:=aT Z8;have d3:cq 3=false:=(js Zw (i:=1) (j:=3) Z ZU);refine I ?_;exact⟨rfl,_,(aw _ _ _ _ _).symm,Am,(bv Z Z8),G,U,Ar,(λ_=>rfl),As,Av,Ax,(qn),(A1),(Ad),(A2),(qr),(O),(Af),(Ab),(λZF=>ff d3 ZF)⟩;refine⟨λZR _ e2 cy d4 d5 _=>?_,?_⟩;obtain⟨Am,Wa,G,F4,Ar,wr,As,Av,Ax,qn,A1,Ad,A2,qr,O,Af,Ab,Ay⟩:=cy;obtain⟨ZR,rfl⟩:=aT Wa;have Zo:e2 3=false:=(js d4 (i:=2) (j:=3) Z d5);refine I ?_;exact⟨rfl,_,(aw _ _ _ _ _).symm,Am,(bv Z Wa),G,U,Ar,wr,(λ_=>rfl),Av,Ax,(qn),(A1),(Ad),(A2),(qr),(O),(Af),(Ab),(λZm=>ff Zo Zm)⟩;refine⟨λIx d0 Z2 Zx _ _ Wb=>?_,?_⟩;obtain⟨Am,X2,G,F4,Ar,wr,As,Av,Ax,qn,A1,Ad,A2,qr,O,Af,Ab,Ay⟩:=Zx;obtain⟨Ix,rfl⟩:=aT X2;have cv:Z2 2=true:=(Wb 2 Z);have d6:Z2 1=true:=(Wb 1 Z);have aH:Ix 6=QV 9 1:=wr d6
 have ZH:Ix 7=QV a b0:=As cv;have G4:=bt qn;have Ek:=bt A1;have F3:=bt Ad;have G3:=bt A2;have ZB:=bt Af;have EW:=bt Ab;refine ac (ej (vs:=[(0,QV 9 1),(1,QV a b0)]) (cells:=#[S (qR 9 1).1,S (qR 9 1).2,S (qR a b0).1,S (qR a b0).2]) kS aQ (aK aH (aK ZH Z)) dc dc pI Z dc (λ_ E7 _ eg=>?_));have⟨qn,A1,Ad,A2⟩:=DW E7 qn A1 Ad A2;have qr:=ab0 E7 qr;have O:=aa7 E7 O;have⟨Af,Ab⟩:=jk E7 Af Ab;have G:=aS G E7;refine I ?_;exact⟨rfl,_,(aw _ _ _ _ _).symm,d0.heap.size,(bv Z X2),G,U,Ar,wr,As,(λ_=>rfl),(λ_=>U),(qn),(A1),(Ad),(A2),(qr),(O),(Af),(Ab),(λ_=>eg)⟩;exact trivial;intro Jx _ _ K2 dq;obtain⟨Am,ZG,G,F4,Ar,wr,As,Av,Ax,qn,A1,Ad,A2,qr,O,Af,Ab,Ay⟩:=dq;obtain⟨Jx,rfl⟩:=aT ZG;have G4:=bt qn;have Ek:=bt A1;have F3:=bt Ad;have G3:=bt A2;have ZB:=bt Af;have EW:=bt Ab;have Zn:=Ay (K2 3 Z);have Zv:Jx 8=.slice (some ⟨Am,0,none⟩) 2 (2):=(Av (K2 3 Z));refine clb qJ (hc:=fM (Y:=QV ca cb) (lj (a:=9) (b:=1) (c:=a) (d:=b0) (aa4 Zn) XL qa O) (by rw[hca])) (hk:=?_) (hv:=ai Zv Z);rintro _ _ EE rfl;have⟨qn,A1,Ad,A2⟩:=DW EE.2 qn A1 Ad A2;have qr:=ab0 EE.2 qr;have O:=aa7 EE.2 O;have⟨Af,Ab⟩:=jk EE.2 Af Ab;have G:=aS G EE.2;have an:Jx 5=QV (-9) 1:=(Ar (K2 0 Z))
 refine ac (ej (vs:=[(0,QV (-9) 1),(1,QV ca cb)]) (cells:=#[S ((qR (-9) 1).1),S ((qR (-9) 1).2),S (qR ca cb).1,S (qR ca cb).2]) kS aQ (aK an (aK Z Z)) dc dc pI Z dc (λ_ E1 _ ZX=>?_));have⟨qn,A1,Ad,A2⟩:=DW E1 qn A1 Ad A2;have qr:=ab0 E1 qr;have O:=aa7 E1 O;have⟨Af,Ab⟩:=jk E1 Af Ab;have G:=aS G E1;refine clb mo (hc:=fM (Y:=QV za zb) (ke (a:=-9) (b:=1) (c:=ca) (d:=cb) (aa4 ZX) XM qc O) (by rw[hza])) (hk:=?_);rintro _ _ EP rfl;have⟨qn,A1,Ad,A2⟩:=DW EP.2 qn A1 Ad A2;have qr:=ab0 EP.2 qr;have O:=aa7 EP.2 O;have⟨Af,Ab⟩:=jk EP.2 Af Ab;have G:=aS G EP.2;refine SA Af (λF7 E9 Aq=>?_);have⟨qn,A1,Ad,A2⟩:=wm E9 qn A1 Ad A2;have qr:=ac0 E9 U qr;have O:=Tb.put E9 Af dc O;have Ab:=pb E9 Ab;have G:=de G E9 U;refine I ?_
 refine kJ g8 16 [12,13,14,15,16,17,18,19,20,21,22,23,24,25,26,27] [some (12,.func (.func 68) #[] #[pT bm,pT bp]),some (13,QV za zb),some (14,.tuple #[QV (dp za zb (aa 6)) (aa 6),.int .i64 0]),some (15,QV (dp za zb (aa 6)) (aa 6)),some (16,.int .i64 0),some (17,QV (dp za zb (aa 6)) (aa 6)),some (18,.agg #[S ((Gf (qR (dp za zb (aa 6)) (aa 6))).1.1),S ((Gf (qR (dp za zb (aa 6)) (aa 6))).1.2),S ((Gf (qR (dp za zb (aa 6)) (aa 6))).2.1),S ((Gf (qR (dp za zb (aa 6)) (aa 6))).2.2)]),some (19,.agg #[S ((Gf (qR (dp za zb (aa 6)) (aa 6))).1.1),S ((Gf (qR (dp za zb (aa 6)) (aa 6))).1.2)]),some (20,.func (.func 68) #[] #[pT bm,pT bp]),some (21,QV za zb),some (22,.tuple #[QV (dz za zb (aa 6)) (aa 6),.int .i64 0]),some (23,QV (dz za zb (aa 6)) (aa 6)),some (24,.int .i64 0),some (25,QV (dz za zb (aa 6)) (aa 6)),some (26,.agg #[S ((Gf (qR (dz za zb (aa 6)) (aa 6))).1.1),S ((Gf (qR (dz za zb (aa 6)) (aa 6))).1.2),S ((Gf (qR (dz za zb (aa 6)) (aa 6))).2.1),S ((Gf (qR (dz za zb (aa 6)) (aa 6))).2.2)]),some (27,.agg #[S ((Gf (qR (dz za zb (aa 6)) (aa 6))).2.1),S ((Gf (qR (dz za zb (aa 6)) (aa 6))).2.2)])] (XG (λW=>F7.grownBy W (some b)/\jb W b (vV Gf))) ⟨aS (World.grownBy.refl F7 _) (aa8 F7),ab0 (aa8 F7) qr⟩ pI pI pI ?_ ?_
 refine⟨λZs _ _ a3 _ Z0 _ _ _=>?_,?_⟩;obtain⟨Zs,rfl⟩:=aT a3;have f2:=(aa0 Z0.1 Hx A2);refine I ?_;exact uT Z Z0;refine⟨λbc _ _ cx _ W0 _ _ _=>?_,?_⟩;obtain⟨bc,rfl⟩:=aT cx;have et:=(aa0 W0.1 Hx Aq);refine I ?_;exact uT Z W0;refine⟨λb6 _ _ ZO ct F5 _ _ _=>?_,?_⟩;obtain⟨b6,rfl⟩:=aT ZO;have bd:=ba (ct 1 _ _ Z Z);have O:=(Tb.grm F5.1 qr O);have G:=aY G F5.1;refine clb Hr (hc:=Aj (l:=(qR za zb).1) (m:=(qR za zb).2) (pl:=6) Z qz dc O) (hk:=?_) (hv:=ai bd (ai Z Z));rintro _ _ N1 rfl;have G:=aS G N1.2;refine I ?_;exact uT Z ⟨aS F5.1 N1.2,ab0 N1.2 F5.2⟩;refine⟨λbH _ _ at2 a7 e1 _ _ _=>?_,?_⟩;obtain⟨bH,rfl⟩:=aT at2;have f4:=ba (a7 2 _ _ Z Z);refine I ?_;exact uT Z e1;refine⟨λc8 _ _ at9 Zy bL _ _ _=>?_,?_⟩;obtain⟨c8,rfl⟩:=aT at9;have f7:=ba (Zy 2 _ _ Z Z);refine I ?_;exact uT Z bL;refine⟨λZu _ _ ab W3 F1 _ _ _=>?_,?_⟩;obtain⟨Zu,rfl⟩:=aT ab;have a4:=ba (W3 3 _ _ Z Z);have a9:=ba (W3 4 _ _ Z Z);have O:=(Tb.grm F1.1 qr O);have G:=aY G F1.1;refine cl gd dU ?_ (ai a4 (ai a9 Z));rintro _ _ No rfl;have G:=aS G No.2;refine I ?_;exact uT Z ⟨aS F1.1 No.2,ab0 No.2 F1.2⟩
 refine⟨λe4 _ _ Zl ZC Ap _ _ _=>?_,?_⟩;obtain⟨e4,rfl⟩:=aT Zl;have ZE:=ba (ZC 0 _ _ Z Z);have bq:=ba (ZC 5 _ _ Z Z);have qn:=(aa0 Ap.1 Hx qn);have A1:=(aa0 Ap.1 Hx A1);have Ad:=(aa0 Ap.1 Hx Ad);have A2:=(aa0 Ap.1 Hx A2);have O:=(Tb.grm Ap.1 qr O);have Aq:=(aa0 Ap.1 Hx Aq);have Ab:=(aa0 Ap.1 Hx Ab);have qr:=Ap.2;have G4:=bt qn;have Ek:=bt A1;have F3:=bt Ad;have G3:=bt A2;have cT:=bt Aq;have EW:=bt Ab;have G:=aY G Ap.1;refine ac (jc (vs:=[QV (dp za zb (aa 6)) (aa 6)]) (lb:=[pT bm,pT bp]) HD ZE (ai bq Z) (AF (l:=(qR (dp za zb (aa 6)) (aa 6)).1) (m:=(qR (dp za zb (aa 6)) (aa 6)).2) qn A1 qr hFd O) ?_);rintro _ _ ⟨Kp,Zk,rfl⟩;have O:=Tb.grm Kp qr O;have G:=aY G Kp;refine I ?_;exact uT Z ⟨aY Ap.1 Kp,Zk⟩;refine⟨λZS _ _ b9 ZZ ZV _ _ _=>?_,?_⟩;obtain⟨ZS,rfl⟩:=aT b9;have Zq:=ba (ZZ 6 _ _ Z Z);refine ac (rk Zq ?_);refine I ?_;exact uT Z ZV;refine⟨λZK _ _ cw _ Z7 _ _ _=>?_,?_⟩;obtain⟨ZK,rfl⟩:=aT cw;have fc:=(aa0 Z7.1 Hx A2);refine I ?_;exact uT Z Z7;refine⟨λa6 _ _ cr _ T4 _ _ _=>?_,?_⟩;obtain⟨a6,rfl⟩:=aT cr;have f3:=(aa0 T4.1 Hx Aq);refine I ?_;exact uT Z T4
 refine⟨λZI _ _ em arr F2 _ _ _=>?_,?_⟩;obtain⟨ZI,rfl⟩:=aT em;have en:=ba (arr 9 _ _ Z Z);have O:=(Tb.grm F2.1 qr O);have G:=aY G F2.1;refine clb Hs (hc:=Jv (l:=(qR za zb).1) (m:=(qR za zb).2) (pl:=6) Z qz dc O) (hk:=?_) (hv:=ai en (ai Z Z));rintro _ _ Ne rfl;have G:=aS G Ne.2;refine I ?_;exact uT Z ⟨aS F2.1 Ne.2,ab0 Ne.2 F2.2⟩;refine⟨λad _ _ e5 cf ZM _ _ _=>?_,?_⟩;obtain⟨ad,rfl⟩:=aT e5;have f5:=ba (cf 10 _ _ Z Z);refine I ?_;exact uT Z ZM;refine⟨λc9 _ _ dd ZY e3 _ _ _=>?_,?_⟩;obtain⟨c9,rfl⟩:=aT dd;have er:=ba (ZY 10 _ _ Z Z);refine I ?_;exact uT Z e3;refine⟨λZL _ _ dn Z9 F8 _ _ _=>?_,?_⟩;obtain⟨ZL,rfl⟩:=aT dn;have ZP:=ba (Z9 11 _ _ Z Z);have co:=ba (Z9 12 _ _ Z Z);have O:=(Tb.grm F8.1 qr O);have G:=aY G F8.1;refine cl gd dU ?_ (ai ZP (ai co Z));rintro _ _ T2 rfl;have G:=aS G T2.2;refine I ?_;exact uT Z ⟨aS F8.1 T2.2,ab0 T2.2 F8.2⟩;refine⟨λe6 _ _ aB W1 Ao _ _ _=>?_,?_⟩;obtain⟨e6,rfl⟩:=aT aB;have ZW:=ba (W1 8 _ _ Z Z);have a5:=ba (W1 13 _ _ Z Z);have qn:=(aa0 Ao.1 Hx qn);have A1:=(aa0 Ao.1 Hx A1);have Ad:=(aa0 Ao.1 Hx Ad);have A2:=(aa0 Ao.1 Hx A2)
 have O:=(Tb.grm Ao.1 qr O);have Aq:=(aa0 Ao.1 Hx Aq);have Ab:=(aa0 Ao.1 Hx Ab);have qr:=Ao.2;have G4:=bt qn;have Ek:=bt A1;have F3:=bt Ad;have G3:=bt A2;have cT:=bt Aq;have EW:=bt Ab;have G:=aY G Ao.1;refine ac (jc (vs:=[QV (dz za zb (aa 6)) (aa 6)]) (lb:=[pT bm,pT bp]) HD ZW (ai a5 Z) (AF (l:=(qR (dz za zb (aa 6)) (aa 6)).1) (m:=(qR (dz za zb (aa 6)) (aa 6)).2) qn A1 qr hFu O) ?_);rintro _ _ ⟨S1,Zr,rfl⟩;have O:=Tb.grm S1 qr O;have G:=aY G S1;refine I ?_;exact uT Z ⟨aY Ao.1 S1,Zr⟩;refine⟨λbT _ _ b7 ZJ cm _ _ _=>?_,?_⟩;obtain⟨bT,rfl⟩:=aT b7;have a0:=ba (ZJ 14 _ _ Z Z);refine ac (lk a0 ?_);refine I ?_;exact uT Z cm;exact trivial;intro Zz _ _ _ ZT W2 Aw;obtain⟨Zz,rfl⟩:=aT ZT;have Z1:=(aa0 Aw.1 Hx qn);have Z3:=(aa0 Aw.1 Hx A1);have TT:=(aa0 Aw.1 Hx Ad);have Z6:=(aa0 Aw.1 Hx A2);have R1:=Aw.2;have ZD:=(aa0 Aw.1 Hx Aq);have ch:=(aa0 Aw.1 Hx Ab);have G:=aY G Aw.1;have aL:=ba (W2 7 _ _ Z Z);have e7:=ba (W2 15 _ _ Z Z)
 refine ac (aV (vs:=[(0,.agg #[S ((Gf (qR (dp za zb (aa 6)) (aa 6))).1.1),S ((Gf (qR (dp za zb (aa 6)) (aa 6))).1.2)]),(1,.agg #[S ((Gf (qR (dz za zb (aa 6)) (aa 6))).2.1),S ((Gf (qR (dz za zb (aa 6)) (aa 6))).2.2)])]) (cells:=#[S ((Gf (qR (dp za zb (aa 6)) (aa 6))).1.1),S ((Gf (qR (dp za zb (aa 6)) (aa 6))).1.2),S ((Gf (qR (dz za zb (aa 6)) (aa 6))).2.1),S ((Gf (qR (dz za zb (aa 6)) (aa 6))).2.2)]) (pl:=[(0,2),(2,2)]) aJ ap pI (aK aL (aK e7 Z)) pI ?_);refine SA ch (λ_ ny Zt=>?_);have⟨Z1,Z3,TT,Z6⟩:=wm ny Z1 Z3 TT Z6;have R1:=ac0 ny U R1;have ZD:=pb ny ZD;have G:=de G ny U;refine I ?_;refine ge (v:=.agg #[S ((Gf (qR (dp za zb (aa 6)) (aa 6))).1.1),S ((Gf (qR (dp za zb (aa 6)) (aa 6))).1.2),S ((Gf (qR (dz za zb (aa 6)) (aa 6))).2.1),S ((Gf (qR (dz za zb (aa 6)) (aa 6))).2.2)]) (cF  rfl ?_) ⟨G,R1,rfl⟩;refine ag (t:=4) (cs:=[S ((Gf (qR (dp za zb (aa 6)) (aa 6))).1.1),S ((Gf (qR (dp za zb (aa 6)) (aa 6))).1.2),S ((Gf (qR (dz za zb (aa 6)) (aa 6))).2.1),S ((Gf (qR (dz za zb (aa 6)) (aa 6))).2.2)]) (b:=ZA.heap.size) (o:=0) aJ Z ay ?_ ?_;exact Z;exact aa1 Zt (i:=0) Z
end
section
open Go Go.Eng Go.RowKit Tryz
def VR (w:World):(Op.equal 20 .nilIface .nilIface).run prog w=.ok true w:=by
 unfold Op.equal Op.maxDepth
 show(Op.equalIn (9999+1) 20 _ _).run _ _=_
 unfold Op.equalIn
 simp[run_underlying underlying20]
set_option maxRecDepth 100000 in
def pJ :
 CallsDIn Fence.wide n prog 30 #[pT b1,pT b2] .returning w (λe u' w'=>(∃v,e=.returned v)/\u'=.returning/\w'=w):=by
 refine Xo (args:=[pT b1,pT b2]) func30 Z (λ_ _ hu=>?_)
 refine wpS_seq ?_
 refine Jn (rest:=[1]) Z Z (by simp[recoverD,hu]) (oG (v:=.nilIface) Z Z (Jo ?_))
 refine wpS_of_wp (wpIn_wide (n:=0).1 ?_)
 refine nK (r:=none) ?_
 refine tF (r:=none) ?_
 refine ac (r:=none) (di (v:=.nilIface) Z ?_)
 have h:(Instr.typeAssert .nilIface 20 34 true).run prog w=.ok (.tuple #[.int .i64 0,.bool false]) w:=by
  obtain⟨i,O,qr,_,_⟩:=(lT:gK prog 34 _ _ _).parts
  unfold Instr.typeAssert
  simp[run_underlying underlying34,zeroValue,typeInfo,O,qr]
 refine ac (r:=none) (dG (v:=.tuple #[.int .i64 0,.bool false]) (w':=w) Z ?_ ?_)
 · simp only[execOp]
   exact qb1 (λr=>Result.andThen r λa w'=>Result.ok (Next.value a) w') h
 rw[aw]
 refine ac (r:=none) (di (v:=.tuple #[.int .i64 0,.bool false]) Z ?_)
 refine ac (r:=none) (eS (v:=.int .i64 0) Z Z ?_)
 refine ac (r:=none) (eS (v:=.bool false) Z Z ?_)
 refine ac (r:=none) (bO (v:=.int .i64 0) Z ?_)
 refine ac (r:=none) (bO (v:=.bool false) Z ?_)
 refine lS ?_
 refine jG ?_
 refine nK (r:=none) ?_
 refine tF (r:=none) ?_
 refine ac (r:=none) (di (v:=.bool false) Z ?_)
 refine lS ?_
 refine jG ?_
 refine lz (r:=none) Z ?_
 refine nK (r:=none) ?_
 refine tF (r:=none) ?_
 refine ac (r:=none) (di (v:=.nilIface) Z ?_)
 refine ac (r:=none) (fV (X:=.nilIface) (Y:=.nilIface) (v:=.bool false) Z Z ?_ ?_ ?_)
 · unfold eqGuard
   simp
 · simp[binOp,VR]
 refine lS ?_
 refine jG ?_
 refine lz (r:=none) Z ?_
 refine oh (r:=none) ?_
 exact⟨rfl,.returning,by rw[<-hu],_,BC Z,⟨_,rfl⟩,rfl,rfl⟩
abbrev TM (g b1 b2:Nat):Deferred:={target:=.fn (.func g) #[],args:=#[pT b1,pT b2]}
section
variable {P:Program}{r:Option Nat}{e:Nat->Value}{ds:List Deferred}{Q:Exit->Act->World->Prop}{K:Act->World->Prop}
variable {d ty:Nat}{pos:String}{af:Array Edge}{ats:Array TypeId}{g:Option (Nat×Bool)}{x y:Operand}
def pK {f:Nat}(hx:ev N e x=pT b1)(hy:ev N e y=pT b2)(hk:K (act N e (TM f b1 b2::ds)) w):
 Oper.wpIn (Fw none) n P ⟨none,.defer {callee:=.value (.func f),args:=#[x,y],argTypes:=ats},ty,pos,af,g⟩ (act N e ds) w K Q:=by
 refine⟨λf _=>l8 none f,?_⟩
 rw[tu,Oper.semAt_none,dI]
 have:(execOp (ev N e) (⟨none,.defer {callee:=.value (.func f),args:=#[x,y],argTypes:=ats},ty,pos,af,g⟩:Oper)).run P w=.ok (.defer (TM f b1 b2)) w:=by
  have hf:ev N e (.func f)=.func (.func f) #[] #[]:=rfl
  simp[execOp,resolve,Deferred.ofValue,hx,hy,hf]
 rw[this]
 exact hk
end
def CG {fn:Func}{e:Nat->Value}{R:Value->World->Prop}{v:Value}(hg:Enters prog g)(hc:Js g b1 b2)(hx:bF w w')(hr:(results fn (act N e [TM g b1 b2]).tmps).run prog w'=.ok v w')(hR:R v w'):
 bodyPostDIn Fence.wide 0 prog fn (aC w R) .ret (act N e [TM g b1 b2]) w':=by
 refine leavesIn_cons (f:=g) (args:=#[pT b1,pT b2]) RW (by simp[Fence.wide]) ?_ (λ_ _=>trivial) ?_
 · have h:=hg #[pT b1,pT b2] w'
   simpa[invoke]using h
 · refine CallsDIn.mono (hc _ _) ?_
   rintro _ _ _ ⟨⟨O,rfl⟩,rfl,rfl⟩
   exact⟨v,hr,hx,hR⟩
end
section
open Go Go.Eng Go.RowKit Tryz
attribute [local irreducible] wpListIn Code.wpIn Oper.wpIn Exit.then Exit.inBlock Exit.noGoto
set_option maxHeartbeats 40000000
def NM:gK prog 89 (.map none) 1 8:=by unfold gK;kernel_rfl
structure XN (w:World)(lo b bm bp bn bf pl:Nat)(Gf:R->R×R):Prop where
 mp:jb w b (vV Gf)
 hm:au w bm 89 #[.map (some b)]
 hp:au w bp 3 #[.int .i64 pl]
 hn:au w bn 25 #[S (qR 9 1).1,S (qR 9 1).2]
 hf:au w bf 57 #[.func (.func 68) #[] #[pT bm,pT bp]]
 lo:lo<=b/\lo<=bm/\lo<=bp/\lo<=bn/\lo<=bf
set_option maxRecDepth 100000 in
def uW {Gf:R->R×R}(ht:Tb w):
 CL 31 #[.int .i64 pl] w (aC w λv w'=>∃b bm bp bn bf,v=.agg #[.int .i64 pl,.func (.func 70) #[] #[pT bn,pT bf]]/\XN w' w.heap.size b bm bp bn bf pl Gf):=by
 refine aE func31 Z (I ?_);refine bx (λAx od qr=>?_);have O:=od.2;refine al sL (λE1 ny qn=>?_);have⟨qr,O⟩:=bD ny.2 qr O;refine I ?_;refine ac (Ga (F:=vV Gf) (λAy E7 _ W=>?_));have⟨qr,qn,O⟩:=bC E7 qr qn O;refine al NM (λ_ Ao E0=>?_);have⟨qr,qn⟩:=jk Ao.2 qr qn;have W:=ab0 Ao.2 W;have O:=xt O Ao.2;refine ac (eG (b:=Ay.heap.size) (o:=0) (v:=.map (some E1.heap.size)) P6 Z Z Z E0 (qa3 Z) (λAb Af A1=>?_));have⟨qr,qn⟩:=eR Af qr qn;have W:=ac0 Af U W;have O:=bB Af O;have EP:=mC Af;refine I ?_;refine ac (cL (vf:=[]) (vc:=[pT Ay.heap.size,pT w.heap.size]) Z Z ?_);refine al L9 (λ_ Aw EE=>?_);have⟨qr,qn⟩:=jk Aw.2 qr qn;have W:=ab0 Aw.2 W;have⟨A1,O⟩:=bD Aw.2 A1 O;refine SO EE (λ_ As A2=>?_) (hi:=oi);have⟨qr,qn⟩:=eR As qr qn;have W:=ac0 As U W;have⟨A1,O,_⟩:=ks As A1 O;refine I ?_;refine clb gQ (hc:=eA (n:=9) Rg (ht.ext O)) (hk:=?_);rintro _ Ad Ap rfl;have⟨qr,qn⟩:=jk Ap.2 qr qn;have W:=ab0 Ap.2 W;have⟨A1,A2,O⟩:=bC Ap.2 A1 A2 O;refine al aQ (λ_ Aq E4=>?_);have⟨qr,qn⟩:=jk Aq.2 qr qn;have W:=ab0 Aq.2 W;have⟨A1,A2,O⟩:=bC Aq.2 A1 A2 O;refine SA E4 (λ_ Am Av=>?_);have⟨qr,qn⟩:=eR Am qr qn;have W:=ac0 Am U W;have⟨A1,A2,O,_⟩:=mD Am A1 A2 O
 refine I ?_;refine ac (cL (vf:=[]) (vc:=[pT Ad.heap.size,pT Ab.heap.size]) Z Z ?_);refine I ?_;refine ac (aV (vs:=[(0,.int .i64 pl),(1,.func (.func 70) #[] #[pT Ad.heap.size,pT Ab.heap.size])]) (cells:=#[.int .i64 pl,.func (.func 70) #[] #[pT Ad.heap.size,pT Ab.heap.size]]) (pl:=[(0,1),(1,1)]) rJ sL GS Z GS ?_);refine ac (bg (b:=Ax.heap.size) (o:=0) (vs:=[.int .i64 pl,.func (.func 70) #[] #[pT Ad.heap.size,pT Ab.heap.size]]) xn Z Z MT qn (qa3 Z) (λ_ Ar E9=>?_));have qr:=pb Ar qr;have W:=ac0 Ar U W;have⟨A1,A2,Av,O,_⟩:=l7 Ar A1 A2 Av O;refine I ?_;refine aI (v:=.agg #[.int .i64 pl,.func (.func 70) #[] #[pT Ad.heap.size,pT Ab.heap.size]]) (cF  rfl ?_) O ⟨_,_,_,_,_,rfl,⟨W,A1,qr,Av,A2,U⟩⟩;refine ag (t:=2) (cs:=[.int .i64 pl,.func (.func 70) #[] #[pT Ad.heap.size,pT Ab.heap.size]]) (b:=Ax.heap.size) (o:=0) rJ Z xn ?_ ?_;exact Z;exact aa1 E9 (i:=0) Z
end
end Go.Proofs.YthpinljhfnodeaaGreatDoor
