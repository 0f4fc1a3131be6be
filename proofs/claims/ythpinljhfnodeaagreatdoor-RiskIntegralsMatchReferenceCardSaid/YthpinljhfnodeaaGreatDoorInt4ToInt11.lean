/- Part of the proof of a statement about risks. -/
import Derived.Test.YthpinljhfnodeaaGreatDoorEngGToDec3
import Derived.WalkSmall
import Derived.Lib.Atoi
set_option linter.all false
namespace Go.Proofs.YthpinljhfnodeaaGreatDoor
open Go Go.Eng Go.RowKit Tryz
variable {B D lo a n1 c1 a1 lo1 n2 c2 a2 lo2:Nat}{A1 A2:Option Addr}{W W' w w':World}
attribute [local irreducible] wpListIn Code.wpIn Oper.wpIn Exit.then Exit.inBlock Exit.noGoto
set_option maxHeartbeats 40000000
section
variable {w0:World}{A:Option Addr}{n c:Nat}
def eM.cel {row:Option Nat}(hg:W.grownBy W' row)(hr:∀r,row=some r->B<=r/\∃o:Obj,W.heap[r]?=some o/\o.isCells=false)(h:eM W lo A n c a):eM W' lo A n c a:=⟨h.row.cel hg hr,h.len,h.cap⟩
def eM.dfr (hK:oV w D)(h:eM w lo A n c a):eM (w.putObj D (.deferred none)) lo A n c a:=⟨h.row.dfr hK,h.len,h.cap⟩
def eM.zero (w:World)(lo:Nat):eM w lo none 0 0 0:=⟨Rw.nil w lo,rfl,qa0 _⟩
def eM.hi (h:eM w lo A n c a):∀ad,A=some ad->ad.block<w.heap.size:=h.row.hi
def eM.le (h:eM w lo A n c a):(av 10000 a).length<=n:=by rw[h.len];exact qa0 _
end
def eH (lo a:Nat)(v:Value)(w:World):Prop:=∃A n c,v=.slice A n c/\eM w lo A n c a
def eH.ext {v:Value}(k:bF w w')(h:eH lo a v w):eH lo a v w':=by
 obtain⟨A,n,c,e,h⟩:=h
 exact⟨A,n,c,e,h.ext k⟩
set_option maxRecDepth 100000 in
def Ij (h1:eM w lo1 A1 n1 c1 a1)(s1:n1<=10000)(h2:eM w lo2 A2 n2 c2 a2)(s2:n2<=10000):
 CL 221 #[.slice A1 n1 c1,.slice A2 n2 c2] w (aC w λv w'=>∃A n c,v=.slice A n c/\eM w' w.heap.size A n c (a1*a2)):=by
 refine uc func221 Z (I ?_);refine bx (λF3 G4 O=>?_);have E4:=G4.2;refine I ?_;refine al BE (λF5 T3 qn=>?_);have⟨O,E4⟩:=bD T3.2 O E4;refine I ?_;refine cl Dy (j4 (A:=A2) (n:=n2) (c:=c2)) ?_;rintro _ Ek T2 ⟨rfl,TT⟩;have⟨O,qn,E4⟩:=bC T2.2 O qn E4;refine I ?_;refine sM (m:=n2) (enc:=λx=>[.int .i64 x,.int .i64 (((av 10000 a2).getD x 0:Nat):Int)]) (order:=(List.range n2).reverse) (Kq:=λW=>au W F5.heap.size 150 #[.slice A2 n2 c2]/\Rw W lo2 A2 (ints (av 10000 a2))) (gf:=223) (lb:=[pT F5.heap.size]) (ps:=[10,11]) Z DD (iP TT (h2.row.ext E4) h2.len U) (λW W' row hq Ar hr=>⟨ab7 Ar hr hq.1,Rw.cel Ar hr hq.2⟩) (λ_=>rfl) [7] (λx=>[.int .i64 (((av 10000 a2).getD x 0:Nat):Int)]) ?asn (λpre W=>∃Av:Option Addr,∃Af:Nat,∃Aq:Nat,(Af<=n1+2+2*pre.length)/\(Ek.heap.size<=W.heap.size)/\(bF w W)/\(au W w.heap.size 150 #[.slice A1 n1 c1])/\(au W F3.heap.size 150 #[.slice Av Af Aq])/\(eM W Ek.heap.size Av Af Aq (nO a1 (av 10000 a2) pre))) (λ_ _ _=>False) ?hI ?hIx ?h0 ?body ?done ?stop;case asn=>
  intro l x W K hK;refine I ?_;exact hK
 case hI=>
  rintro pre W W' row ⟨Av,Af,Aq,q1,EW,E,O,qn,hv⟩ Ar hr;exact⟨Av,Af,Aq,q1,qa8 EW Ar.size,oU (B:=Ek.heap.size) U Ar hr (bz E) E,ab7 Ar hr O,ab7 Ar hr qn,eM.cel Ar hr hv⟩
 case hIx=>
  exact λ_ _ _ _ _ h=>h.elim
 case h0=>
  exact⟨none,0,0,U,qa0 _,E4,O,qn,eM.zero _ _⟩
 case body=>
  rintro l pre x W ⟨Av,Af,Aq,q1,EW,E,O,qn,hv⟩ Z2 hx Z1;have Kp:=dN.refl [F3.heap.size] W;have zW:=bz E;have G3:=hv.hi;have hd:=getD_lt h2.lt x;have F6:=ac5 qn;by_cases hz:Af=0;have F4:=jw (B:=10000) U (hv.len.trans U);refine I ?_;have hL:w.heap.size<=W.heap.size:=J
  refine bY 5 ?_;refine sf ?_;refine eU (λv w=>eH W.heap.size (a1*((av 10000 a2).getD x 0)) v w) (hs:=λ_ _ _ k h=>h.ext k) (λ_ _ hR26 _=>?_) ?_;refine clb Dz (hc:=D6 (h1.ext (xt E hR26)) U hd) (hk:=?_);rintro _ _ W2 ⟨Ab,nb,EP,rfl,Ad⟩;have E31:=W2.2;have Ad:=Ad.mono (lo':=W.heap.size) (by have:=bz hR26;omega);refine I ?_;exact fs ⟨E31,⟨Ab,nb,EP,rfl,Ad⟩⟩;refine eU (λv w=>eH W.heap.size ((nO a1 (av 10000 a2) pre)+a1*((av 10000 a2).getD x 0)) v w) (hs:=λ_ _ _ k h=>h.ext k) (λ_ _ hR34 No=>?_) ?_;obtain⟨Ab,nb,EP,p36,Ad⟩:=(No 3 21 Z Z);have W1:nb<=n1+1:=by rw[<-Ad.len];exact mG U _ _ _ h1.le hd
  have hv:=aa3 hR34 hv;refine clb ze (hc:=o6 hv U Ad U) (hk:=?_) (hv:=ai Z (ai p36 Z));rintro _ _ Wa ⟨Ap,Ao,As,rfl,qr⟩;have E40:=Wa.2;have qr:=qr.mono (lo':=W.heap.size) (by have:=bz hR34;omega);refine I ?_;exact fs ⟨E40,⟨Ap,Ao,As,rfl,qr⟩⟩;refine sf ?_;intro _ _ hR43 W0;have O:=be hR43.2 O;have qn:=be hR43.2 qn;have E:=xt E hR43.2;have Kp:=ab9 Kp hR43.2;obtain⟨Ap,Ao,As,_,qr⟩:=(W0 4 22 Z Z);refine SO qn (λ_ EE R1=>?_);have O:=pb EE O;have qr:=ab3 EE U qr;have E:=bB EE E;have Kp:=ac2 Kp EE RM;have Z8:=mC EE;refine I ?_;have W3:Ao<=n1+2+0:=by(rw[<-qr.len];rw[F4];rw[Nat.zero_add];exact qa8 (mG U _ _ _ h1.le hd) U)
  refine I ?_;exact⟨Kp.others kd0,λhq=>⟨Kp.blk Hx hq.1,Kp.rw (λE1 e=>by have:=h2.hi E1 e;simp;omega) hq.2⟩,⟨Ap,Ao,As,Hx,U,E,O,R1,(by rw[us];rw[F4]at qr ⊢;simpa using qr.mono U)⟩⟩;have S1:=mH (B:=10000) U (a:=nO a1 (av 10000 a2) pre) (by rw[hv.len];omega);refine I ?_;refine BS (λ_ Ay _ F8=>?_);have O:=be Ay O;have qn:=be Ay qn;have hv:=aa3 Ay hv;have E:=xt E Ay;have Kp:=ab9 Kp Ay;have Z5:=bz Ay;refine I ?_;refine ac (me (v:=.slice (some ⟨W.heap.size,0,none⟩) 1 1) (k:=1) hO mf Z dc Z F8 Z hv.row (by rw[eo,hv.len];omega) o5 DQ U U (λ_ Jx F7 E0 _=>?_));have O:=aa0 E0 CA O;have qn:=aa0 E0 CA qn;have hv:=eM.gr E0 (λE1 e=>by have:=G3 E1 e;simp[Value.ownBlock];omega) hv;have Kp:=dN.gr Kp E0 (λb hb=>by exact Or.inr (by simp[Value.ownBlock]at hb;omega));have E:=cI E E0 (bz E) (λg X2=>by have:=(F8.lt g X2).1;omega);have Z3:=E0.size;obtain⟨Aw,L2,rfl,Ix,Z6,-,-⟩:=eT F7;have hs:=aa4 F7;have Am:eM Jx W.heap.size Aw (1+Af) L2 (nO a1 (av 10000 a2) pre*10000):=by(have e:=Fy (B:=10000) U _ S1;exact⟨by rw[e];exact hs,by rw[e,List.length_cons,hv.len];omega,Ix⟩)
  refine SO qn (λE7 E9 F1=>?_);have O:=pb E9 O;have Am:=ab3 E9 U Am;have E:=bB E9 E;have Kp:=ac2 Kp E9 RM;have Z7:=mC E9;refine I ?_;have hL:w.heap.size<=E7.heap.size:=J
  refine bY 5 ?_;refine sf ?_;refine eU (λv w=>eH E7.heap.size (a1*((av 10000 a2).getD x 0)) v w) (hs:=λ_ _ _ k h=>h.ext k) (λ_ _ hR75 _=>?_) ?_;refine clb Dz (hc:=D6 (h1.ext (xt E hR75)) U hd) (hk:=?_);rintro _ _ Wb ⟨Ab,nb,EP,rfl,Ad⟩;have E80:=Wb.2;have Ad:=Ad.mono (lo':=E7.heap.size) (by have:=bz hR75;omega);refine I ?_;exact fs ⟨E80,⟨Ab,nb,EP,rfl,Ad⟩⟩;refine eU (λv w=>eH E7.heap.size ((nO a1 (av 10000 a2) pre*10000)+a1*((av 10000 a2).getD x 0)) v w) (hs:=λ_ _ _ k h=>h.ext k) (λ_ _ hR83 K2=>?_) ?_;obtain⟨Ab,nb,EP,Ne,Ad⟩:=(K2 3 21 Z Z);have W1:nb<=n1+1:=by rw[<-Ad.len];exact mG U _ _ _ h1.le hd
  have Am:=aa3 hR83 Am;refine clb ze (hc:=o6 Am U Ad U) (hk:=?_) (hv:=ai Z (ai Ne Z));rintro _ _ Z0 ⟨Ap,Ao,As,rfl,qr⟩;have E89:=Z0.2;have qr:=qr.mono (lo':=E7.heap.size) (by have:=bz hR83;omega);refine I ?_;exact fs ⟨E89,⟨Ap,Ao,As,rfl,qr⟩⟩;refine sf ?_;intro _ _ hR92 N1;have O:=be hR92.2 O;have F1:=be hR92.2 F1;have Am:=aa3 hR92.2 Am;have E:=xt E hR92.2;have Kp:=ab9 Kp hR92.2;obtain⟨Ap,Ao,As,_,qr⟩:=(N1 4 22 Z Z);refine SO F1 (λ_ Ax T4=>?_);have O:=pb Ax O;have Am:=ab3 Ax U Am;have qr:=ab3 Ax U qr;have E:=bB Ax E;have Kp:=ac2 Kp Ax RM;have Z9:=mC Ax;refine I ?_;have W3:Ao<=n1+3+2*pre.length+1+0:=by(rw[<-qr.len];exact qa8 (D7 U _ _ (n1+3+2*pre.length) (by rw[Am.len];omega) (qa8 (mG U _ _ _ h1.le hd) U)) U)
  refine I ?_;exact⟨Kp.others kd0,λhq=>⟨Kp.blk Hx hq.1,Kp.rw (λE1 e=>by have:=h2.hi E1 e;simp;omega) hq.2⟩,⟨Ap,Ao,As,Hx,U,E,O,T4,(by rw[us];exact qr.mono U)⟩⟩
 case stop=>
  exact λ_ _ _ _ _ _ h _=>h.elim
 case done=>
  rintro D W hD ⟨Av,Af,Aq,q1,EW,E,O,qn,hv⟩ hK;have zW:=bz E;refine I ?_;have F2:=hv.dfr hK;rw[FA _ _ h2.len,h2.val]at F2;exact Mi (t:=4) (v:=.slice Av Af Aq) hK Z E U ⟨Av,Af,Aq,rfl,F2.mono U⟩ Z
end Go.Proofs.YthpinljhfnodeaaGreatDoor
def aG (x y:Int):Int:=if x<y then -1 else if x=y then 0 else 1
def dE {x y:Int}(h:x<y):aG x y=-1:=by simp[aG,h]
def dk {x y:Int}(h:y<x):aG x y=1:=by
 unfold aG;rw[if_neg J,if_neg J]
def fK {x y:Int}(h:x=y):aG x y=0:=by
 unfold aG;rw[if_neg J,if_pos h]
def ut {x y u v:Int}(h1:x<y↔u<v)(h2:x=y↔u=v):aG x y=aG u v:=by
 unfold aG;simp only[h1,h2]
def MI {a b:Nat}(h:(av 10000 a).length≠(av 10000 b).length):aG (((av 10000 a).length:Nat):Int) (((av 10000 b).length:Nat):Int)=aG (a:Int) (b:Int):=by
 have h1:=@eV 10000 J a b
 have h2:=@eV 10000 J b a
 refine ut ⟨λk=>?_,λk=>?_⟩ ⟨λk=>?_,λk=>?_⟩
 · omega
 · omega
 · omega
 · have:a=b:=J
   subst this;rfl
def nP {n j:Nat}(h:j<n):(List.range n).reverse[j]?=some (n-1-j):=by
 rw[List.getElem?_reverse ka3,List.length_range,List.getElem?_range J]
def Ry {p:List Nat}{x n:Nat}(h:p++[x] <+: (List.range n).reverse):x<n/\x=n-1-p.length/\p.length<n/\∀i,x<i->i<n->i∈p:=by
 have hl:p.length<n:=by have:=h.length_le;simp at this;omega
 have hx:(List.range n).reverse[p.length]?=some x:=by
  obtain⟨t,ht⟩:=h
  rw[<-ht];simp
 rw[nP hl]at hx
 have hx:n-1-p.length=x:=by simpa using hx
 refine⟨by omega,by omega,hl,λi _ _=>?_⟩
 have O:n-1-i<p.length:=J
 have:(List.range n).reverse[n-1-i]?=p[n-1-i]?:=by
  obtain⟨t,ht⟩:=h
  rw[<-ht,List.append_assoc,List.getElem?_append_left O]
 rw[nP J]at this
 have h3:n-1-(n-1-i)=i:=J
 rw[h3]at this
 exact qa9 this.symm
def wv (xs:List Nat){x:Nat}(h:x<xs.length):b8 10000 xs=b8 10000 (xs.take x)+10000^x*(xs.getD x 0+10000*b8 10000 (xs.drop (x+1))):=by
 have h1:xs=xs.take x++(xs.getD x 0::xs.drop (x+1)):=by
  have:xs.getD x 0=xs[x]:=by simp[h]
  rw[this,List.getElem_cons_drop,List.take_append_drop]
 conv=>lhs;rw[h1]
 rw[cS]
 have hl:(xs.take x).length=x:=by simp;omega
 rw[hl];rfl
def Rz {xs ys p:List Nat}{x n:Nat}(hx:∀d∈xs,d<10000)(hy:∀d∈ys,d<10000)(hn:xs.length=n)(hm:ys.length=n)(hp:p++[x] <+: (List.range n).reverse)(he:∀i∈p,xs.getD i 0=ys.getD i 0)(hne:xs.getD x 0≠ys.getD x 0):
 aG ((xs.getD x 0:Nat):Int) ((ys.getD x 0:Nat):Int)=aG ((b8 10000 xs:Nat):Int) ((b8 10000 ys:Nat):Int):=by
 obtain⟨h1,-,-,h2⟩:=Ry hp
 have hd:xs.drop (x+1)=ys.drop (x+1):=by
  apply List.ext_getElem
  · simp[hn,hm]
  · intro i h3 _
    have h3':x+1+i<xs.length:=by simp at h3;omega
    have h4':x+1+i<ys.length:=J
    have:=he _ (h2 (x+1+i) J J)
    simpa[h3',h4']using this
 rw[wv xs (x:=x) J,wv ys (x:=x) J,hd]
 have O:=ji 10000 (xs.take x) (λd hd=>hx d (List.mem_of_mem_take hd))
 have qr:=ji 10000 (ys.take x) (λd hd=>hy d (List.mem_of_mem_take hd))
 have Ab:(xs.take x).length=x:=by simp;omega
 have qn:(ys.take x).length=x:=by simp;omega
 rw[Ab]at O;rw[qn]at qr
 generalize b8 10000 (xs.take x)=s at *
 generalize b8 10000 (ys.take x)=t at *
 generalize b8 10000 (ys.drop (x+1))=u at *
 generalize xs.getD x 0=a at *
 generalize ys.getD x 0=b at *
 generalize 10000^x=B at *
 have key:∀s t a b:Nat,s<B->t<B->a<b->s+B*(a+10000*u)<t+B*(b+10000*u):=by
  intro s t a b _ _ _
  have:B*(a+10000*u)+B<=B*(b+10000*u):=by
   rw[<-Nat.mul_succ];exact Nat.mul_le_mul_left _ J
  omega
 rcases Nat.lt_or_gt_of_ne hne with h|h
 · rw[dE J,dE (by have:=key s t a b O qr h;omega)]
 · rw[dk J,dk (by have:=key t s b a qr O h;omega)]
def MJ {a b n:Nat}(hn:(av 10000 a).length=n)(hm:(av 10000 b).length=n)(he:∀i∈(List.range n).reverse,(av 10000 a).getD i 0=(av 10000 b).getD i 0):a=b:=by
 have:av 10000 a=av 10000 b:=by
  apply List.ext_getElem
  · omega
  · intro i h1 h2
    have:=he i Hx
    simpa[h1,h2]using this
 have h3:=qb1 (b8 10000) this
 rwa [dj 10000 J,dj 10000 J]at h3
namespace Go.Proofs.YthpinljhfnodeaaGreatDoor
variable {n1 c1 a1 lo1 n2 c2 a2 lo2 g m:Nat}{A1 A2:Option Addr}{w:World}
set_option maxRecDepth 100000
open Go Go.Eng Go.RowKit Tryz
attribute [local irreducible] wpListIn Code.wpIn Oper.wpIn Exit.then Exit.inBlock Exit.noGoto
set_option maxHeartbeats 40000000
def Ik (x y:Int)(w:World):CL 212 #[.int .i64 x,.int .i64 y] w (aC w λv _=>v=.int .i64 (aG x y)):=by
 by_cases h:x<y
 · rw[dE h];exact Rv x y h w
 · by_cases h2:x=y
   · rw[fK h2];exact cmp_eq x y h2 w
   · rw[dk U];exact Rx x y U w
def jL (h1:eM w lo1 A1 n1 c1 a1)(s1:n1<=100000)(h2:eM w lo2 A2 n2 c2 a2):
 CL 170 #[.slice A1 n1 c1,.slice A2 n2 c2] w (aC w λv w'=>v=.int .i64 (aG (a1:Int) (a2:Int))):=by
 by_cases Ay:n1=n2;refine uc func170 Z (I ?_);refine bx (λAp E0 qr=>?_);have E4:=E0.2;refine al mf (λAw F3 O=>?_);have⟨qr,E4⟩:=bD F3.2 qr E4;refine I ?_;refine cl Dy (j4 (A:=A1) (n:=n1) (c:=c1)) ?_;rintro _ Ao F2 ⟨rfl,E9⟩;have⟨qr,O,E4⟩:=bC F2.2 qr O E4;refine I ?_;refine sM (m:=n1) (enc:=λx=>[.int .i64 x,.int .i64 (((av 10000 a1).getD x 0:Nat):Int)]) (order:=(List.range n1).reverse) (Kq:=λW=>au W Aw.heap.size 150 #[.slice A1 n1 c1]/\Rw W lo1 A1 (ints (av 10000 a1))) (gf:=223) (lb:=[pT Aw.heap.size]) (ps:=[19,20]) Z DD (iP E9 (h1.row.ext E4) h1.len U) (λW W' row hq qn hr=>⟨ab7 qn hr hq.1,Rw.cel qn hr hq.2⟩) (λ_=>rfl) [5,6] (λx=>[.int .i64 x,.int .i64 (((av 10000 a1).getD x 0:Nat):Int)]) ?asn (λpre W=>(∀i∈pre,(av 10000 a1).getD i 0=(av 10000 a2).getD i 0)/\(Ao.heap.size<=W.heap.size)/\(bF w W)/\(au W w.heap.size 150 #[.slice A2 n2 c2])/\(au W Ap.heap.size 3 #[.int .i64 (0)])) (λc pre W=>c=.ret/\∃p x,pre=p++[x]/\(∀i∈p,(av 10000 a1).getD i 0=(av 10000 a2).getD i 0)/\(av 10000 a1).getD x 0≠(av 10000 a2).getD x 0/\(Ao.heap.size<=W.heap.size)/\(bF w W)/\(au W Ap.heap.size 3 #[.int .i64 (aG (((av 10000 a1).getD x 0:Nat):Int) (((av 10000 a2).getD x 0:Nat):Int))])) ?hI ?hIx ?h0 ?body ?done ?stop;case asn=>
  intro l x W K hK;refine I ?_;exact hK
 case hI=>
  rintro pre W W' row ⟨q1,Ad,E,qr,O⟩ qn hr;exact⟨q1,qa8 Ad qn.size,oU (B:=Ao.heap.size) U qn hr (bz E) E,ab7 qn hr qr,ab7 qn hr O⟩
 case hIx=>
  rintro c pre W W' row ⟨rfl,p,x,rfl,q1,q2,Ad,E,O⟩ qn hr;exact⟨rfl,p,x,rfl,q1,q2,qa8 Ad qn.size,oU (B:=Ao.heap.size) U qn hr (bz E) E,ab7 qn hr O⟩
 case h0=>
  exact⟨RW,Nat.le_refl _,E4,qr,O⟩
 case body=>
  rintro l pre x W ⟨q1,Ad,E,qr,O⟩ F6 hx Ay;have Kp:=dN.refl [Ap.heap.size] W;have zW:=bz E;have Av:=ac5 O;obtain⟨_,o,hA,hc⟩:=(h2.row.ext E).cells x _ (bE (xs:=(av 10000 a2)) ke3);by_cases hne:(((av 10000 a1).getD x 0:Nat):Int)=(((av 10000 a2).getD x 0:Nat):Int);refine I ?_;refine ac (ah (i:=x) (oo:=o+x) hO eP Z hA Z U U ?_);refine ac (bP (v:=.int .i64 (((av 10000 a2).getD x 0:Nat):Int)) U3 Z Z hc ?_);refine I ?_;exact⟨Kp.others kd1,λhq=>⟨Kp.blk Hx hq.1,Kp.rw (λE1 e=>by have:=h1.hi E1 e;simp;omega) hq.2⟩,⟨(λi hi=>by rcases List.mem_append.1 hi with h|h;exact q1 i h;rw[List.mem_singleton.1 h];omega),U,E,qr,O⟩⟩;refine I ?_;refine ac (ah (i:=x) (oo:=o+x) hO eP Z hA Z U U ?_);refine ac (bP (v:=.int .i64 (((av 10000 a2).getD x 0:Nat):Int)) U3 Z Z hc ?_);refine I ?_;refine ac (ah (i:=x) (oo:=o+x) hO eP Z hA Z U U ?_);refine ac (bP (v:=.int .i64 (((av 10000 a2).getD x 0:Nat):Int)) U3 Z Z hc ?_);refine cl OQ (Ik _ _ _) ?_;rintro _ _ Af rfl;have qr:=be Af.2 qr;have O:=be Af.2 O;have E:=xt E Af.2
  have Kp:=ab9 Kp Af.2;refine SO O (λ_ Am EP=>?_);have qr:=pb Am qr;have E:=bB Am E;have Kp:=ac2 Kp Am RM;have F5:=mC Am;refine I ?_;exact⟨Kp.others kd1,rfl,pre,x,rfl,q1,U,U,E,EP⟩
 case stop=>
  rintro D c pre W hD EW ⟨rfl,p,x,rfl,q1,q2,Ad,E,O⟩ hK;have zW:=bz E;have As:=Rz h1.lt h2.lt h1.len (h2.len.trans U) EW q1 q2;rw[h1.val,h2.val]at As;refine I ?_;exact jK (v:=.int .i64 (aG (((av 10000 a1).getD x 0:Nat):Int) (((av 10000 a2).getD x 0:Nat):Int))) hK (cF Z (dh U3 Z Z (aa9 (O.dfr hK) Z))) ((fk _).low E U) (by rw[As])
 case done=>
  rintro D W hD ⟨q1,Ad,E,qr,O⟩ hK;have zW:=bz E;refine I ?_;refine SO O (λ_ Aq F1=>?_);have qr:=pb Aq qr;have hK:=ac3 Aq (hK.ne O) hK;have E:=bB Aq E;refine I ?_;exact jK (v:=.int .i64 0) hK (cF Z (dh U3 Z Z (aa9 (F1.dfr hK) Z))) ((fk _).low E U) (by rw[fK (by have:=MJ h1.len (h2.len.trans U) q1;omega)])
 refine uc func170 Z (I ?_);refine bx (λ_ E7 Ab=>?_);have E24:=E7.2;refine al mf (λ_ F4 Ar=>?_);have⟨Ab,E24⟩:=bD F4.2 Ab E24;refine I ?_;refine cl OQ (Ik _ _ _) ?_;rintro _ _ EE rfl;have⟨Ab,Ar,E24⟩:=bC EE.2 Ab Ar E24;refine SO Ar (λ_ Ax Ek=>?_);have Ab:=pb Ax Ab;have E24:=bB Ax E24;refine I ?_;exact DK (v:=.int .i64 (aG (n1:Int) (n2:Int))) (cF Z (dh U3 Z Z (aa9 Ek Z))) E24 (by have:=MI (a:=a1) (b:=a2) (by rw[h1.len,h2.len];omega);rw[h1.len,h2.len]at this;rw[this])
set_option maxRecDepth 100000 in
def FB {lb:List Value}{pb:Nat->Bool}(heg:Enters prog g)(hm0:m<=1000000)(hd:∀(i:Nat) (W:World),i<m->bF w W->CL g ([Value.int .i64 i]++lb).toArray W (aC W λv _=>v=.bool (pb i)))(hmon:∀i j,i<=j->j<m->pb i=true->pb j=true):
 CL 216 #[.int .i64 m,.func (.func g) #[] lb.toArray] w (aC w λv w'=>∃k:Nat,v=.int .i64 k/\k<=m/\(∀i<k,pb i=false)/\(k<m->pb k=true)):=by
 refine aE func216 Z (I ?_);have E1:=aa2 w;refine JT [(5,7),(9,24)] (λAm e W=>∃i:Nat,∃j:Nat,(j-i=Am)/\(e 5=.int .i64 i)/\(e 6=.int .i64 j)/\(i<=j)/\(j<=m)/\(∀k<i,pb k=false)/\(j<m->pb j=true)/\(bF w W)) ((m)-0) ⟨0,m,rfl,rfl,rfl,(qa7 _),(qa0 _),U,U,E1⟩ ?_;rintro _ _ _ ⟨i,j,rfl,Ao,Af,q1,q2,Ad,qn,E7⟩;by_cases hm:i<j;refine I ?_;refine ac (bb (a:=(i:Int)) (b:=(j:Int)) (c:=((i+j:Nat):Int)) Z Z L7 U ?_);refine ac (jA (k:=.i64) (k':=.u64) (a:=((i+j:Nat):Int)) (c:=((i+j:Nat):Int)) U3 TX Z (wrap_u64 U) ?_);refine ac (Ui (k:=.u64) (a:=((i+j:Nat):Int)) (b:=1) (c:=(((i+j)/2:Nat):Int)) Z Z dc (by show((i+j:Nat):Int)/2=_;omega) ?_);refine ac (jA (k:=.u64) (k':=.i64) (a:=(((i+j)/2:Nat):Int)) (c:=(((i+j)/2:Nat):Int)) TX U3 Z (wrap_i64 U) ?_);refine I ?_;refine ac (uo (vs:=[.int .i64 (((i+j)/2:Nat):Int)]) (lb:=lb) heg Z Z (hd ((i+j)/2) _ U E7) ?_);rintro _ _ O rfl;have O:=O.2;have E7:=xt E7 O;refine I ?_;refine xm (q:=!(pb ((i+j)/2))) Z (λqr=>?_) (λqr=>?_);have Ab:pb ((i+j)/2)=false:=by simpa using qr
 refine I ?_;refine ac (bb (a:=(((i+j)/2:Nat):Int)) (b:=1) (c:=(((i+j)/2+1:Nat):Int)) Z Z L7 U ?_);refine I ?_;exact c6 ⟨(i+j)/2+1,j,rfl,rfl,Af,U,q2,(λk _=>by cases hb:pb k with|false=>rfl|true=>(have:=hmon k ((i+j)/2) U U hb;rw[Ab]at this;cases this)),qn,E7⟩;have Ab:pb ((i+j)/2)=true:=by simpa using qr
 refine I ?_;exact c6 ⟨i,(i+j)/2,rfl,Ao,rfl,U,U,Ad,(λ_=>Ab),E7⟩;refine I ?_;exact ax (t:=4) (v:=.int .i64 i) Z E7 ⟨i,rfl,by omega,Ad,by rw[show j=i by omega]at qn;exact qn⟩ Z
set_option maxRecDepth 100000 in
def MK {i B1 B2:Nat}(h1:eM w lo1 A1 n1 c1 a1)(s1:n1<=10000)(h2:eM w lo2 A2 n2 c2 a2)(k1:au w B1 211 #[.func (.func 214) #[.slice A1 n1 c1] #[]])(k2:au w B2 150 #[.slice A2 n2 c2])(hi:i<9999):
 CL 215 #[.int .i64 i,pT B1,pT B2] w (aC w λv w'=>v=.bool (decide (0<aG ((a1*(i+1):Nat):Int) (a2:Int)))):=by
 obtain⟨L,_⟩:∃L,L=w.heap.size:=⟨_,rfl⟩;refine aE func215 Z (I ?_);refine bY 7 ?_;refine sf ?_;refine bl (λ_ _ _ _=>by refine ac (bb (a:=(i:Int)) (b:=1) (c:=((i+1:Nat):Int)) Z Z L7 U ?_);refine I ?_;exact cz) ?_
 refine eU (λv w=>eH L (a1*(i+1)) v w) (hs:=λ_ _ _ k h=>h.ext k) (λ_ _ hR15 _=>?_) ?_;have h1:=h1.ext hR15;refine ac (DL (vs:=[.int .i64 ((i+1:Nat):Int)]) (la:=[.slice A1 n1 c1]) Dz Z Z (D6 h1 U U) ?_);rintro _ _ Af ⟨Ab,nb,qr,rfl,O⟩;have E20:=Af;have O:=O.mono (lo':=L) (by have:=bz hR15;omega);refine I ?_;exact fs ⟨E20,⟨Ab,nb,qr,rfl,O⟩⟩;refine sf ?_;refine aF (V:=.int .i64 (aG ((a1*(i+1):Nat):Int) (a2:Int))) (λ_ _ hR27 Ad=>?_) ?_;obtain⟨Ab,nb,qr,p29,O⟩:=(Ad 3 8 Z Z);have Am:nb<=n1+1:=by rw[<-O.len];exact mG U _ _ _ h1.le U
 have h2:=h2.ext hR27;refine clb zf (hc:=jL O U h2) (hk:=?_) (hv:=ai p29 (ai Z Z));rintro _ _ qn rfl;have E33:=qn.2;refine I ?_;exact fs ⟨E33,rfl⟩;refine sf ?_;intro _ _ hR40 _;have E42:=hR40.2;refine I ?_;exact ax (t:=4) (v:=.bool (decide (0<(aG ((a1*(i+1):Nat):Int) (a2:Int))))) Z E42 Z Z
end Go.Proofs.YthpinljhfnodeaaGreatDoor
def iY (m:Nat)(xs:List Nat)(s:List Nat×Nat)(i:Nat):List Nat×Nat:=(s.1.set i ((s.2*10000+xs.getD i 0)/m),(s.2*10000+xs.getD i 0)%m)
def dJ (m:Nat)(xs:List Nat)(n:Nat)(pre:List Nat):List Nat×Nat:=pre.foldl (iY m xs) (List.replicate n 0,0)
def uu (m:Nat)(xs:List Nat)(n:Nat)(pre:List Nat)(i:Nat):dJ m xs n (pre++[i])=iY m xs (dJ m xs n pre) i:=by simp[dJ]
def ww (m:Nat)(xs:List Nat)(n:Nat)(pre:List Nat):(dJ m xs n pre).1.length=n:=by
 unfold dJ
 have:∀(pre:List Nat) (s:List Nat×Nat),(pre.foldl (iY m xs) s).1.length=s.1.length:=by
  intro pre
  induction pre with
  |nil=>intro s;rfl
  |cons i pre ih=>intro s;rw[List.foldl_cons,ih];simp[iY]
 rw[this];simp
def Il (m:Nat)(xs:List Nat)(n:Nat)(hm:0<m):∀pre:List Nat,(dJ m xs n pre).2<m:=by
 intro pre
 unfold dJ
 have:∀(pre:List Nat) (s:List Nat×Nat),s.2<m->(pre.foldl (iY m xs) s).2<m:=by
  intro pre
  induction pre with
  |nil=>intro s h;exact h
  |cons i pre ih=>intro s _;rw[List.foldl_cons];exact ih _ (Nat.mod_lt _ hm)
 exact this pre _ hm
def D8 {m r d:Nat}(hr:r<m)(hd:d<10000):(r*10000+d)/m<10000:=by
 rw[Nat.div_lt_iff_lt_mul J]
 have:(r+1)*10000<=m*10000:=Nat.mul_le_mul_right _ hr
 omega
def zx (m:Nat)(xs:List Nat)(hm:0<m)(hx:∀x∈xs,x<10000):∀(k:Nat) (q:List Nat) (r:Nat),k<=xs.length->q.length=xs.length->r<m->
 let s:=(List.range k).reverse.foldl (iY m xs) (q,r)
 s.1.length=q.length/\s.1.drop k=q.drop k/\m*b8 10000 (s.1.take k)+s.2=r*10000^k+b8 10000 (xs.take k)/\s.2<m/\∀d∈s.1.take k,d<10000
 |0,q,r,_,_,hr=>by simp[b8,hr]
 | k +1,q,r,hk,hq,hr=>by
   simp only
   rw[List.range_succ,List.reverse_append]
   simp only[List.reverse_cons,List.reverse_nil,List.nil_append,List.cons_append,List.foldl_cons]
   have hd:=getD_lt hx k
   have h1:=D8 hr hd
   obtain⟨Aw,O,Ar,Ap,Aq⟩:=zx m xs hm hx k (iY m xs (q,r) k).1 (iY m xs (q,r) k).2 J (by simp[iY,hq]) (Nat.mod_lt _ hm)
   generalize hs:List.foldl (iY m xs) (iY m xs (q,r) k) (List.range k).reverse=s at *
   have hl:(iY m xs (q,r) k).1.length=q.length:=by simp[iY]
   have Ab:k<s.1.length:=J
   have qn:s.1[k]=(r*10000+xs.getD k 0)/m:=by
    have h3:s.1.drop k=s.1[k]::s.1.drop (k+1):=by rw[List.getElem_cons_drop]
    have h4:(iY m xs (q,r) k).1.drop k=(iY m xs (q,r) k).1[k]'(by omega)::(iY m xs (q,r) k).1.drop (k+1):=by rw[List.getElem_cons_drop]
    rw[h3,h4]at O
    have:=(List.cons.inj O).1
    rw[this];simp[iY]
   have qr:s.1.take (k+1)=s.1.take k++[s.1[k]]:=List.take_succ_eq_append_getElem Ab
   have Am:xs.take (k+1)=xs.take k++[xs.getD k 0]:=by
    rw[List.take_succ_eq_append_getElem J];simp[show k<xs.length by omega]
   refine⟨by omega,?_,?_,Ap,?_⟩
   · have h3:s.1.drop (k+1)=(s.1.drop k).drop 1:=by rw[List.drop_drop]
     rw[h3,O,List.drop_drop]
     exact List.drop_set_of_lt J
   · rw[qr,Am,cS,cS,qn]
     have Af:(s.1.take k).length=k:=by simp;omega
     have Ad:(xs.take k).length=k:=by simp;omega
     rw[Af,Ad]
     simp only[b8,Nat.mul_zero,Nat.add_zero,Nat.pow_succ]
     have Av:=Nat.div_add_mod (r*10000+xs.getD k 0) m
     have As:m*b8 10000 (s.1.take k)+s.2=(r*10000+xs.getD k 0)%m*10000^k+b8 10000 (xs.take k):=Ar
     generalize (r*10000+xs.getD k 0)/m=u at *
     generalize (r*10000+xs.getD k 0)%m=v at *
     generalize xs.getD k 0=y at *
     grind
   · rw[qr]
     intro d Ao
     rcases List.mem_append.1 Ao with h|h
     · exact Aq d h
     · rw[List.mem_singleton.1 h,qn];exact h1
def Im {m a n:Nat}(hm:0<m)(hn:(av 10000 a).length=n):
 (∀d∈(dJ m (av 10000 a) n (List.range n).reverse).1,d<10000)/\b8 10000 (dJ m (av 10000 a) n (List.range n).reverse).1=a/m/\(dJ m (av 10000 a) n (List.range n).reverse).2=a%m:=by
 obtain⟨h1,-,h3,h4,O⟩:=zx m (av 10000 a) hm (dH 10000 J a) n (List.replicate n 0) 0 J (by simp[hn]) hm
 change ((dJ m (av 10000 a) n (List.range n).reverse).1.length=_)at h1
 change (m*b8 10000 ((dJ m (av 10000 a) n (List.range n).reverse).1.take n)+(dJ m (av 10000 a) n (List.range n).reverse).2=_)at h3
 change ((dJ m (av 10000 a) n (List.range n).reverse).2<m)at h4
 change (∀d∈(dJ m (av 10000 a) n (List.range n).reverse).1.take n,d<10000)at O
 rw[List.length_replicate]at h1
 rw[List.take_of_length_le J]at h3 O
 rw[List.take_of_length_le J,dj 10000 J,Nat.zero_mul,Nat.zero_add]at h3
 generalize (dJ m (av 10000 a) n (List.range n).reverse)=z at *
 refine⟨O,?_,?_⟩
 · rw[<-h3,Nat.mul_add_div hm,Nat.div_eq_of_lt h4];omega
 · rw[<-h3,Nat.mul_add_mod,Nat.mod_eq_of_lt h4]
namespace Go.Proofs.YthpinljhfnodeaaGreatDoor
open Go Go.Eng Go.RowKit Tryz
variable {m lo c v n1 c1 a1 lo1 n2 c2 a2 lo2:Nat}{A A1 A2:Option Addr}{w w':World}
attribute [local irreducible] wpListIn Code.wpIn Oper.wpIn Exit.then Exit.inBlock Exit.noGoto
set_option maxHeartbeats 40000000
def fJ {p:Prop}(h:p:=by kernel_rfl):p:=h
def qQ (m:Nat):(madeCells #[Value.int .i64 0] (m*1)).toList=ints (List.replicate m 0):=by
 simp[madeCells,ints,Nat.mod_one,List.eq_replicate_iff]
def ints_set (qs:List Nat)(x k:Nat):(ints qs).toArray.setIfInBounds x (.int .i64 k)=(ints (qs.set x k)).toArray:=by
 simp[ints,List.map_set]
def Io {r k:Nat}(hm:0<m)(hr:r<m*10000)(hk:k<=9999)(h1:∀i<k,decide (0<aG ((m*(i+1):Nat):Int) (r:Int))=false)(h2:k<9999->decide (0<aG ((m*(k+1):Nat):Int) (r:Int))=true):k=r/m:=by
 have e:∀i,decide (0<aG ((m*(i+1):Nat):Int) (r:Int))=decide (r<m*(i+1)):=λi=>by
  rcases Nat.lt_trichotomy (m*(i+1)) r with h|h|h
  · rw[dE U];simp;omega
  · rw[fK U];simp;omega
  · rw[dk U];simp;omega
 symm
 have qr:m*k<=r:=by
  rcases Nat.eq_zero_or_pos k with h0|h0
  · subst h0;simp
  · have:=h1 (k-1) U
    rw[e,show k-1+1=k by omega]at this
    simpa using this
 have O:r<m*(k+1):=by
  by_cases hk9:k<9999
  · have:=h2 hk9
    rw[e]at this
    simpa using this
  · rw[show k+1=10000 by omega];exact hr
 rw[Nat.div_eq_iff U]
 rw[Nat.mul_add]at O
 rw[Nat.mul_comm k m]
 omega
def FC {r:Nat}(i j:Nat)(hij:i<=j)(h:decide (0<aG ((m*(i+1):Nat):Int) (r:Int))=true):decide (0<aG ((m*(j+1):Nat):Int) (r:Int))=true:=by
 have h3:m*(i+1)<=m*(j+1):=Nat.mul_le_mul_left _ U
 simp only[decide_eq_true_eq]at *
 rcases Nat.lt_trichotomy (m*(i+1)) r with h1|h1|h1
 · rw[dE U]at h;omega
 · rw[fK U]at h;omega
 · rw[dk U];omega
def zy (r d:Nat)(hd:d<10000):ei (d::av 10000 r)=av 10000 (r*10000+d):=by
 rw[my 10000 U (d::av 10000 r) (λx hx=>by
  rcases List.mem_cons.1 hx with rfl|hx
  · exact hd
  · exact dH 10000 U r x hx)]
 simp only[b8,dj 10000 (show 2<=10000 by omega)]
 congr 1;omega
def Rw.putU {b:Nat}{cs:List Value}(k:fU w w' b)(hne:∀ad,A=some ad->ad.block≠b)(h:Rw w lo A cs):Rw w' lo A cs:=by
 refine⟨λj u hu=>?_,h.lo,λad e=>by rw[k.size];exact h.hi ad e⟩
 obtain⟨c,o,e,hc⟩:=h.cells j u hu
 exact⟨c,o,e,(k.cell (a:=⟨c,o+j,none⟩) (show c≠b from hne _ e)).trans hc⟩
def eM.putU {b n a:Nat}(k:fU w w' b)(hne:∀ad,A=some ad->ad.block≠b)(h:eM w lo A n c a):eM w' lo A n c a:=⟨Rw.putU k hne h.row,h.len,h.cap⟩
def ab1:=@eM.putU
def zz {qs:List Nat}(hr:Rw w lo A (ints qs))(hd:∀d∈qs,d<10000)(hv:b8 10000 qs=v)(ht:ei qs=qs.take m)(hm:m<=qs.length)(hc:m<=c):eM w lo A m c v:=by
 have h1:av 10000 v=qs.take m:=by rw[<-ht,<-hv];exact(my 10000 U qs hd).symm
 refine⟨?_,?_,hc⟩
 · rw[h1]
   have:=hr.take m
   simpa[ints,List.map_take]using this
 · rw[h1];simp;omega
set_option maxRecDepth 100000 in
def sQ (h1:eM w lo1 A1 n1 c1 a1)(s1:n1<=9000)(h2:eM w lo2 A2 n2 c2 a2)(s2:n2<=9000)(h0:0<a2):
 CL 171 #[.slice A1 n1 c1,.slice A2 n2 c2] w (aC w λv w'=>∃A n c B m d,v=.tuple #[.slice A n c,.slice B m d]/\eM w' w.heap.size A n c (a1/a2)/\eM w' w.heap.size B m d (a1%a2)):=by
 refine uc func171 Z (I ?_);refine bx (λAx Zk O=>?_);have E4:=Zk.2;refine al BE (λAq ZL T3=>?_);have⟨O,E4⟩:=bD ZL.2 O E4;refine al BE (λAd ZT qr=>?_);have⟨O,T3,E4⟩:=bC ZT.2 O T3 E4;refine I ?_;refine ac (tD (m:=n1) hO mf Z Z U DQ (λ_ Zq _ Z3=>?_));have⟨O,T3,qr,E4⟩:=bW Zq O T3 qr E4;have hq:=sN Z3;rw[show(Value.int IntKind.i64 0).cells=#[Value.int .i64 0]from rfl,qQ]at hq;clear Z3;refine SO T3 (λZC ZS qn=>?_);have⟨O,qr,hq,E4,_⟩:=l7 ZS O qr hq E4;refine I ?_;refine cl Dy (j4 (A:=A1) (n:=n1) (c:=c1)) ?_;rintro _ W1 ZF ⟨rfl,Zw⟩;have⟨O,qn,qr,hq,E4⟩:=eE ZF.2 O qn qr hq E4;refine I ?_
 refine sM (m:=n1) (enc:=λx=>[.int .i64 x,.int .i64 (((av 10000 a1).getD x 0:Nat):Int)]) (order:=(List.range n1).reverse) (Kq:=λW=>au W ZC.heap.size 150 #[.slice A1 n1 c1]/\Rw W lo1 A1 (ints (av 10000 a1))) (gf:=223) (lb:=[pT ZC.heap.size]) (ps:=[15,16]) Z DD (iP Zw (h1.row.ext E4) h1.len U) (λW W' row hq E1 hr=>⟨ab7 E1 hr hq.1,Rw.cel E1 hr hq.2⟩) (λ_=>rfl) [6,7] (λx=>[.int .i64 x,.int .i64 (((av 10000 a1).getD x 0:Nat):Int)]) ?asn (λpre W=>∃Ar:Option Addr,∃Ao:Nat,∃Ap:Nat,(W1.heap.size<=W.heap.size)/\(bF w W)/\(au W w.heap.size 150 #[.slice A2 n2 c2])/\(au W Ax.heap.size 150 #[.slice (some ⟨Ad.heap.size,0,none⟩) n1 n1])/\(au W Aq.heap.size 150 #[.slice Ar Ao Ap])/\(au W Ad.heap.size 3 (ints (dJ a2 (av 10000 a1) n1 pre).1).toArray)/\(eM W W1.heap.size Ar Ao Ap ((dJ a2 (av 10000 a1) n1 pre).2))) (λ_ _ _=>False) ?hI ?hIx ?h0 ?body ?done ?stop;case asn=>
  intro l x W K hK;refine I ?_;exact hK
 case hI=>
  rintro pre W W' row ⟨Ar,Ao,Ap,Wa,E,O,qn,qr,hq,hv⟩ E1 hr;exact⟨Ar,Ao,Ap,qa8 Wa E1.size,oU (B:=W1.heap.size) U E1 hr (bz E) E,ab7 E1 hr O,ab7 E1 hr qn,ab7 E1 hr qr,ab7 E1 hr hq,eM.cel E1 hr hv⟩
 case hIx=>
  exact λ_ _ _ _ _ h=>h.elim
 case h0=>
  exact⟨none,0,0,qa0 _,E4,O,qn,qr,hq,eM.zero _ _⟩
 case body=>
  rintro l pre x W ⟨Ar,Ao,Ap,Wa,E,O,qn,qr,hq,hv⟩ a4 hx a0;have Kp:=dN.refl [Aq.heap.size,Ad.heap.size] W;have zW:=bz E;have ZY:=hv.hi;have hd:=getD_lt h1.lt x;have ZB:=Il a2 (av 10000 a1) n1 h0 pre;have ZA:=ww a2 (av 10000 a1) n1 pre;have a9:Ao<=n2:=by rw[<-hv.len,<-h2.len];exact eV U U
  have Zt:=ac5 qr;have Zs:=ac5 hq;have ZZ:((dJ a2 (av 10000 a1) n1 pre).2*10000+((av 10000 a1).getD x 0))<a2*10000:=by have:((dJ a2 (av 10000 a1) n1 pre).2+1)*10000<=a2*10000:=Nat.mul_le_mul_right _ ZB;omega
  refine I ?_;refine BS (λ_ E9 _ Z7=>?_);have O:=be E9 O;have qn:=be E9 qn;have qr:=be E9 qr;have hq:=be E9 hq;have hv:=aa3 E9 hv;have E:=xt E E9;have Kp:=ab9 Kp E9;have a8:=bz E9;refine I ?_;refine ac (me (v:=.slice (some ⟨W.heap.size,0,none⟩) 1 1) (k:=1) hO mf Z dc Z Z7 Z hv.row (by rw[eo,hv.len];omega) o5 DQ U U (λ_ ZJ Z5 EW _=>?_));have O:=aa0 EW CA O;have qn:=aa0 EW CA qn;have qr:=aa0 EW CA qr;have hq:=aa0 EW CA hq;have hv:=eM.gr EW (λT2 e=>by have:=ZY T2 e;simp[Value.ownBlock];omega) hv;have Kp:=dN.gr Kp EW (λb hb=>by exact Or.inr (by simp[Value.ownBlock]at hb;omega));have E:=cI E EW (bz E) (λg ZW=>by have:=(Z7.lt g ZW).1;omega);have a6:=EW.size;obtain⟨Aw,Zo,rfl,Zm,aL,-,-⟩:=eT Z5;have hs:Rw ZJ W.heap.size Aw (ints (((av 10000 a1).getD x 0)::av 10000 ((dJ a2 (av 10000 a1) n1 pre).2))):=aa4 Z5;refine clb rK (hc:=gg hs (by rw[List.length_cons,hv.len];omega) Zm U) (hk:=?_);rintro _ Zr E7 ⟨TT,rfl,Ay,F8⟩;have O:=be E7.2 O;have qn:=be E7.2 qn
  have qr:=be E7.2 qr;have hq:=be E7.2 hq;have hv:=aa3 E7.2 hv;have E:=xt E E7.2;have Kp:=ab9 Kp E7.2;rw[zy _ _ hd]at Ay;have Af:eM Zr W.heap.size Aw TT Zo ((dJ a2 (av 10000 a1) n1 pre).2*10000+((av 10000 a1).getD x 0)):=by
   refine⟨?_,?_,by omega⟩
   rw[Ay];have:=(hs.ext E7.2).take TT;simpa[ints,List.map_take]using this;rw[Ay,List.length_take,List.length_cons,hv.len];omega
  have uhnew:=Af.hi;have aB:TT<=n2+1:=by rw[<-Af.len,aW 10000 U];have:=oz (B:=10000) U a2;rw[h2.len]at this;rw[Nat.pow_succ];omega
  refine SO qr (λZ1 F7 As=>?_);have O:=pb F7 O;have qn:=pb F7 qn;have hq:=pb F7 hq;have Af:=ab3 F7 U Af;have E:=bB F7 E;have Kp:=ac2 Kp F7 RM;have a7:=mC F7;refine I ?_;refine ac (cL (vf:=[.slice A2 n2 c2]) (vc:=[]) Z Z ?_);refine al PX (λ_ F3 Zp=>?_);have O:=be F3.2 O;have qn:=be F3.2 qn;have As:=be F3.2 As;have hq:=be F3.2 hq;have Af:=aa3 F3.2 Af;have E:=xt E F3.2;have Kp:=ab9 Kp F3.2;refine SO Zp (λ_ EE Av=>?_);have O:=pb EE O;have qn:=pb EE qn;have As:=pb EE As;have hq:=pb EE hq;have Af:=ab1 EE (λT2 e=>by have:=uhnew T2 e;omega) Af;have E:=bB EE E;have Kp:=ac2 Kp EE RM;have a3:=mC EE;refine I ?_;refine ac (cL (vf:=[]) (vc:=[pT Z1.heap.size,pT Aq.heap.size]) Z Z ?_);refine I ?_;refine bY 5 ?_;refine sf ?_;refine aF (V:=.int .i64 ((((dJ a2 (av 10000 a1) n1 pre).2*10000+((av 10000 a1).getD x 0))/a2:Nat):Int)) (λ_ ZV hR55 _=>?_) ?_;have As:=be hR55 As
  have Af:=aa3 hR55 Af;have Av:=be hR55 Av;have ZG:∀(i:Nat) (V:World),i<9999->bF ZV V->CL 215 (([Value.int .i64 i]:List Value)++([pT Z1.heap.size,pT Aq.heap.size]:List Value)).toArray V (aC V λv _=>v=.bool (decide (0<aG ((a2*(i+1):Nat):Int) ((((dJ a2 (av 10000 a1) n1 pre).2*10000+((av 10000 a1).getD x 0)):Nat):Int)))):=by(intro i V hi Y;exact MK (h2.ext (xt (xt E hR55) Y)) U (Af.ext Y) (Av.ext Y) (As.ext Y) hi)
  refine clb T8 (hc:=FB (m:=9999) (lb:=[pT Z1.heap.size,pT Aq.heap.size]) T7 U ZG (λi j ZK _ h=>FC i j ZK h)) (hk:=?_);rintro _ _ W3 ⟨aH,rfl,ZD,ZO,ZU⟩;have W3:=W3.2;obtain rfl:=Io h0 ZZ ZD ZO ZU;have E60:=W3;refine I ?_;exact fs ⟨E60,rfl⟩;refine bl (λ_ _ _ _=>by refine ac (ah (A:=some ⟨Ad.heap.size,0,none⟩) (bk:=Ad.heap.size) (o:=0) (m:=n1) (c:=n1) (i:=x) (oo:=x) hO eP Z Z Z hx U ?_);refine I ?_;exact cz) ?_;refine sf ?_;intro _ _ hR67 _;have O:=be hR67.2 O;have qn:=be hR67.2 qn;have As:=be hR67.2 As;have hq:=be hR67.2 hq;have Af:=aa3 hR67.2 Af;have Av:=be hR67.2 Av;have E:=xt E hR67.2;have Kp:=ab9 Kp hR67.2;refine ac (eG (b:=Ad.heap.size) (o:=x) (v:=.int .i64 ((((dJ a2 (av 10000 a1) n1 pre).2*10000+((av 10000 a1).getD x 0))/a2:Nat):Int)) eP Z Z Z hq (by simp[ints,ZA];omega) (λZu F1 ZM=>?_));have O:=pb F1 O;have qn:=pb F1 qn;have As:=pb F1 As;have Af:=ab3 F1 U Af;have Av:=pb F1 Av;have E:=bB F1 E;have Kp:=ac2 Kp F1 RM;have a5:=mC F1
  have hq:=ZM;rw[ints_set]at hq;refine I ?_;obtain⟨L,_⟩:∃L,L=Zu.heap.size:=⟨_,rfl⟩;refine bY 8 ?_;refine sf ?_;refine bl (λ_ _ _ _=>by refine ac (ah (A:=some ⟨Ad.heap.size,0,none⟩) (bk:=Ad.heap.size) (o:=0) (m:=n1) (c:=n1) (i:=x) (oo:=x) hO eP Z Z Z hx U ?_);refine I ?_;exact cz) ?_;refine bl (λ_ _ hR93 _=>by have hq:=be hR93 hq;refine ac (bP (v:=.int .i64 ((((dJ a2 (av 10000 a1) n1 pre).2*10000+((av 10000 a1).getD x 0))/a2:Nat):Int)) U3 Z Z (aa9 hq (by simp[ints,ZA,hx])) ?_);refine I ?_;exact cz) ?_
  refine eU (λv w=>eH L (a2*(((dJ a2 (av 10000 a1) n1 pre).2*10000+((av 10000 a1).getD x 0))/a2)) v w) (hs:=λ_ _ _ k h=>h.ext k) (λ_ _ hR97 _=>?_) ?_;refine ac (DL (vs:=[.int .i64 ((((dJ a2 (av 10000 a1) n1 pre).2*10000+((av 10000 a1).getD x 0))/a2:Nat):Int)]) (la:=[.slice A2 n2 c2]) Dz Z Z (D6 (h2.ext (xt E hR97)) U (D8 ZB hd)) ?_);rintro _ _ Zx ⟨Ab,nb,Z6,rfl,L2⟩;have Zl:=Zx;have L2:=L2.mono (lo':=L) (by have:=bz hR97;omega);refine I ?_;exact fs ⟨Zl,⟨Ab,nb,Z6,rfl,L2⟩⟩;refine eU (λv w=>eH L (((dJ a2 (av 10000 a1) n1 pre).2*10000+((av 10000 a1).getD x 0))-a2*(((dJ a2 (av 10000 a1) n1 pre).2*10000+((av 10000 a1).getD x 0))/a2)) v w) (hs:=λ_ _ _ k h=>h.ext k) (λ_ _ Z8 Zn=>?_) ?_;obtain⟨Ab,nb,Z6,ZH,L2⟩:=(Zn 6 36 Z Z);have Z9:a2*(((dJ a2 (av 10000 a1) n1 pre).2*10000+((av 10000 a1).getD x 0))/a2)<=((dJ a2 (av 10000 a1) n1 pre).2*10000+((av 10000 a1).getD x 0)):=Nat.mul_div_le _ _;have ZR:nb<=TT:=by rw[<-L2.len,<-Af.len];exact eV U Z9
  have Af:=aa3 Z8 Af;refine clb Dw (hc:=o7 Af U L2 U Z9 ZR) (hk:=?_) (hv:=ai Z (ai ZH Z));rintro _ _ ZP ⟨Am,Z0,W0,rfl,EP⟩;have Zv:=ZP.2;have EP:=EP.mono (lo':=L) (by have:=bz Z8;omega);refine I ?_;exact fs ⟨Zv,⟨Am,Z0,W0,rfl,EP⟩⟩;refine sf ?_;intro _ _ F6 Zz;have O:=be F6.2 O;have qn:=be F6.2 qn;have As:=be F6.2 As;have hq:=be F6.2 hq;have Av:=be F6.2 Av;have E:=xt E F6.2;have Kp:=ab9 Kp F6.2;obtain⟨Am,Z0,W0,_,EP⟩:=(Zz 7 37 Z Z);rw[show((dJ a2 (av 10000 a1) n1 pre).2*10000+((av 10000 a1).getD x 0))-a2*(((dJ a2 (av 10000 a1) n1 pre).2*10000+((av 10000 a1).getD x 0))/a2)=((dJ a2 (av 10000 a1) n1 pre).2*10000+((av 10000 a1).getD x 0))%a2 by have:=Nat.div_add_mod ((dJ a2 (av 10000 a1) n1 pre).2*10000+((av 10000 a1).getD x 0)) a2;omega]at EP
  refine SO As (λ_ Ek ZX=>?_);have O:=pb Ek O;have qn:=pb Ek qn;have hq:=pb Ek hq;have Av:=pb Ek Av;have EP:=ab3 Ek U EP;have E:=bB Ek E;have Kp:=ac2 Kp Ek RM;have ab:=mC Ek;refine I ?_;exact⟨Kp.others (by simp only[List.mem_cons,List.not_mem_nil,or_false];rintro b (rfl|rfl);exact Zt;exact Zs),λhq=>⟨Kp.blk Hx hq.1,Kp.rw (λT2 e=>by have:=h1.hi T2 e;simp;omega) hq.2⟩,⟨Am,Z0,W0,U,E,O,qn,ZX,(by rw[uu];exact hq),(by rw[uu];exact EP.mono U)⟩⟩
 case stop=>
  exact λ_ _ _ _ _ _ h _=>h.elim
 case done=>
  rintro D W hD ⟨Ar,Ao,Ap,Wa,E,O,qn,qr,hq,hv⟩ hK;have zW:=bz E;refine I ?_;obtain⟨od,T4,ZQ⟩:=Im h0 h1.len;rw[ZQ]at hv;have Wb:=ww a2 (av 10000 a1) n1 (List.range n1).reverse;generalize hqs:(dJ a2 (av 10000 a1) n1 ((List.range n1).reverse)).1=qs at *;refine Mk g8 ?_;have F2:=aa8 W;generalize hgw:World.drew W=ao2 at F2 ⊢;clear hgw;have O:=be F2 O;have qn:=be F2 qn;have qr:=be F2 qr;have hq:=be F2 hq;have hv:=aa3 F2 hv;have hK:=oV.ext F2 hK;have E:=xt E F2;refine ig (i:=0) (is:=[2]) fJ ⟨?_,?_,trivial⟩;refine mA Z ?_;refine(bP (v:=.slice (some ⟨Ad.heap.size,0,none⟩) n1 n1) (b:=Ax.heap.size) (o:=0) hO Z Z (aa9 qn Z) ?_);refine ig (i:=1) (is:=[2]) fJ ⟨?_,?_,trivial⟩;refine mA Z ?_;refine(xR (vs:=[.slice (some ⟨Ad.heap.size,0,none⟩) n1 n1]) rK Z (gg (ab5 hq (qa0 _)) Wb (qa0 _) U) ?_);rintro _ _ Ix ⟨E0,rfl,Ay,F8⟩;have O:=be Ix.2 O;have qn:=be Ix.2 qn;have qr:=be Ix.2 qr;have hq:=be Ix.2 hq;have hv:=aa3 Ix.2 hv;have hK:=oV.ext Ix.2 hK;have E:=xt E Ix.2;refine ig (i:=2) (is:=[3]) fJ ⟨?_,?_,trivial⟩;refine mA Z ?_;refine(bP (v:=.slice Ar Ao Ap) (b:=Aq.heap.size) (o:=0) hO Z Z (aa9 qr Z) ?_)
  refine ig (i:=3) (is:=[]) fJ ⟨?_,trivial⟩;refine mA Z ?_;refine(eG (b:=Ax.heap.size) (o:=0) (v:=.slice (some ⟨Ad.heap.size,0,none⟩) E0 n1) mg Z Z Z qn (qa3 Z) (λ_ K2 Z2=>?_));have O:=pb K2 O;have qr:=pb K2 qr;have hq:=pb K2 hq;have hv:=ab3 K2 U hv;have hK:=ac3 K2 (hK.ne qn) hK;have E:=bB K2 E;refine ig (i:=4) (is:=[]) fJ ⟨?_,trivial⟩;refine mA Z ?_;refine(eG (b:=Aq.heap.size) (o:=0) (v:=.slice Ar Ao Ap) mg Z Z Z qr (qa3 Z) (λ_ Jx Zy=>?_));have O:=pb Jx O;have Z2:=pb Jx Z2;have hq:=pb Jx hq;have hv:=ab3 Jx U hv;have hK:=ac3 Jx (hK.ne qr) hK;have E:=bB Jx E;refine DN fJ (I ?_);have F4:=hv.dfr hK;have F5:=au.dfr hK hq;refine jK (v:=.tuple #[.slice (some ⟨Ad.heap.size,0,none⟩) E0 n1,.slice Ar Ao Ap]) hK (cn (r1:=.cell 4 150) (r2:=.cell 5 150) Z ?_ ?_) ((fk _).low E U) ⟨_,_,_,_,_,_,rfl,zz (ab5 F5 U) od T4 Ay U F8,F4.mono U⟩;refine dh (b:=Ax.heap.size) (o:=0) hO Z ?_ ?_;exact Z
  exact aa9 (Z2.dfr hK) Z;refine dh (b:=Aq.heap.size) (o:=0) hO Z ?_ ?_;exact Z;exact aa9 (Zy.dfr hK) Z;refine mA Z ?_;refine(eG (b:=Ax.heap.size) (o:=0) (v:=.slice (some ⟨Ad.heap.size,0,none⟩) E0 n1) mg Z Z Z qn (qa3 Z) (λ_ R1 X2=>?_));have O:=pb R1 O;have qr:=pb R1 qr;have hq:=pb R1 hq;have hv:=ab3 R1 U hv;have hK:=ac3 R1 (hK.ne qn) hK;have E:=bB R1 E;refine ig (i:=2) (is:=[]) fJ ⟨?_,trivial⟩;refine mA Z ?_;refine(bP (v:=.slice Ar Ao Ap) (b:=Aq.heap.size) (o:=0) hO Z Z (aa9 qr Z) ?_);refine ig (i:=4) (is:=[]) fJ ⟨?_,trivial⟩;refine mA Z ?_;refine(eG (b:=Aq.heap.size) (o:=0) (v:=.slice Ar Ao Ap) mg Z Z Z qr (qa3 Z) (λ_ Ne ZE=>?_));have O:=pb Ne O;have X2:=pb Ne X2;have hq:=pb Ne hq;have hv:=ab3 Ne U hv;have hK:=ac3 Ne (hK.ne qr) hK;have E:=bB Ne E;refine DN fJ (I ?_);have F4:=hv.dfr hK;have F5:=au.dfr hK hq;refine jK (v:=.tuple #[.slice (some ⟨Ad.heap.size,0,none⟩) E0 n1,.slice Ar Ao Ap]) hK (cn (r1:=.cell 4 150) (r2:=.cell 5 150) Z ?_ ?_) ((fk _).low E U) ⟨_,_,_,_,_,_,rfl,zz (ab5 F5 U) od T4 Ay U F8,F4.mono U⟩
  refine dh (b:=Ax.heap.size) (o:=0) hO Z ?_ ?_;exact Z;exact aa9 (X2.dfr hK) Z;refine dh (b:=Aq.heap.size) (o:=0) hO Z ?_ ?_;exact Z;exact aa9 (ZE.dfr hK) Z;refine mA Z ?_;refine(bP (v:=.slice Ar Ao Ap) (b:=Aq.heap.size) (o:=0) hO Z Z (aa9 qr Z) ?_);refine ig (i:=1) (is:=[]) fJ ⟨?_,trivial⟩;refine mA Z ?_;refine(xR (vs:=[.slice (some ⟨Ad.heap.size,0,none⟩) n1 n1]) rK Z (gg (ab5 hq (qa0 _)) Wb (qa0 _) U) ?_);rintro _ _ G3 ⟨E0,rfl,Ay,F8⟩;have O:=be G3.2 O;have qn:=be G3.2 qn;have qr:=be G3.2 qr;have hq:=be G3.2 hq;have hv:=aa3 G3.2 hv;have hK:=oV.ext G3.2 hK;have E:=xt E G3.2;refine ig (i:=3) (is:=[]) fJ ⟨?_,trivial⟩;refine mA Z ?_;refine(eG (b:=Ax.heap.size) (o:=0) (v:=.slice (some ⟨Ad.heap.size,0,none⟩) E0 n1) mg Z Z Z qn (qa3 Z) (λ_ N1 W2=>?_));have O:=pb N1 O;have qr:=pb N1 qr;have hq:=pb N1 hq;have hv:=ab3 N1 U hv;have hK:=ac3 N1 (hK.ne qn) hK;have E:=bB N1 E;refine ig (i:=4) (is:=[]) fJ ⟨?_,trivial⟩;refine mA Z ?_;refine(eG (b:=Aq.heap.size) (o:=0) (v:=.slice Ar Ao Ap) mg Z Z Z qr (qa3 Z) (λ_ S1 ZI=>?_))
  have O:=pb S1 O;have W2:=pb S1 W2;have hq:=pb S1 hq;have hv:=ab3 S1 U hv;have hK:=ac3 S1 (hK.ne qr) hK;have E:=bB S1 E;refine DN fJ (I ?_);have F4:=hv.dfr hK;have F5:=au.dfr hK hq;refine jK (v:=.tuple #[.slice (some ⟨Ad.heap.size,0,none⟩) E0 n1,.slice Ar Ao Ap]) hK (cn (r1:=.cell 4 150) (r2:=.cell 5 150) Z ?_ ?_) ((fk _).low E U) ⟨_,_,_,_,_,_,rfl,zz (ab5 F5 U) od T4 Ay U F8,F4.mono U⟩;refine dh (b:=Ax.heap.size) (o:=0) hO Z ?_ ?_;exact Z;exact aa9 (W2.dfr hK) Z;refine dh (b:=Aq.heap.size) (o:=0) hO Z ?_ ?_;exact Z;exact aa9 (ZI.dfr hK) Z;refine mA Z ?_;refine(bP (v:=.slice Ar Ao Ap) (b:=Aq.heap.size) (o:=0) hO Z Z (aa9 qr Z) ?_);refine ig (i:=0) (is:=[]) fJ ⟨?_,trivial⟩;refine mA Z ?_;refine(bP (v:=.slice (some ⟨Ad.heap.size,0,none⟩) n1 n1) (b:=Ax.heap.size) (o:=0) hO Z Z (aa9 qn Z) ?_);refine ig (i:=1) (is:=[]) fJ ⟨?_,trivial⟩;refine mA Z ?_;refine(xR (vs:=[.slice (some ⟨Ad.heap.size,0,none⟩) n1 n1]) rK Z (gg (ab5 hq (qa0 _)) Wb (qa0 _) U) ?_);rintro _ _ G4 ⟨E0,rfl,Ay,F8⟩
  have O:=be G4.2 O;have qn:=be G4.2 qn;have qr:=be G4.2 qr;have hq:=be G4.2 hq;have hv:=aa3 G4.2 hv;have hK:=oV.ext G4.2 hK;have E:=xt E G4.2;refine ig (i:=3) (is:=[]) fJ ⟨?_,trivial⟩;refine mA Z ?_;refine(eG (b:=Ax.heap.size) (o:=0) (v:=.slice (some ⟨Ad.heap.size,0,none⟩) E0 n1) mg Z Z Z qn (qa3 Z) (λ_ ny wr=>?_));have O:=pb ny O;have qr:=pb ny qr;have hq:=pb ny hq;have hv:=ab3 ny U hv;have hK:=ac3 ny (hK.ne qn) hK;have E:=bB ny E;refine ig (i:=4) (is:=[]) fJ ⟨?_,trivial⟩;refine mA Z ?_;refine(eG (b:=Aq.heap.size) (o:=0) (v:=.slice Ar Ao Ap) mg Z Z Z qr (qa3 Z) (λ_ No ZN=>?_));have O:=pb No O;have wr:=pb No wr;have hq:=pb No hq;have hv:=ab3 No U hv;have hK:=ac3 No (hK.ne qr) hK;have E:=bB No E;refine DN fJ (I ?_);have F4:=hv.dfr hK;have F5:=au.dfr hK hq;refine jK (v:=.tuple #[.slice (some ⟨Ad.heap.size,0,none⟩) E0 n1,.slice Ar Ao Ap]) hK (cn (r1:=.cell 4 150) (r2:=.cell 5 150) Z ?_ ?_) ((fk _).low E U) ⟨_,_,_,_,_,_,rfl,zz (ab5 F5 U) od T4 Ay U F8,F4.mono U⟩
  refine dh (b:=Ax.heap.size) (o:=0) hO Z ?_ ?_;exact Z;exact aa9 (wr.dfr hK) Z;refine dh (b:=Aq.heap.size) (o:=0) hO Z ?_ ?_;exact Z;exact aa9 (ZN.dfr hK) Z
end Go.Proofs.YthpinljhfnodeaaGreatDoor
namespace Go.Eng
variable {l d:List UInt8}
def cZ (c:UInt8):Bool:=decide (48<=c.toNat)&&decide (c.toNat<=57)
def body:List UInt8->List UInt8
 |45::t=>t
 |l=>l
def neg:List UInt8->Bool
 |45::_=>true
 |_=>false
def e8 (l:List UInt8):List Nat:=l.reverse.map λc=>c.toNat-48
def aN (l:List UInt8):Nat:=b8 10 (e8 l)
def eN (d:List UInt8):Bool:=!d.isEmpty&&decide (d.length<=200)&&d.all cZ&&(decide (d=[48])||decide (d.head?≠some 48))
def isInt (l:List UInt8):Bool:=eN (body l)&& !(neg l&&decide (body l=[48]))
def aA (l:List UInt8):Int:=if neg l then -(aN (body l):Int)else(aN (body l):Int)
def du (l:List Nat):List UInt8:=l.reverse.map λd=>UInt8.ofNat (48+d)
def bQ (n:Nat):List UInt8:=if n=0 then[48]else du (av 10 n)
def ae (n:Int):List UInt8:=if n<0 then 45::bQ n.natAbs else bQ n.natAbs
def fits (n:Int):Bool:=decide (n.natAbs<10^200)
def RA {c:UInt8}(h:cZ c=true):c.toNat-48<10:=by simp[cZ]at h;omega
def xT (h:l.all cZ=true):∀d∈e8 l,d<10:=by
 intro d hd
 simp only[e8,List.mem_map,List.mem_reverse]at hd
 obtain⟨c,hc,rfl⟩:=hd
 exact RA (List.all_eq_true.1 h c hc)
def byte_of {c:UInt8}(h:cZ c=true):UInt8.ofNat (48+(c.toNat-48))=c:=by
 simp[cZ]at h
 rw[show 48+(c.toNat-48)=c.toNat by omega]
 simp
def Co (h:l.all cZ=true):du (e8 l)=l:=by
 unfold du e8
 rw[<-List.map_reverse,List.reverse_reverse,List.map_map]
 conv=>rhs;rw[<-List.map_id l]
 apply List.map_congr_left
 intro c hc
 exact byte_of (List.all_eq_true.1 h c hc)
def Cp {l:List Nat}(h:∀d∈l,d<10):e8 (du l)=l:=by
 unfold du e8
 rw[<-List.map_reverse,List.reverse_reverse,List.map_map]
 conv=>rhs;rw[<-List.map_id l]
 apply List.map_congr_left
 intro d hd
 have:=h d hd
 simp only[Function.comp,UInt8.toNat_ofNat',id]
 omega
def FD {l:List Nat}(h:∀d∈l,d<10):(du l).all cZ=true:=by
 rw[List.all_eq_true]
 intro c hc
 simp only[du,List.mem_map,List.mem_reverse]at hc
 obtain⟨d,hd,rfl⟩:=hc
 have:=h d hd
 simp only[cZ,UInt8.toNat_ofNat',Bool.and_eq_true,decide_eq_true_eq]
 omega
def dr (l:List Nat):(du l).length=l.length:=by simp[du]
def iZ (l:List UInt8):(e8 l).length=l.length:=by simp[e8]
def uv (h:eN d=true)(h0:d≠[48]):Canon 10 (e8 d):=by
 simp only[eN,Bool.and_eq_true,Bool.or_eq_true,decide_eq_true_eq]at h
 obtain⟨⟨⟨h1,h2⟩,h3⟩,h4⟩:=h
 refine⟨xT h3,?_⟩
 rcases h4 with h4|h4
 · exact absurd h4 h0
 · cases d with
   |nil=>simp at h1
   | cons c t=>
     have hc:cZ c=true:=by simp at h3;exact h3.1
     have O:c≠48:=by simpa using h4
     simp only[e8,List.reverse_cons,List.map_append,List.map_cons,List.map_nil,List.getLast?_concat,ne_eq,Option.some.injEq]
     intro _
     simp[cZ]at hc
     have:c.toNat=48:=J
     exact O (UInt8.toNat_inj.1 (by simpa using this))
def zA (h:eN d=true)(h0:d≠[48]):e8 d=av 10 (aN d):=mw J (uv h h0)
def qS:aN [48]=0:=by decide
def o8 (h:eN d=true)(h0:d≠[48]):0<aN d:=by
 refine Canon.pos J (uv h h0) ?_
 intro e
 have:d.length=0:=by rw[<-iZ,e];rfl
 simp[eN,List.length_eq_zero_iff.1 this]at h
def jM (h:eN d=true):d.all cZ=true:=by
 simp only[eN,Bool.and_eq_true]at h;exact h.1.2
def jB (h:eN d=true):0<d.length/\d.length<=200:=by
 simp only[eN,Bool.and_eq_true,decide_eq_true_eq]at h
 refine⟨?_,h.1.1.2⟩
 have:=h.1.1.1
 cases d <;>simp at this ⊢
def sR (h:eN d=true):aN d<10^200:=by
 have h1:aN d<10^d.length:=by rw[<-iZ];exact ji 10 _ (xT (jM h))
 exact qb0 h1 (Nat.pow_le_pow_right J (jB h).2)
def uw (h:eN d=true):bQ (aN d)=d:=by
 by_cases h0:d=[48]
 · subst h0;decide
 · unfold bQ
   rw[if_neg (by have:=o8 h h0;omega),<-zA h h0,Co (jM h)]
def oA {n:Nat}(h:n≠0):av 10 n≠[]:=λe=>h (by have:=dj 10 J n;rw[e]at this;exact this.symm)
def gh (n:Nat):aN (bQ n)=n:=by
 unfold bQ
 split
 · next h=>subst h;decide
 · rw[aN,Cp (dH 10 J n),dj 10 J]
def zB {n:Nat}(h:n<10^200):eN (bQ n)=true:=by
 unfold bQ
 split
 · decide
 · next h0=>
   have O:=oA h0
   have hl:(av 10 n).length<=200:=(aW 10 J n 200).2 h
   have h1:(du (av 10 n)).isEmpty=false:=by
    cases hh:du (av 10 n)with
    |nil=>exact absurd (List.length_eq_zero_iff.1 (by rw[<-dr,hh];rfl)) O
    |cons a b=>rfl
   simp only[eN,h1,FD (dH 10 J n),dr,hl,decide_true,Bool.not_false,Bool.and_self,Bool.true_and,Bool.or_eq_true,decide_eq_true_eq]
   right
   have h2:=jY 10 J n
   have h3:=dH 10 J n
   unfold du
   rw[List.head?_map,List.head?_reverse]
   cases hg:(av 10 n).getLast? with
   |none=>simp
   | some x=>
     simp only[Option.map_some,ne_eq,Option.some.injEq]
     intro e
     have hx:x<10:=h3 x (List.mem_of_getLast? hg)
     have:=qb1 UInt8.toNat e
     simp at this
     have:x=0:=J
     subst this
     exact h2 hg
def lJ (n:Nat):(bQ n).head?≠some 45:=by
 unfold bQ
 split
 · decide
 · unfold du
   rw[List.head?_map,List.head?_reverse]
   cases hg:(av 10 n).getLast? with
   |none=>simp
   | some x=>
     have hx:x<10:=dH 10 J n x (List.mem_of_getLast? hg)
     simp only[Option.map_some,ne_eq,Option.some.injEq]
     intro e
     have:=qb1 UInt8.toNat e
     simp at this
     omega
def FE {a b:Nat}(h:bQ a=bQ b):a=b:=by rw[<-gh a,h,gh]
def o9 (h:l.head?≠some 45):body l=l:=by
 unfold body;split
 · simp at h
 · rfl
def Ip (h:l.head?≠some 45):neg l=false:=by
 unfold neg;split
 · simp at h
 · rfl
def mI (h:neg l=true):l=45::body l:=by
 unfold neg at h;split at h
 · rfl
 · cases h
def mJ (h:neg l=false):body l=l:=by
 unfold neg at h;split at h
 · cases h
 · next hh => unfold body;split
              · exact absurd Z (hh _)
              · rfl
def eF (h:isInt l=true):eN (body l)=true:=by
 simp only[isInt,Bool.and_eq_true]at h;exact h.1
def oB (h:isInt l=true)(hn:neg l=true):body l≠[48]:=by
 simp only[isInt,Bool.and_eq_true,hn,Bool.true_and,Bool.not_eq_true',decide_eq_false_iff_not]at h;exact h.2
def e9 (l:List UInt8):(aA l).natAbs=aN (body l):=by unfold aA;split <;>simp
def Iq (h:isInt l=true):decide (aA l<0)=neg l:=by
 unfold aA
 cases hn:neg l with
 | true=>
   have:=o8 (eF h) (oB h hn)
   simp;omega
 |false=>simp
def i6 (h:isInt l=true):fits (aA l)=true:=by
 simp only[fits,e9,decide_eq_true_eq];exact sR (eF h)
def lK (h:isInt l=true):ae (aA l)=l:=by
 have O:=Iq h
 unfold ae
 rw[e9,uw (eF h)]
 cases hg:neg l with
 | true=>
   rw[hg,decide_eq_true_eq]at O
   rw[if_pos O,<-mI hg]
 | false=>
   rw[hg,decide_eq_false_iff_not]at O
   rw[if_neg O,mJ hg]
def fq (n:Int):body (ae n)=bQ n.natAbs:=by
 unfold ae
 split
 · rfl
 · exact o9 (lJ _)
def iC (n:Int):neg (ae n)=decide (n<0):=by
 unfold ae
 split
 · next h=>simp[neg,h]
 · next h=>rw[Ip (lJ _)];simp[h]
def aO (n:Int):aA (ae n)=n:=by
 unfold aA
 rw[iC,fq,gh]
 by_cases h:n<0
 · simp[h];omega
 · simp[h];omega
def bR {n:Int}(h:fits n=true):isInt (ae n)=true:=by
 have h1:n.natAbs<10^200:=of_decide_eq_true h
 unfold isInt
 rw[fq,iC,zB h1,Bool.true_and,Bool.not_eq_true',Bool.and_eq_false_iff]
 by_cases hn:n<0
 · right
   rw[decide_eq_false_iff_not]
   intro e
   have:=FE (a:=n.natAbs) (b:=0) (by rw[e];decide)
   omega
 · left;simp[hn]
def Ir {a b:List UInt8}(ha:isInt a=true)(hb:isInt b=true)(h:aA a=aA b):a=b:=by
 rw[<-lK ha,h,lK hb]
def qU {a b:Int}(h:ae a=ae b):a=b:=by rw[<-aO a,h,aO]
def jN:isInt [48]=true:=by decide
def kY:aA [48]=0:=by decide
def ii (h:isInt l=true):aA l=0↔l=[48]:=
 ⟨λe=>Ir h jN (e.trans kY.symm),λe=>by rw[e,kY]⟩
def bw (n:Int):Option (List UInt8):=if fits n then some (ae n)else none
def ku (a b:List UInt8):Option (List UInt8):=if isInt a&&isInt b then bw (aA a+aA b)else none
def bi (a b:List UInt8):Option (List UInt8):=if isInt a&&isInt b then bw (aA a-aA b)else none
def ao (a b:List UInt8):Option (List UInt8):=if isInt a&&isInt b then bw (aA a*aA b)else none
def Vc (a b:List UInt8):Option (List UInt8×List UInt8):=if isInt a&&isInt b&&decide (b≠[48])then(bw (aA a/aA b)).map λq=>(q,ae (aA a%aA b))else none
def cQ (a b:List UInt8):Option (List UInt8):=if isInt a&&isInt b then bw ((Int.gcd (aA a) (aA b):Nat):Int)else none
def gG (a b:List UInt8):Int:=if isInt a&&isInt b then aG (aA a) (aA b)else 0
end Go.Eng
namespace Go.Proofs.YthpinljhfnodeaaGreatDoor
open Go Go.Eng Go.RowKit Go.Sort Go.Proofs Tryz
variable {cs args:Array Value}{nx ny:Bool}{gs:List Nat}{l d:List UInt8}{m a n1 c1 lo1:Nat}{A1 A2:Option Addr}{w w':World}
section
def Tb (w:World):Prop:=∃fz:Nat×Nat,w.heap[1]?=some (.cells ((Lib.pow10Tab.map λz=>Value.int .u64 z).toArray) 265 fz)
def Tb.ext (k:bF w w')(h:Tb w):Tb w':=by
 obtain⟨fz,h⟩:=h
 exact⟨fz,k.heap h⟩
def aa7:=@Tb.ext
def Tb.gr {b:Nat}{t:TypeId}(k:w.grownBy w' (some b))(hb:au w b t cs)(ht:t≠265)(h:Tb w):Tb w':=by
 obtain⟨fz,h⟩:=h
 refine⟨fz,(k.block 1 (Array.getElem?_eq_some_iff.1 h).1 (λe=>?_)).trans h⟩
 cases e
 unfold au at hb
 rw[hb]at h;cases h;exact ht Z
def Tb.put {b:Nat}{t:TypeId}(k:fU w w' b)(hb:au w b t cs)(ht:t≠265)(h:Tb w):Tb w':=by
 obtain⟨fz,h⟩:=h
 refine⟨fz,(k.block 1 (λe=>?_)).trans h⟩
 subst e
 unfold au at hb
 rw[hb]at h;cases h;exact ht Z
def Tb.tab (h : Tb w) : Lib.TabIs prog w "internal/strconv.uint64pow10" .u64 Lib.pow10Tab := by
 obtain⟨fz,h⟩:=h
 unfold Lib.TabIs World.var?
 have O : prog.globalNamed "internal/strconv.uint64pow10" = some 1 := by kernel_rfl
 rw[O]
 simp only[Option.bind_some,h]
def ux {P:Program}{f:FuncId}{R:Ending->World->Prop}{Q:Value->World->Prop}(h:Calls P f args w R)(hq:∀e w',R e w'->∃v,e=.returned v/\bF w w'/\Q v w'):Calls P f args w (aC w Q):=
 h.mono (by
  intro e w' hR
  obtain⟨v,rfl,h1,h2⟩:=hq e w' hR
  exact⟨h1,h2⟩)
def Is (w:World)(k:Nat)(os:Array Obj):bF w (grow (w.drewN k) os):=by
 refine⟨rfl,rfl,rfl,by simp[grow],λi hi=>?_⟩
 simp only[grow]
 rw[Array.getElem?_append_left (by simpa using hi)]
 rfl
def qV (l:List UInt8):(ByteArray.mk l.toArray).data.toList=l:=by simp
def uy (l:List UInt8):(ByteArray.mk l.toArray).size=l.length:=by simp[ByteArray.size]
def xU (n:Int)(w:World)(h0:-9223372036854775808<=n)(h1:n<=9223372036854775807)(ht:Tb w):CL 117 #[.int .i64 n] w (aC w λv _=>v=S (Lib.itoa n)):=
 ux (Tryz.strconv_Itoa n h0 h1 w ht.tab) (by
  rintro e w' ⟨rfl,k,os,rfl⟩
  exact⟨_,rfl,Is w k os,rfl⟩)
def uz (w:World)(e:TypeId)(s:ByteArray):bF w (Lib.bytesWorld w e s):=by
 have h1:bF w (w.drew.alloc (.cells (Lib.bytesCells w e s) e)):=ac4 (aa8 w) (bF.alloc _ _)
 have h2:w.heap.size<(w.drew.alloc (.cells (Lib.bytesCells w e s) e)).heap.size:=by simp[World.alloc,World.drew,-World.alloc_eq,-World.drew_eq]
 unfold Lib.bytesWorld World.freeze
 refine⟨h1.os,h1.tape,h1.output,by simpa using h1.size,λi hi=>?_⟩
 rw[<-h1.block i hi]
 split
 · next h=>cases h
 · show(Array.modify _ _ _)[i]? =_
   rw[Array.getElem?_modify,if_neg Hx]
def ML (l:List UInt8)(n:Int)(w:World)(hl:l.length<=18)(h:Lib.atoi l=some n):CL 222 #[S l] w (aC w λv _=>v=.tuple #[.int .i64 n,.nilIface]):=
 ux (Tryz.strconv_Atoi ⟨l.toArray⟩ n (by rw[uy];exact hl) (by rw[qV];exact h) w) (by
  rintro e w' ⟨rfl,t,rfl⟩
  exact⟨_,rfl,uz w 5 t,rfl⟩)
def qW (l:List UInt8)(c:Nat)(w:World)(hc:c<=1000000)(hl:l.length<=1000000):CL 160 #[S l,.int .i64 ((c:Nat):Int)] w (aC w λv _=>v=S (Lib.repeatL l c)):=by
 refine ux (Tryz.strings_Repeat ⟨l.toArray⟩ c w J (by rw[uy];have:=qb7 hl hc;omega)) ?_
 rintro e w' ⟨rfl,k⟩
 exact⟨_,rfl,k,by rw[qV];rfl⟩
def vP (l p:List UInt8)(w:World):CL 74 #[S l,S p] w (aC w λv _=>v=S (Lib.trimPrefix l p)):=
 ux (Tryz.strings_TrimPrefix ⟨l.toArray⟩ ⟨p.toArray⟩ w) (by
  rintro e w' ⟨rfl,rfl⟩
  exact⟨_,rfl,aa2 _,by rw[qV,qV];rfl⟩)
def sx (l:List UInt8):Lib.trimPrefix l [45]=body l:=by
 unfold Lib.trimPrefix Lib.hasPrefix
 cases l with
 |nil=>rfl
 | cons c t=>
   by_cases hc:c=45
   · subst hc;simp[List.isPrefixOf,body]
   · have h1:([45]:List UInt8).isPrefixOf (c::t)=false:=by
      simp[List.isPrefixOf];exact λh=>hc h.symm
     rw[h1,o9 (by simpa using hc)];rfl
def gH:List UInt8:=[48,49,50,51,52,53,54,55,56,57]
def MM (l:List UInt8)(w:World)(hl:l.length<=9223372036854775807):CL 189 #[S l,S gH] w (aC w λv _=>v=S (Lib.trimS l gH)):=
 ux (Any.strings_Trim_laid Tryz.lays160 GS ⟨l.toArray⟩ ⟨gH.toArray⟩ w (by rw[uy];exact hl) kd3 (ascii_of_all kd3)) (by
  rintro e w' ⟨rfl,k⟩
  exact⟨_,rfl,k,by rw[qV,qV];rfl⟩)
end
section
attribute [local irreducible] wpListIn Code.wpIn Oper.wpIn Exit.then Exit.inBlock Exit.noGoto
set_option maxHeartbeats 40000000
def bJ {p:Prop}(h:p:=by assumption):p:=h
def sS (l:List UInt8)(w:World):CL 74 #[S l,S [45]] w (aC w λv _=>v=S (body l)):=by
 have h:=vP l [45] w
 rw[sx]at h
 exact h
def uA {b:UInt8}:gH.contains b=cZ b:=by
 have h:∀b:Fin 256,gH.contains (UInt8.ofNat b.val)=cZ (UInt8.ofNat b.val):=by decide +kernel
 have:=h ⟨b.toNat,b.toNat_lt⟩
 simpa using this
def wx (d:List UInt8):Lib.trimS d gH=[]↔d.all cZ=true:=by
 have hd:∀l:List UInt8,l.dropWhile (λb=>gH.contains b)=[]↔l.all cZ=true:=by
  intro l
  induction l with
  |nil=>simp
  | cons a t ih=>
    simp only[List.dropWhile_cons,List.all_cons,uA]at ih ⊢
    cases cZ a <;>simp_all
 unfold Lib.trimS Lib.trimLeftS
 rw[hd]
 unfold Lib.trimRightS
 constructor
 · intro h
   by_cases hn:(d.reverse.dropWhile (λb=>gH.contains b))=[]
   · rw[hd]at hn;simpa using hn
   · exfalso
     have h2:(d.reverse.dropWhile (λb=>gH.contains b)).head hn∉gH:=by
      have:=List.head_dropWhile_not (p:=λb=>gH.contains b) (l:=d.reverse) hn
      simpa using this
     have h3:cZ ((d.reverse.dropWhile (λb=>gH.contains b)).head hn)=true:=by
      refine List.all_eq_true.1 h _ ?_
      rw[List.mem_reverse]
      exact List.head_mem hn
     rw[<-uA]at h3
     exact h2 (by simpa using h3)
 · intro h
   have:(d.reverse.dropWhile (λb=>gH.contains b))=[]:=by rw[hd];simpa using h
   rw[this];rfl
def It (h:body l=[]):Value.bool false=.bool (isInt l):=by simp[isInt,eN,h]
def Iu (h:(200:Int)<(((body l).length:Nat):Int)):Value.bool false=.bool (isInt l):=by
 have:¬(body l).length<=200:=J
 simp[isInt,eN,this]
def Iw (h:¬Lib.trimS (body l) gH=[]):Value.bool false=.bool (isInt l):=by
 rw[wx]at h
 simp[isInt,eN,h]
def Iy (h:l=[48]):Value.bool true=.bool (isInt l):=by subst h;rw[jN]
def MN (h:¬l=[]):0<l.length:=List.length_pos_iff.2 h
def zD {c:UInt8}(hc:(body l)[0]?=some c)(h1:¬body l=[])(h2:¬(200:Int)<(((body l).length:Nat):Int))(h3:Lib.trimS (body l) gH=[])(h4:¬l=[48]):
 Value.bool (!decide (((c.toNat:Nat):Int)=48))=.bool (isInt l):=by
 rw[wx]at h3
 have Ab:(body l).length<=200:=J
 have qr:(body l).isEmpty=false:=by cases hb:body l <;>simp_all
 have qn:(((c.toNat:Nat):Int)=48)↔c=48:=by
  constructor
  · intro h;exact UInt8.toNat_inj.1 (by have:(48:UInt8).toNat=48:=rfl;omega)
  · intro h;subst h;rfl
 have Ad:(body l).head?=some c:=by rw[List.head?_eq_getElem?];exact hc
 congr 1
 simp only[isInt,eN,h3,Ab,qr,Ad,decide_true,Bool.not_false,Bool.true_and,Option.some.injEq,qn,ne_eq]
 by_cases hb:body l=[48]
 · have O:neg l=true:=by
    cases O:neg l with
    |true=>rfl
    |false=>exact absurd ((mJ O).symm.trans hb) h4
   have:c=48:=by rw[hb]at hc;simpa using hc.symm
   simp[hb,O,this]
 · simp[hb]
set_option maxRecDepth 100000 in
theorem iD (l:List UInt8)(w:World):
 CL 157 #[S l] w (aC w λv w'=>v=.bool (isInt l)):=by
 refine aE func157 rfl ?_;refine I ?_;refine cl DC (sS l _) ?_;rintro _ _ qr rfl;have E4:=qr.2;refine I ?_;by_cases h5:(body l)=([]);refine I ?_;refine qO (b:=[]) ?_;refine I ?_;exact ax (t:=2) (v:=.bool false) rfl E4 (by first|exact It bJ|exact Iu bJ|exact Iw bJ|exact Iy bJ|exact zD bJ bJ bJ bJ bJ) rfl;by_cases h6:200<(((body l).length:Nat):Int);refine I ?_;refine qO (b:=[]) ?_;refine I ?_;refine ac (cY (l:=body l) U9 rfl ?_);refine I ?_;exact ax (t:=2) (v:=.bool false) rfl E4 (by first|exact It bJ|exact Iu bJ|exact Iw bJ|exact Iy bJ|exact zD bJ bJ bJ bJ bJ) rfl;refine I ?_;refine qO (b:=[]) ?_;refine I ?_;refine ac (cY (l:=body l) U9 rfl ?_);refine I ?_;refine clb Uc (hc:=MM (body l) _ U) (hk:=?_);rintro _ _ qn rfl;have E4:=xt E4 qn.2;refine I ?_;refine Um (b:=[]) ?_;refine I ?_;by_cases h10:(Lib.trimS (body l) gH)=([]);refine I ?_;by_cases h11:l=([48]);refine I ?_;refine qO (b:=[48]) ?_;refine I ?_
 exact ax (t:=2) (v:=.bool true) rfl E4 (by first|exact It bJ|exact Iu bJ|exact Iw bJ|exact Iy bJ|exact zD bJ bJ bJ bJ bJ) rfl;refine I ?_;refine qO (b:=[48]) ?_;refine I ?_;have O:=dD (l:=body l) (i:=0) (MN bJ);refine ac (fW (l:=body l) (i:=0) (c:=((body l).getD 0 0)) U9 rfl rfl O ?_);refine I ?_;exact ax (t:=2) (v:=.bool (!decide (((((body l).getD 0 0).toNat:Nat):Int)=48))) rfl E4 (by first|exact It bJ|exact Iu bJ|exact Iw bJ|exact Iy bJ|exact zD bJ bJ bJ bJ bJ) rfl;refine I ?_;exact ax (t:=2) (v:=.bool false) rfl E4 (by first|exact It bJ|exact Iu bJ|exact Iw bJ|exact Iy bJ|exact zD bJ bJ bJ bJ bJ) rfl
def zF (a b:List UInt8):e8 (a++b)=e8 b++e8 a:=by simp[e8]
def Cq (gs:List Nat)(a b:List Nat)(v:Nat)(k:Nat)(hk:gs.length=k)(ha:a.length=4*k)(h:b8 10000 gs=b8 10 a)(hv:v=b8 10 b):b8 10000 (gs++[v])=b8 10 (a++b):=by
 rw[cS,cS,h,ha,hk,hv]
 have:(10:Nat)^(4*k)=10000^k:=by rw[Nat.pow_mul]
 rw[this]
 simp[b8]
def pd:∀(l:List UInt8) (acc:Nat),l.all cZ=true->Lib.decFrom acc l=some (acc*10^l.length+b8 10 (e8 l))
 |[],acc,_=>by simp[Lib.decFrom,e8,b8]
 | c::t,acc,h=>by
   simp only[List.all_cons,Bool.and_eq_true]at h
   have h1:=h.1
   simp only[cZ,Bool.and_eq_true,decide_eq_true_eq]at h1
   rw[Lib.decFrom,Lib.digitVal,if_pos h1]
   simp only[]
   rw[pd t _ h.2]
   have e:e8 (c::t)=e8 t++[c.toNat-48]:=by simp[e8]
   rw[e,cS,iZ]
   simp only[b8,List.length_cons,Nat.pow_succ,Option.some.injEq]
   generalize 10^t.length=p
   generalize c.toNat-48=x
   rw[Nat.add_mul,Nat.mul_comm p 10,<-Nat.mul_assoc,Nat.mul_comm x p]
   simp
   omega
def FF (h:l.all cZ=true)(h0:l≠[]):Lib.atoi l=some ((b8 10 (e8 l):Nat):Int):=by
 cases l with
 |nil=>exact absurd Z h0
 | cons c t=>
   have hc:cZ c=true:=by simp at h;exact h.1
   simp only[cZ,Bool.and_eq_true,decide_eq_true_eq]at hc
   have h1:(c==45)=false:=by
    rw[beq_eq_false_iff_ne];intro e;subst e;exact absurd hc.1 dc
   have h2:(c==43)=false:=by
    rw[beq_eq_false_iff_ne];intro e;subst e;exact absurd hc.1 dc
   rw[Lib.atoi,h1,h2]
   simp only[Bool.false_eq_true,if_false]
   rw[Lib.decNat]
   simp only[List.isEmpty_cons,Bool.false_eq_true,if_false]
   rw[pd _ 0 h]
   simp
def Cr (l:List UInt8)(h:l.all cZ=true)(hl:l.length<=4):b8 10 (e8 l)<10000:=by
 have h1:=ji 10 (e8 l) (xT h)
 rw[iZ]at h1
 exact qb0 h1 (qa8 (Nat.pow_le_pow_right U hl) U)
def zG (h:d.all cZ=true)(i j:Nat):((d.take j).drop i).all cZ=true:=by
 rw[List.all_eq_true]at *
 exact λx hx=>h x (List.mem_of_mem_take (List.mem_of_mem_drop hx))
structure GP (d:List UInt8)(m:Nat)(gs:List Nat):Prop where
 le:m<=d.length
 full:0<m->d.length-m=4*gs.length
 val:b8 10000 gs=b8 10 (e8 (d.drop m))
 lt:∀g∈gs,g<10000
 cnt:gs.length<=d.length
def GP.start (d:List UInt8):GP d d.length []:=⟨qa0 _,λ_=>by simp,by simp[e8,b8],by simp,by simp⟩
def GP.step (hd:d.all cZ=true)(h:GP d m gs)(hm:0<m):GP d (m-4) (gs++[b8 10 (e8 ((d.take m).drop (m-4)))]):=by
 have qr:=h.le
 have hf:=h.full hm
 refine⟨by omega,λ_=>by simp;omega,?_,?_,by simp;omega⟩
 · have e:d.drop (m-4)=(d.take m).drop (m-4)++d.drop m:=by
    rw[<-List.drop_append_of_le_length Hx,List.take_append_drop]
   rw[e,zF]
   exact Cq _ _ _ _ _ Z (by rw[iZ,List.length_drop];exact hf) h.val Z
 · intro g O
   rcases List.mem_append.1 O with O|O
   · exact h.lt g O
   · rw[List.mem_singleton.1 O]
     exact Cr _ (zG hd _ _) Hx
def GP.len (h:GP d m gs)(hm:0<m):gs.length<=d.length:=by have:=h.full hm;have:=h.le;omega
def Sg (w:World)(lo:Nat)(ng:Bool)(a:Nat)(v:Value):Prop:=∃A n c,v=.agg #[.bool ng,.slice A n c]/\eM w lo A n c a
def MO (m:Nat):(if(0:Int)<(m:Int)-4 then(m:Int)-4 else 0)=((m-4:Nat):Int):=by split <;>omega
def Cs (l:List UInt8):decide (((body l).length:Int)<((l.length:Nat):Int))=neg l:=by
 cases h:neg l with
 |true=>rw[mI h];simp[body];omega
 |false=>rw[mJ h];simp
def RB (h:0<l.length):l≠[]:=List.length_pos_iff.1 h
def GP.all (h:GP d m gs)(hm:¬0<m):b8 10000 gs=aN d:=by
 have:=h.val
 rw[show m=0 by omega,List.drop_zero]at this
 exact this
set_option maxRecDepth 100000 in
def zH (l:List UInt8)(w:World)(h:isInt l=true):
 CL 181 #[S l] w (aC w λv w'=>Sg w' w.heap.size (neg l) (aN (body l)) v):=by
 have E0:=eF h;have hd:=jM E0;have G3:=jB E0;refine aE func181 Z (I ?_);refine al cC (λ_ F3 O=>?_);have E16:=F3.2;refine I ?_;refine cl DC (sS l _) ?_;rintro _ Ap F4 rfl;have⟨O,E16⟩:=bD F4.2 O E16;refine I ?_;refine ac (cY (l:=body l) U9 Z ?_);refine I ?_;refine ac (cY (l:=l) U9 Z ?_);refine I ?_;rw[Cs];refine ac (aV (vs:=[(0,.bool (neg l))]) (cells:=#[.bool (neg l),.slice none 0 0]) (pl:=[(0,1),(1,1)]) kT cC GS Z GS ?_);refine al cC (λ_ Ek E9=>?_);have⟨O,E16⟩:=bD Ek.2 O E16;refine SA E9 (λF6 F5 qr=>?_);have⟨O,E16,_⟩:=ks F5 O E16;refine I ?_;have EW:World.ownsRow F6 w.heap.size 3 1 (.slice none 0 0) 0 (ints []):=iO;refine JT [(3,3),(5,7),(16,38)] (λF7 e W=>∃m:Nat,∃gs:List Nat,∃qn:Value,(m=F7)/\(e 3=S ((body l).take m))/\(GP (body l) m gs)/\((qn).ownBlock≠some w.heap.size)/\((qn).ownBlock≠some Ap.heap.size)/\(bF w W)/\(au W w.heap.size 152 #[.bool false,.slice none 0 0])/\(au W Ap.heap.size 152 #[.bool (neg l),qn])/\(W.ownsRow w.heap.size 3 1 qn gs.length (ints gs))) ((body l).length) ⟨(body l).length,[],.slice none 0 0,rfl,(qb1 S (by rw[List.take_length])),(GP.start _),(by simp[Value.ownBlock]),(by simp[Value.ownBlock]),E16,O,qr,EW⟩ ?_
 rintro _ _ _ ⟨m,gs,qn,rfl,p31,q1,n26,n27,E32,O,qr,ho⟩;have G4:=bz E32;have F8:=q1.le;by_cases hm:0<m;have K2:=q1.len hm;have F8:=q1.le;refine I ?_;refine ac (gO (l:=(body l).take m) (m:=m) U9 Z Hx ?_);refine I ?_;refine ac (gO (l:=(body l).take m) (m:=m) U9 Z Hx ?_);refine vJ ?_;refine ac (OG (a:=0) (b:=(m:Int)-4) (m:=((m-4:Nat):Int)) Z Z (MO m) ?_);refine I ?_;refine ac (iU (l:=(body l).take m) (i:=(m-4)) (j:=((body l).take m).length) U9 Z (.inr ⟨_,congrArg some Z⟩) (.inl ⟨rfl,rfl⟩) Hx RW ?_);rw[show(((body l).take m).take (((body l).take m).length)).drop (m-4)=((body l).take m).drop (m-4)by rw[List.take_length]];refine clb Ud (hc:=ML _ _ _ Hx (FF (zG hd _ _) (RB Hx))) (hk:=?_);rintro _ _ Af rfl;have⟨O,qr⟩:=jk Af.2 O qr;have ho:=aX Af.2 ho;have E32:=xt E32 Af.2;refine I ?_;refine BS (λ_ Aq _ EE=>?_);have⟨O,qr⟩:=jk Aq O qr;have ho:=aX Aq ho;have E32:=xt E32 Aq;refine AP ho (aa4 EE) (λE1 _ Ab Ar E4=>?_);have n46:=fo E4 n26 (bt O);have n47:=fo E4 n27 (bt qr);have O:=aa0 Ar (λe=>n26 e.symm) O;have qr:=aa0 Ar (λe=>n27 e.symm) qr;have E32:=dQ ho U U E32 Ar;refine I ?_
 refine ac (eG (b:=Ap.heap.size) (o:=1) (v:=E1) mg Z Z (Ml Ab) qr (qa3 Z) (λ_ Aw F1=>?_));have O:=pb Aw O;have Ab:=g9 Aw n47 Ab;have E32:=bB Aw E32;refine I ?_;refine ac (iU (l:=(body l).take m) (i:=0) (j:=(m-4)) U9 Z (.inl ⟨rfl,rfl⟩) (.inr ⟨_,qb1 some Z⟩) U Hx ?_);rw[show(((body l).take m).take (m-4)).drop 0=((body l).take m).take (m-4)from rfl];refine I ?_;exact c6 ⟨m-4,gs++[b8 10 (e8 (((body l).take m).drop (m-4)))],E1,rfl,(qb1 S (by rw[List.take_take];congr 1;omega)),(GP.step hd q1 hm),n46,n47,E32,O,F1,(dT Ab RW (by rw[mE];rfl))⟩;obtain⟨Av,Ax,rfl,EP,-⟩:=eT ho;have Ix:=q1.cnt;refine I ?_;refine ac (gO (l:=(body l).take m) (m:=m) U9 Z Hx ?_);refine I ?_;refine clb rK (hc:=gg (aa4 ho) Z EP U) (hk:=?_);rintro _ _ Ao ⟨Am,rfl,E7,Jx⟩;have⟨O,qr⟩:=jk Ao.2 O qr;have ho:=aX Ao.2 ho;have E32:=xt E32 Ao.2;refine I ?_;refine SO qr (λ_ Ad Ay=>?_);have O:=pb Ad O;have ho:=g9 Ad n27 ho;have E32:=bB Ad E32;refine I ?_;refine SA O (λ_ As F2=>?_);have Ay:=pb As Ay;have ho:=g9 As n26 ho;have E32:=bB As E32;refine I ?_
 refine aI (v:=.agg #[.bool (neg l),.slice Av Am Ax]) (cF  rfl ?_) E32 ⟨Av,Am,Ax,rfl,zz (aa4 ho) q1.lt (q1.all hm) E7 U U⟩;refine ag (t:=2) (cs:=[.bool (neg l),.slice Av Am Ax]) (b:=w.heap.size) (o:=0) kT Z mh ?_ ?_;exact Z;exact aa1 F2 (i:=0) Z
set_option maxRecDepth 100000
def gi {p:Prop}(h:p:=by assumption):p:=h
def cK (ng:Bool)(a:Nat):Int:=if ng then -(a:Int)else(a:Int)
def D9 {b:Nat}(h:(0:Int)<=aG (a:Int) (b:Int)):b<=a:=by
 rcases Nat.lt_or_ge a b with h1|h1
 · rw[dE U]at h;omega
 · exact h1
def zI {b:Nat}(h:¬(0:Int)<=aG (a:Int) (b:Int)):a<=b:=by
 rcases Nat.lt_or_ge a b with h1|h1
 · omega
 · rcases Nat.eq_or_lt_of_le h1 with h2|h2
   · omega
   · rw[dk U]at h;omega
def gy {b:Nat}(h:(nx==ny)=true):cK nx (a+b)=cK nx a+cK ny b:=by
 have:nx=ny:=by simpa using h
 subst this
 unfold cK;split <;>omega
def iE {b:Nat}(h:(nx==ny)=false)(hle:b<=a):cK nx (a-b)=cK nx a+cK ny b:=by
 cases nx <;>cases ny <;>simp_all [cK] <;>omega
def iF {b:Nat}(h:(nx==ny)=false)(hle:a<=b):cK ny (b-a)=cK nx a+cK ny b:=by
 cases nx <;>cases ny <;>simp_all [cK] <;>omega
def zJ (h1:eM w lo1 A1 n1 c1 a)(s1:n1<=9000){n2 c2 b lo2:Nat}(h2:eM w lo2 A2 n2 c2 b)(s2:n2<=9000):
 CL 147 #[.agg #[.bool nx,.slice A1 n1 c1],.agg #[.bool ny,.slice A2 n2 c2]] w (aC w λv w'=>∃ng r A n c,v=.agg #[.bool ng,.slice A n c]/\eM w' w.heap.size A n c r/\cK ng r=cK nx a+cK ny b):=by
 refine aE func147 Z (I ?_);refine bx (λ_ Ay qn=>?_);have h1:=aa3 Ay.2 h1;have h2:=aa3 Ay.2 h2;have E63:=Ay.2;refine bx (λAq Aw Ab=>?_);have h1:=aa3 Aw.2 h1;have h2:=aa3 Aw.2 h2;have⟨qn,E63⟩:=bD Aw.2 qn E63;refine al cC (λF1 As Ad=>?_);have h1:=aa3 As.2 h1;have h2:=aa3 As.2 h2;have⟨qn,Ab,E63⟩:=bC As.2 qn Ab E63;refine I ?_;refine ac (G0 (a:=nx) (b:=ny) (q:=(nx==ny)) U4 Z Z Z ?_);refine I ?_;rcases qa4 (nx==ny)with h70|h70;refine I ?_;obtain⟨L,hL⟩:∃L,L=F1.heap.size:=⟨_,rfl⟩;refine bY 7 ?_;refine sf ?_;refine eU (λv w=>eH L (a+b) v w) (hs:=λ_ _ _ k h=>h.ext k) (λ_ _ hR97 _=>?_) ?_;have h1:=aa3 hR97 h1;have h2:=aa3 hR97 h2;refine clb ze (hc:=o6 h1 U h2 U) (hk:=?_);rintro _ _ F2 ⟨Ar,qr,O,rfl,hr⟩;have EE:=F2.2;have hr:=hr.mono (lo':=L) (by have:=bz hR97;omega);refine I ?_;exact fs ⟨EE,⟨Ar,qr,O,rfl,hr⟩⟩;refine sf ?_;intro _ _ G3 G4;have⟨qn,Ab,Ad,E63⟩:=bW G3.2 qn Ab Ad E63;obtain⟨Ar,qr,O,EP,hr⟩:=(G4 6 17 Z Z);refine ac (aV (vs:=[(0,.bool nx),(1,.slice Ar qr O)]) (cells:=#[.bool nx,.slice Ar qr O]) (pl:=[(0,1),(1,1)]) kT cC GS (aK Z (aK EP Z)) GS ?_)
 refine SA Ad (λ_ Am F3=>?_);have⟨qn,Ab⟩:=eR Am qn Ab;have hr:=ab3 Am U hr;have E63:=bB Am E63;refine I ?_;refine aI (v:=.agg #[.bool nx,.slice Ar qr O]) (cF  rfl ?_) E63 ⟨_,_,_,_,_,rfl,hr.mono U,by first|exact gy gi|exact iE gi Af|exact iF gi Af⟩;refine ag (t:=4) (cs:=[.bool nx,.slice Ar qr O]) (b:=Aq.heap.size) (o:=0) kT Z mh ?_ ?_;exact Z;exact aa1 F3 (i:=0) Z;refine I ?_;refine clb zf (hc:=jL h1 U h2) (hk:=?_);rintro _ E4 E1 rfl;have h1:=aa3 E1.2 h1;have h2:=aa3 E1.2 h2;have⟨qn,Ab,Ad,E63⟩:=bW E1.2 qn Ab Ad E63;refine I ?_;by_cases wr:0<=(aG (a:Int) (b:Int));refine I ?_;obtain⟨L,hL⟩:∃L,L=E4.heap.size:=⟨_,rfl⟩;have Af:=D9 gi;have Ao:n2<=n1:=by rw[<-h1.len,<-h2.len];exact eV U Af
 refine bY 7 ?_;refine sf ?_;refine eU (λv w=>eH L (a-b) v w) (hs:=λ_ _ _ k h=>h.ext k) (λ_ _ Ap _=>?_) ?_;have h1:=aa3 Ap h1;have h2:=aa3 Ap h2;refine clb Dw (hc:=o7 h1 U h2 U Af Ao) (hk:=?_);rintro _ _ E9 ⟨Ar,qr,O,rfl,hr⟩;have F4:=E9.2;have hr:=hr.mono (lo':=L) (by have:=bz Ap;omega);refine I ?_;exact fs ⟨F4,⟨Ar,qr,O,rfl,hr⟩⟩;refine sf ?_;intro _ _ F8 EW;have⟨qn,Ab,Ad,E63⟩:=bW F8.2 qn Ab Ad E63;obtain⟨Ar,qr,O,K2,hr⟩:=(EW 6 32 Z Z);refine ac (aV (vs:=[(0,.bool nx),(1,.slice Ar qr O)]) (cells:=#[.bool nx,.slice Ar qr O]) (pl:=[(0,1),(1,1)]) kT cC GS (aK Z (aK K2 Z)) GS ?_);refine SA Ad (λ_ Ax E7=>?_);have⟨qn,Ab⟩:=eR Ax qn Ab;have hr:=ab3 Ax U hr;have E63:=bB Ax E63;refine I ?_;refine aI (v:=.agg #[.bool nx,.slice Ar qr O]) (cF  rfl ?_) E63 ⟨_,_,_,_,_,rfl,hr.mono U,by first|exact gy gi|exact iE gi Af|exact iF gi Af⟩;refine ag (t:=4) (cs:=[.bool nx,.slice Ar qr O]) (b:=Aq.heap.size) (o:=0) kT Z mh ?_ ?_;exact Z;exact aa1 E7 (i:=0) Z;refine I ?_;obtain⟨L,hL⟩:∃L,L=E4.heap.size:=⟨_,rfl⟩;have Af:=zI gi;have Ao:n1<=n2:=by rw[<-h1.len,<-h2.len];exact eV U Af
 refine bY 7 ?_;refine sf ?_;refine eU (λv w=>eH L (b-a) v w) (hs:=λ_ _ _ k h=>h.ext k) (λ_ _ E0 _=>?_) ?_;have h1:=aa3 E0 h1;have h2:=aa3 E0 h2;refine clb Dw (hc:=o7 h2 U h1 U Af Ao) (hk:=?_);rintro _ _ F6 ⟨Ar,qr,O,rfl,hr⟩;have Jx:=F6.2;have hr:=hr.mono (lo':=L) (by have:=bz E0;omega);refine I ?_;exact fs ⟨Jx,⟨Ar,qr,O,rfl,hr⟩⟩;refine sf ?_;intro _ _ F7 Ix;have⟨qn,Ab,Ad,E63⟩:=bW F7.2 qn Ab Ad E63;obtain⟨Ar,qr,O,Ek,hr⟩:=(Ix 6 40 Z Z);refine ac (aV (vs:=[(0,.bool ny),(1,.slice Ar qr O)]) (cells:=#[.bool ny,.slice Ar qr O]) (pl:=[(0,1),(1,1)]) kT cC GS (aK Z (aK Ek Z)) GS ?_);refine SA Ad (λ_ Av F5=>?_);have⟨qn,Ab⟩:=eR Av qn Ab;have hr:=ab3 Av U hr;have E63:=bB Av E63;refine I ?_;refine aI (v:=.agg #[.bool ny,.slice Ar qr O]) (cF  rfl ?_) E63 ⟨_,_,_,_,_,rfl,hr.mono U,by first|exact gy gi|exact iE gi Af|exact iF gi Af⟩;refine ag (t:=4) (cs:=[.bool ny,.slice Ar qr O]) (b:=Aq.heap.size) (o:=0) kT Z mh ?_ ?_;exact Z;exact aa1 F5 (i:=0) Z
def lL (a b:List UInt8)(w:World)(ha:isInt a=true)(hb:isInt b=true):
 CL 146 #[S a,S b] w (aC w λv w'=>∃A1 n1 c1 A2 n2 c2,v=.tuple #[.agg #[.bool (neg a),.slice A1 n1 c1],.agg #[.bool (neg b),.slice A2 n2 c2],.bool true]/\eM w' w.heap.size A1 n1 c1 (aN (body a))/\eM w' w.heap.size A2 n2 c2 (aN (body b))):=by
 refine aE func146 Z (I ?_);refine al cC (λAp Av qn=>?_);have O:=Av.2;refine al cC (λ_ Aq qr=>?_);have⟨qn,O⟩:=bD Aq.2 qn O;refine I ?_;refine cl wg (iD a _) ?_;rintro _ _ Aw rfl;have⟨qn,qr,O⟩:=bC Aw.2 qn qr O;refine I ?_;refine cl wg (iD b _) ?_;rintro _ _ Ao rfl;have⟨qn,qr,O⟩:=bC Ao.2 qn qr O;refine I ?_;refine cl OO (zH _ _ ha) ?_;rintro _ _ Ar ⟨A1,n1,c1,rfl,h1⟩;have⟨qn,qr,O⟩:=bC Ar.2 qn qr O;refine I ?_;refine cl OO (zH _ _ hb) ?_;rintro _ _ Am ⟨A2,n2,c2,rfl,h2⟩;have⟨qn,qr⟩:=jk Am.2 qn qr;have h1:=aa3 Am.2 h1;have O:=xt O Am.2;refine SA qn (λ_ Ab Af=>?_);have qr:=pb Ab qr;have h1:=ab3 Ab U h1;have h2:=ab3 Ab U h2;have O:=bB Ab O;refine SA qr (λ_ Ad As=>?_);have Af:=pb Ad Af;have h1:=ab3 Ad U h1;have h2:=ab3 Ad U h2;have O:=bB Ad O;refine I ?_;refine aI (v:=.tuple #[.agg #[.bool (neg a),.slice A1 n1 c1],.agg #[.bool (neg b),.slice A2 n2 c2],.bool true]) (L8 (r1:=.cell 4 152) (r2:=.cell 5 152) (r3:=.tmp 6) Z ?_ ?_ ?_) O ⟨_,_,_,_,_,_,rfl,h1.mono U,h2.mono U⟩;refine ag (t:=4) (cs:=[.bool (neg a),.slice A1 n1 c1]) (b:=w.heap.size) (o:=0) kT Z mh ?_ ?_;exact Z;exact aa1 Af (i:=0) Z;refine ag (t:=5) (cs:=[.bool (neg b),.slice A2 n2 c2]) (b:=Ap.heap.size) (o:=0) kT Z mh ?_ ?_;exact Z
 exact aa1 As (i:=0) Z;exact aD (t:=6) Rd _
def m7 (a b:List UInt8)(w:World)(hno:(isInt a&&isInt b)=false):
 CL 146 #[S a,S b] w (aC w λv w'=>v=.tuple #[.agg #[.bool false,.slice none 0 0],.agg #[.bool false,.slice none 0 0],.bool false]):=by
 refine aE func146 Z (I ?_);refine al cC (λAo Av qn=>?_);have O:=Av.2;refine al cC (λ_ Aw qr=>?_);have⟨qn,O⟩:=bD Aw.2 qn O;refine I ?_;rcases qa4 (isInt a)with cw|cw;refine I ?_;refine cl wg (iD a _) ?_;rintro _ _ E0 rfl;have⟨qn,qr,O⟩:=bC E0.2 qn qr O;refine I ?_;refine cl wg (iD b _) ?_;rintro _ _ As rfl;have⟨qn,qr,O⟩:=bC As.2 qn qr O;refine I ?_;rcases qa4 (isInt b)with np|np;exact absurd hno (by simp[*]);refine I ?_;refine SA qn (λ_ Af Ad=>?_);have qr:=pb Af qr;have O:=bB Af O;refine SA qr (λ_ Am Ax=>?_);have Ad:=pb Am Ad;have O:=bB Am O;refine I ?_;refine aI (v:=.tuple #[.agg #[.bool false,.slice none 0 0],.agg #[.bool false,.slice none 0 0],.bool false]) (L8 (r1:=.cell 4 152) (r2:=.cell 5 152) (r3:=.tmp 6) Z ?_ ?_ ?_) O Z;refine ag (t:=4) (cs:=[.bool false,.slice none 0 0]) (b:=w.heap.size) (o:=0) kT Z mh ?_ ?_;exact Z;exact aa1 Ad (i:=0) Z;refine ag (t:=5) (cs:=[.bool false,.slice none 0 0]) (b:=Ao.heap.size) (o:=0) kT Z mh ?_ ?_;exact Z;exact aa1 Ax (i:=0) Z
 exact aD (t:=6) Rd _;refine I ?_;refine cl wg (iD a _) ?_;rintro _ _ Ay rfl;have⟨qn,qr,O⟩:=bC Ay.2 qn qr O;refine I ?_;refine SA qn (λ_ Ap Ab=>?_);have qr:=pb Ap qr;have O:=bB Ap O;refine SA qr (λ_ Aq Ar=>?_);have Ab:=pb Aq Ab;have O:=bB Aq O;refine I ?_;refine aI (v:=.tuple #[.agg #[.bool false,.slice none 0 0],.agg #[.bool false,.slice none 0 0],.bool false]) (L8 (r1:=.cell 4 152) (r2:=.cell 5 152) (r3:=.tmp 6) Z ?_ ?_ ?_) O Z;refine ag (t:=4) (cs:=[.bool false,.slice none 0 0]) (b:=w.heap.size) (o:=0) kT Z mh ?_ ?_;exact Z;exact aa1 Ab (i:=0) Z;refine ag (t:=5) (cs:=[.bool false,.slice none 0 0]) (b:=Ao.heap.size) (o:=0) kT Z mh ?_ ?_;exact Z;exact aa1 Ar (i:=0) Z;exact aD (t:=6) Rd _
def iG (l:List UInt8)(w:World):
 CL 115 #[S l] w (aC w λv w'=>v=.bool (isInt l)):=by
 refine aE func115 Z (I ?_);refine cl wg (iD l _) ?_;rintro _ _ O rfl;have qr:=O.2;refine I ?_;exact ax (t:=2) (v:=.bool (isInt l)) Z qr Z Z
end
end Go.Proofs.YthpinljhfnodeaaGreatDoor
