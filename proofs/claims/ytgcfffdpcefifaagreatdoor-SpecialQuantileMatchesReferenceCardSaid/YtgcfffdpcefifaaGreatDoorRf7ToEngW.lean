/- Part of the proof of a statement about special functions. -/
import Derived.Test.YtgcfffdpcefifaaGreatDoorRf0ToRf6
import Derived.Test.YtgcfffdpcefifaaGreatDoorSp15ToCardR
import Derived.DeepKeys
set_option linter.all false
namespace Go.Proofs.YtgcfffdpcefifaaGreatDoor
open Go Go.Eng Go.RowKit Proofs.Tryz
variable {u:Bool}{s d c n0 d0 m0 c0 la lb ha hb pl m N o:Int}{x y l1 m1 l2 m2 l3 m3 l4 m4:List UInt8}{a b:Nat}{w:World}
attribute [local irreducible] wpListIn Code.wpIn Oper.wpIn Exit.then Exit.inBlock Exit.noGoto
set_option maxHeartbeats 40000000
section
variable {n:Int}
def Kh (hd:0<d)(hc:0<c)(h:n/d≠m/c):aw (n*c) (m*d)=aw (n/d) (m/c):=by
 have h1:=Int.mul_ediv_add_emod n d;have H:=Int.mul_ediv_add_emod m c
 have W:=Int.emod_nonneg n (show d≠0 by omega);have O:=Int.emod_lt_of_pos n hd
 have D:=Int.emod_nonneg m (show c≠0 by omega);have kd:=Int.emod_lt_of_pos m hc
 generalize n/d=q at *;generalize m/c=p at *;generalize n%d=r at *;generalize m%c=s at *
 subst h1 H
 have E:(d*q+r)*c=d*c*q+r*c:=by grind
 have kk:(c*p+s)*d=d*c*p+s*d:=by grind
 have b1:r*c<d*c:=Int.mul_lt_mul_of_pos_right O hc
 have b2:0<=r*c:=Int.mul_nonneg W U
 have b3:s*d<c*d:=Int.mul_lt_mul_of_pos_right kd hd
 have b4:0<=s*d:=Int.mul_nonneg D U
 have b5:c*d=d*c:=Int.mul_comm _ _
 have g:0<d*c:=Int.mul_pos hd hc
 rw[E,kk]
 rcases Int.lt_or_lt_of_ne h with h7|h7
 · have G:d*c*q+d*c<=d*c*p:=by
    have:=Int.mul_le_mul_of_nonneg_left (show q+1<=p by omega) (show 0<=d*c by omega)
    rw[Int.mul_add,Int.mul_one]at this;exact this
   rw[bZ U,bZ h7]
 · have G:d*c*p+d*c<=d*c*q:=by
    have:=Int.mul_le_mul_of_nonneg_left (show p+1<=q by omega) (show 0<=d*c by omega)
    rw[Int.mul_add,Int.mul_one]at this;exact this
   rw[bM U,bM h7]
def BH (hd:0<d)(hc:0<c)(h:n/d=m/c):aw (n*c) (m*d)=aw ((n%d)*c) ((m%c)*d):=by
 have h1:=Int.mul_ediv_add_emod n d;have G:=Int.mul_ediv_add_emod m c
 have E:n*c=d*c*(m/c)+(n%d)*c:=by rw[<-h];grind
 have D:m*d=d*c*(m/c)+(m%c)*d:=by grind
 rw[E,D]
 generalize d*c*(m/c)=k;generalize (n%d)*c=x;generalize (m%c)*d=y
 rcases Int.lt_trichotomy x y with h|h|h
 · rw[bZ U,bZ h]
 · rw[dW U,dW h]
 · rw[bM U,bM h]
end
def r5 (z:Int):Int:=if z=0 then 0 else 1
def r6 {z:Int}:po (aa z)=aa (r5 z):=by
 unfold po r5
 by_cases h:z=0
 · subst h;decide +kernel
 · rw[if_neg (λe=>h (bS.1 e)),if_neg h];decide +kernel
def wU (z:Int):Fz (r5 z):=by unfold r5 Fz;split <;>decide
def Ki {r:Int}(hd:0<d)(hc:0<c)(hr:0<=r)(hs:0<=s)(h:r=0\/s=0):aw (r*c) (s*d)=aw (r5 r) (r5 s):=by
 unfold r5
 rcases h with rfl|rfl
 · by_cases h1:s=0
   · subst h1;simp
   · have:=Int.mul_pos (show 0<s by omega) hd
     rw[if_pos Z,if_neg h1,bZ U,bZ dc]
 · by_cases h1:r=0
   · subst h1;simp
   · have:=Int.mul_pos (show 0<r by omega) hc
     rw[if_pos Z,if_neg h1,bM U,bM dc]
def LO {r:Int}:aw (r*c) (s*d)=-aw (d*s) (c*r):=by
 rw[Int.mul_comm s d,Int.mul_comm r c]
 rcases Int.lt_trichotomy (c*r) (d*s)with h|h|h
 · rw[bZ h,bM h]
 · rw[dW h,dW h.symm];rfl
 · rw[bM h,bZ h];rfl
def D3 {a b:Int}(h:¬aw a b=0):a≠b:=λe=>h (dW e)
def H0 {a b:Int}(h:aw a b=0):a=b:=by
 rcases Int.lt_trichotomy a b with h1|h1|h1
 · rw[bZ h1]at h;cases h
 · exact h1
 · rw[bM h1]at h;cases h
def BI {g a b:Int}(h:g=1\/g=-1):In64 (g*aw a b):=by
 have hb:aw a b=-1\/aw a b=0\/aw a b=1:=by
  rcases Int.lt_trichotomy a b with h1|h1|h1
  · exact Or.inl (bZ h1)
  · exact Or.inr (Or.inl (dW h1))
  · exact Or.inr (Or.inr (bM h1))
 unfold In64
 rcases h with rfl|rfl <;>rcases hb with h|h|h <;>rw[h] <;>decide
def wV {a b:Int}(hb:0<b)(h:Fz b):Fz (a%b):=by
 have h1:=Int.emod_nonneg a (show b≠0 by omega);have D:=Int.emod_lt_of_pos a hb
 unfold Fz at *;omega
set_option maxRecDepth 100000 in
theorem H1 (o1:ew (aa n0,aa d0)=true)(o2:ew (aa m0,aa c0)=true)(f1:Fz n0)(f2:Fz d0)(f3:Fz m0)(f4:Fz c0)(p1:0<d0)(p2:0<c0):
 CL 67 #[.agg #[S (aa n0),S (aa d0)],.agg #[S (aa m0),S (aa c0)]] w (aH w λv w'=>v=.int .i64 (aw (n0*c0) (m0*d0))):=by
 refine aC func67 rfl ?_;refine I ?_;refine bx (λAs Ar E=>?_);have H:=Ar.2;refine bx (λ_ ny G=>?_);have⟨E,H⟩:=bn ny.2 E H;refine I ?_;refine cl FI (cB (kS _ _ _ (cI f1) (cI f2)) o1) ?_;rintro _ _ Ap rfl;have⟨E,G,H⟩:=aP Ap.2 E G H;refine I ?_;refine cl FI (cB (kS _ _ _ (cI f3) (cI f4)) o2) ?_;rintro _ _ Aw rfl;have⟨E,G,H⟩:=aP Aw.2 E G H;refine I ?_;refine cM [(4,4),(7,18),(37,77)] (λAq e W=>∃g:Int,∃n:Int,∃d:Int,∃m:Int,∃c:Int,(d.toNat=Aq)/\(e 7=.int .i64 g)/\(e 8=S (aa n))/\(e 9=S (aa d))/\(e 10=S (aa m))/\(e 11=S (aa c))/\(g=1\/g=-1)/\(0<d)/\(0<c)/\(Fz n)/\(Fz d)/\(Fz m)/\(Fz c)/\(g*aw (n*c) (m*d)=aw (n0*c0) (m0*d0))/\(a8 w W)/\(ae W (w.heap.size) 23 #[S (aa n0),S (aa d0)])/\(ae W (As.heap.size) 23 #[S (aa m0),S (aa c0)])) ((d0).toNat) ⟨1,n0,d0,m0,c0,rfl,rfl,rfl,rfl,rfl,rfl,(Or.inl rfl),p1,p2,f1,f2,f3,f4,(Int.one_mul _),H,E,G⟩ ?_;rintro _ _ _ ⟨g,n,d,m,c,rfl,EW,E7,od,Jx,Ix,A1,hd,hc,fn,fd,kd,kk,hR,D,E,G⟩;have K2:=bz D;have Ad:=Int.emod_nonneg n (show d≠0 by omega);have E9:=Int.emod_lt_of_pos n hd;have Ab:=Int.emod_nonneg m (show c≠0 by omega);have E4:=Int.emod_lt_of_pos m hc;have fr:Fz (n%d):=wV hd fd;have fs:Fz (m%c):=wV hc kk;refine I ?_
 refine clb sv (hc:=gT (Y:=.tuple #[S (aa (n/d)),S (aa (n%d)),.int .i64 0]) (gk _ _ _ (cI fn) (cI fd)) (qb1 lF (jV fn fd U (eU fn hd)))) (hk:=?_);rintro _ _ B2 rfl;have⟨E,G,D⟩:=aP B2.2 E G D;refine I ?_;refine clb sv (hc:=gT (Y:=.tuple #[S (aa (m/c)),S (aa (m%c)),.int .i64 0]) (gk _ _ _ (cI kd) (cI kk)) (qb1 lF (jV kd kk U (eU kd hc)))) (hk:=?_);rintro _ _ Ax rfl;have⟨E,G,D⟩:=aP Ax.2 E G D;refine I ?_;refine cl jE (gU (eU fn hd) (eU kd hc)) ?_;rintro _ _ Ao rfl;have⟨E,G,D⟩:=aP Ao.2 E G D;refine I ?_;by_cases fx:(aw (n/d) (m/c))=0;have O:=H0 fx;refine I ?_;by_cases cv:(aa (n%d))=([48]);have Am:n%d=0:=bS.1 cv;have A2:n%d=0\/m%c=0:=Or.inl Am;refine I ?_;refine k0 (b:=[48]) ?_;refine I ?_;refine cl B3 (gT (ko _ _) (qb1 S (r6 (z:=n%d)))) ?_;rintro _ _ E1 rfl;have D:=xt D E1.2;refine I ?_;refine cl B3 (gT (ko _ _) (qb1 S (r6 (z:=m%c)))) ?_;rintro _ _ Ay rfl;have D:=xt D Ay.2;refine cl jE (gU (wU _) (wU _)) ?_;rintro _ _ B1 rfl;have D:=xt D B1.2;refine ab (jp (a:=g) (b:=aw (r5 (n%d)) (r5 (m%c))) (c:=g*(aw (r5 (n%d)) (r5 (m%c)))) rfl rfl (BI A1) rfl ?_);refine I ?_
 exact an (t:=4) (v:=.int .i64 (g*(aw (r5 (n%d)) (r5 (m%c))))) rfl D (qb1 (Value.int .i64) (by rw[<-hR,BH hd hc O,Ki hd hc Ad Ab A2])) rfl;have Am:¬n%d=0:=λe=>cv (bS.2 e);refine I ?_;refine k0 (b:=[48]) ?_;refine I ?_;refine k0 (b:=[48]) ?_;refine I ?_;by_cases fy:(aa (m%c))=([48]);have Af:m%c=0:=bS.1 fy;have A2:n%d=0\/m%c=0:=Or.inr Af;refine I ?_;refine cl B3 (gT (ko _ _) (qb1 S (r6 (z:=n%d)))) ?_;rintro _ _ D2 rfl;have D:=xt D D2.2;refine I ?_;refine cl B3 (gT (ko _ _) (qb1 S (r6 (z:=m%c)))) ?_;rintro _ _ Av rfl;have D:=xt D Av.2;refine cl jE (gU (wU _) (wU _)) ?_;rintro _ _ D1 rfl;have D:=xt D D1.2;refine ab (jp (a:=g) (b:=aw (r5 (n%d)) (r5 (m%c))) (c:=g*(aw (r5 (n%d)) (r5 (m%c)))) rfl rfl (BI A1) rfl ?_);refine I ?_;exact an (t:=4) (v:=.int .i64 (g*(aw (r5 (n%d)) (r5 (m%c))))) rfl D (qb1 (Value.int .i64) (by rw[<-hR,BH hd hc O,Ki hd hc Ad Ab A2])) rfl;have Af:¬m%c=0:=λe=>fy (bS.2 e);refine I ?_;refine ab (sr (a:=g) rfl (by unfold In64;omega) ?_);refine I ?_;exact bQ ⟨-g,d,n%d,c,m%c,rfl,rfl,rfl,rfl,rfl,rfl,U,U,U,fd,fr,kk,fs,(by rw[<-hR,BH hd hc O,LO (r:=n%d) (s:=m%c) (d:=d) (c:=c),Int.neg_mul,Int.mul_neg]),D,E,G⟩
 have O:=D3 fx;refine I ?_;refine ab (jp (a:=g) (b:=aw (n/d) (m/c)) (c:=g*(aw (n/d) (m/c))) rfl rfl (BI A1) rfl ?_);refine I ?_;exact an (t:=4) (v:=.int .i64 (g*(aw (n/d) (m/c)))) rfl D (qb1 (Value.int .i64) (by rw[<-hR,Kh hd hc O])) rfl
set_option maxRecDepth 100000
def aV {p:Prop}(h:p:=by assumption):p:=h
def nw (x:R):Bool:=ew x&&(decide ((((body x.1).length:Nat):Int)<=12)&&decide (((x.2.length:Nat):Int)<=12))
section
def kZ (h:nw (x,y)=true):ew (x,y)=true:=by simp only[nw,Bool.and_eq_true]at h;exact h.1
def D5 (h:0<x.length)(h2:(((x.getD 0 0).toNat:Nat):Int)=45):(((body x).length:Nat):Int)=((x.length:Nat):Int)-1:=by
 cases x with
 |nil=>simp at h
 | cons c l=>
   have:c=45:=by apply UInt8.toNat_inj.1;have D:((c.toNat:Nat):Int)=45:=h2;have:(45:UInt8).toNat=45:=rfl;omega
   subst this
   show((l.length:Nat):Int)=_
   rw[List.length_cons];omega
def D6 (h2:¬(((x.getD 0 0).toNat:Nat):Int)=45):body x=x:=by
 refine lw λh=>h2 ?_
 cases x with
 |nil=>cases h
 |cons c l=>cases h;rfl
def D7 (h:¬0<((x.length:Nat):Int)):body x=x:=by
 cases x with
 |nil=>rfl
 |cons c l=>exact absurd (by rw[List.length_cons];omega) h
end
section
variable {b:Value}{L:Int}
def tZ (h:ew (x,y)=true)(e:(((body x).length:Nat):Int)=L)(hl:L<=12):Value.tuple #[.bool (decide ((((y).length:Nat):Int)<=12)),b]=.tuple #[.bool (nw (x,y)),b]:=by
 unfold nw;rw[h,decide_eq_true (show(((body (x,y).1).length:Nat):Int)<=12 by show(((body x).length:Nat):Int)<=12;omega)];rfl
def ua (h:ew (x,y)=true)(e:(((body x).length:Nat):Int)=L)(hl:¬L<=12):Value.tuple #[.bool false,b]=.tuple #[.bool (nw (x,y)),b]:=by
 unfold nw;rw[h,decide_eq_false (show¬(((body (x,y).1).length:Nat):Int)<=12 by show¬(((body x).length:Nat):Int)<=12;omega)];rfl
def ub (h:ew (x,y)=false):Value.tuple #[.bool false,b]=.tuple #[.bool (nw (x,y)),b]:=by unfold nw;rw[h];rfl
end
def iX (ht:Tb w):
 CL 55 #[.agg #[S x,S y]] w (aH w λv w'=>v=.bool (nw (x,y))):=by
 refine aC func55 Z (I ?_);refine bx (λ_ W E=>?_);have D:=W.2;refine I ?_;rcases qa4 (ew (x,y))with cf|cf;by_cases cv:(((body x).length:Nat):Int)<=12;refine I ?_;refine cl pH (dN _ _ _ (ht.ext D)) ?_;rintro _ _ kk rfl;have⟨E,D⟩:=bn kk.2 E D;refine I ?_;refine cl sA (lx _ _) ?_;rintro _ _ O rfl;have⟨E,D⟩:=bn O.2 E D;refine I ?_;refine ab (bF (l:=body x) U9 Z ?_);refine I ?_;refine ab (bF (l:=y) U9 Z ?_);refine I ?_;exact an (t:=2) (v:=.bool (decide ((((y).length:Nat):Int)<=12))) Z D (by unfold nw;simp[*]) Z;refine I ?_;refine cl pH (dN _ _ _ (ht.ext D)) ?_;rintro _ _ H rfl;have⟨E,D⟩:=bn H.2 E D;refine I ?_;refine cl sA (lx _ _) ?_;rintro _ _ kd rfl;have D:=xt D kd.2;refine I ?_;refine ab (bF (l:=body x) U9 Z ?_);refine I ?_;exact an (t:=2) (v:=.bool false) Z D (by unfold nw;simp[*]) Z;refine I ?_;refine cl pH (dN _ _ _ (ht.ext D)) ?_;rintro _ _ G rfl;have D:=xt D G.2;refine I ?_;exact an (t:=2) (v:=.bool false) Z D (by unfold nw;simp[*]) Z
def vm (s1:x.length<=1000000)(s2:y.length<=1000000):
 CL 66 #[.agg #[S x,S y]] w (aH w λv w'=>∃nb:Bool,v=.tuple #[.bool (nw (x,y)),.bool nb]):=by
 refine aC func66 Z (I ?_);refine bx (λ_ kk G=>?_);have D:=kk.2;refine I ?_;refine cl FI (kS _ _ _ s1 s2) ?_;rintro _ _ O rfl;have⟨G,D⟩:=bn O.2 G D;refine I ?_;refine ab (bF (l:=x) U9 Z ?_);refine I ?_;by_cases cf:0<(((x).length:Nat):Int);refine I ?_;have W:=cj (l:=x) (i:=0) U;refine ab (dZ (l:=x) (i:=0) (c:=(x.getD 0 0)) U9 Z Z W ?_);refine I ?_;by_cases lm:(((x.getD 0 0).toNat:Nat):Int)=45;have E:=D5 U lm;refine I ?_;refine oO (I ?_);rcases qa4 (ew (x,y))with cr|cr;by_cases cv:((((x).length:Nat):Int)-1)<=12;refine I ?_;refine ab (bF (l:=y) U9 Z ?_);refine I ?_;exact aW (t:=2) (u:=3) (v1:=.bool (decide ((((y).length:Nat):Int)<=12))) (v2:=.bool (decide ((((x.getD 0 0).toNat:Nat):Int)=45))) Z D ⟨_,by first|exact tZ aV aV aV|exact ua aV aV aV|exact ub aV⟩ Z Z
 refine I ?_;exact aW (t:=2) (u:=3) (v1:=.bool false) (v2:=.bool (decide ((((x.getD 0 0).toNat:Nat):Int)=45))) Z D ⟨_,by first|exact tZ aV aV aV|exact ua aV aV aV|exact ub aV⟩ Z Z;refine I ?_;exact aW (t:=2) (u:=3) (v1:=.bool false) (v2:=.bool (decide ((((x.getD 0 0).toNat:Nat):Int)=45))) Z D ⟨_,by first|exact tZ aV aV aV|exact ua aV aV aV|exact ub aV⟩ Z Z;have E:=D6 lm;have H:(((body x).length:Nat):Int)=((x.length:Nat):Int):=by rw[E]
 refine I ?_;rcases qa4 (ew (x,y))with cw|cw;by_cases cx:(((x).length:Nat):Int)<=12;refine I ?_;refine ab (bF (l:=y) U9 Z ?_);refine I ?_;exact aW (t:=2) (u:=3) (v1:=.bool (decide ((((y).length:Nat):Int)<=12))) (v2:=.bool (decide ((((x.getD 0 0).toNat:Nat):Int)=45))) Z D ⟨_,by first|exact tZ aV aV aV|exact ua aV aV aV|exact ub aV⟩ Z Z
 refine I ?_;exact aW (t:=2) (u:=3) (v1:=.bool false) (v2:=.bool (decide ((((x.getD 0 0).toNat:Nat):Int)=45))) Z D ⟨_,by first|exact tZ aV aV aV|exact ua aV aV aV|exact ub aV⟩ Z Z;refine I ?_;exact aW (t:=2) (u:=3) (v1:=.bool false) (v2:=.bool (decide ((((x.getD 0 0).toNat:Nat):Int)=45))) Z D ⟨_,by first|exact tZ aV aV aV|exact ua aV aV aV|exact ub aV⟩ Z Z;have E:=D7 cf;have H:(((body x).length:Nat):Int)=((x.length:Nat):Int):=by rw[E]
 refine I ?_;rcases qa4 (ew (x,y))with fx|fx;by_cases fy:(((x).length:Nat):Int)<=12;refine I ?_;refine ab (bF (l:=y) U9 Z ?_);refine I ?_;exact aW (t:=2) (u:=3) (v1:=.bool (decide ((((y).length:Nat):Int)<=12))) (v2:=.bool false) Z D ⟨_,by first|exact tZ aV aV aV|exact ua aV aV aV|exact ub aV⟩ Z Z
 omega;refine I ?_;exact aW (t:=2) (u:=3) (v1:=.bool false) (v2:=.bool false) Z D ⟨_,by first|exact tZ aV aV aV|exact ua aV aV aV|exact ub aV⟩ Z Z
def iY (sh:Bool)(n d la lb ha hb pl:Int):Bool:=sh&&(decide (0<=pl)&&(decide (pl<=12)&&(decide (0<=aw (n*lb) (la*d))&&decide (aw (n*hb) (ha*d)<=0))))
def nV {z:Int}(h:fits z=true):Fz z:=by unfold fits at h;unfold Fz;exact of_decide_eq_true h
section
variable {l m:List UInt8}{a b:Int}
def vn (h:ew (x,y)=true)(hl:l=aa a)(hm:m=aa b)(o2:ew (aa a,aa b)=true)(fa:Fz a)(fb:Fz b):CL 67 #[.agg #[S x,S y],.agg #[S l,S m]] w (aH w λv _=>v=.int .i64 (aw (ao x*b) (a*ao y))):=by
 subst hl hm
 have D:aa (ao x)=x:=dj (jr h)
 have E:aa (ao y)=y:=dj (gh h)
 have f1:Fz (ao x):=nV (eL (jr h))
 have G:Fz (ao y):=nV (eL (gh h))
 have p2:0<b:=by have:=jj o2;rwa [aG]at this
 have h1:=H1 (w:=w) (by rw[D,E];exact h) o2 f1 G fa fb (jj h) p2
 rw[D,E]at h1;exact h1
def BJ (h:ew (x,y)=true)(hl:l=aa a)(hm:m=aa b)(o2:ew (aa a,aa b)=true)(fa:Fz a)(fb:Fz b)(ht:Tb w):CL 46 #[.agg #[S x,S y],.agg #[S l,S m]] w (aH w λv _=>v=.int .i64 (aw (ao x*b) (a*ao y))):=by
 subst hl hm
 have D:aa (ao x)=x:=dj (jr h)
 have E:aa (ao y)=y:=dj (gh h)
 have f1:Fz (ao x):=nV (eL (jr h))
 have G:Fz (ao y):=nV (eL (gh h))
 have h1:=tF (w:=w) (by rw[D,E];exact h) o2 f1 G fa fb ht
 rw[D,E]at h1;exact h1
def Kj (fa:Fz a)(fb:Fz b)(h0:b≠0):gg (xC (aa a) (aa b))=.tuple #[QV a b,.int .i64 0]:=by
 unfold xC;rw[fa.int,fb.int,aG,aG];show gg (jq a b)=_;unfold jq;rw[if_neg h0];rfl
def Fv (hl:l=aa a)(hm:m=aa b)(fa:Fz a)(fb:Fz b)(h0:b≠0):CL 36 #[S l,S m] w (aH w λv _=>v=.tuple #[QV a b,.int .i64 0]):=by
 subst hl hm
 exact gT (xD _ _ _ (cI fa) (cI fb)) (Kj fa fb h0)
end
def uc:([49,48,48,48,48,48,48]:List UInt8)=aa 1000000:=by decide +kernel
def D8:([57,57,57,57,57,57]:List UInt8)=aa 999999:=by decide +kernel
def loneD:([49]:List UInt8)=aa 1:=by decide +kernel
def D9:ew (aa 1,aa 1000000)=true:=by decide +kernel
def Ea:ew (aa 999999,aa 1000000)=true:=by decide +kernel
def nf:Fz 1000000:=by unfold Fz;decide
def wW:Fz 999999:=by unfold Fz;decide
def Eb:Fz 1:=by unfold Fz;decide
def j6 (e1:l1=aa la)(e2:m1=aa lb)(e3:l2=aa ha)(e4:m2=aa hb)(o1:ew (aa la,aa lb)=true)(o2:ew (aa ha,aa hb)=true)(f1:Fz la)(f2:Fz lb)(f3:Fz ha)(f4:Fz hb)(s1:x.length<=1000000)(s2:y.length<=1000000):
 CL 27 #[.agg #[S x,S y],.agg #[S l1,S m1],.agg #[S l2,S m2],.int .i64 pl] w (aH w λv w'=>v=.bool (iY (nw (x,y)) (ao x) (ao y) la lb ha hb pl)):=by
 refine aC func27 Z (I ?_);refine bx (λ_ kk E=>?_);have D:=kk.2;refine bx (λ_ g G=>?_);have⟨E,D⟩:=bn g.2 E D;refine bx (λ_ A2 H=>?_);have⟨E,G,D⟩:=aP A2.2 E G D;refine I ?_;refine cl Ga (vm s1 s2) ?_;rintro _ _ O ⟨Ab,rfl⟩;have⟨E,G,H,D⟩:=br O.2 E G H D;refine I ?_;rcases qa4 (nw (x,y))with cf|cf;by_cases cw:0<=pl;by_cases cm:pl<=12;by_cases cy:0<=(aw (ao x*lb) (la*ao y));refine I ?_;refine cl FH (vn (kZ cf) e1 e2 o1 f1 f2) ?_;rintro _ _ W rfl;have⟨E,H,D⟩:=aP W.2 E H D;refine I ?_;refine cl FH (vn (kZ cf) e3 e4 o2 f3 f4) ?_;rintro _ _ kd rfl;have D:=xt D kd.2;refine I ?_;exact an (t:=8) (v:=.bool (decide ((aw (ao x*hb) (ha*ao y))<=0))) Z D (by unfold iY;rw[cf];rw[decide_eq_true cw];rw[decide_eq_true cm];rw[decide_eq_true cy];first|rfl|simp) Z;refine I ?_;refine cl FH (vn (kZ cf) e1 e2 o1 f1 f2) ?_;rintro _ _ A1 rfl;have D:=xt D A1.2;refine I ?_;exact an (t:=8) (v:=.bool false) Z D (by unfold iY;rw[cf];rw[decide_eq_true cw];rw[decide_eq_true cm];rw[decide_eq_false cy];first|rfl|simp) Z;refine I ?_;exact an (t:=8) (v:=.bool false) Z D (by unfold iY;rw[cf];rw[decide_eq_true cw];rw[decide_eq_false cm];first|rfl|simp) Z
 refine I ?_;exact an (t:=8) (v:=.bool false) Z D (by unfold iY;rw[cf];rw[decide_eq_false cw];first|rfl|simp) Z;refine I ?_;exact an (t:=8) (v:=.bool false) Z D (by unfold iY;rw[cf];first|rfl|simp) Z
def ud {fu:Value}(e1:l1=aa la)(e2:m1=aa lb)(e3:l2=aa ha)(e4:m2=aa hb)(o1:ew (aa la,aa lb)=true)(o2:ew (aa ha,aa hb)=true)(f1:Fz la)(f2:Fz lb)(f3:Fz ha)(f4:Fz hb)(hu:fu.cells=#[fu])(ht:Tb w):
 CL 17 #[.agg #[S l1,S m1,S l2,S m2,S l3,S m3,S l4,S m4,fu],.agg #[S x,S y],.int .i64 pl] w (aH w λv w'=>v=.bool (iY (nw (x,y)) (ao x) (ao y) la lb ha hb pl)):=by
 refine aC func17 Z (I ?_);refine bx (λ_ W E=>?_);have D:=W.2;refine bx (λ_ A1 G=>?_);have⟨E,D⟩:=bn A1.2 E D;refine I ?_;rcases qa4 (nw (x,y))with cr|cr;by_cases cx:0<=pl;by_cases cw:pl<=12;by_cases cy:0<=(aw (ao x*lb) (la*ao y));refine I ?_;refine cl jI (iX (ht.ext D)) ?_;rintro _ _ H rfl;have⟨E,G,D⟩:=aP H.2 E G D;refine I ?_;refine cl ky (BJ (kZ cr) e1 e2 o1 f1 f2 (ht.ext D)) ?_;rintro _ _ kd rfl;have⟨E,G,D⟩:=aP kd.2 E G D;refine I ?_;refine cl ky (BJ (kZ cr) e3 e4 o2 f3 f4 (ht.ext D)) ?_;rintro _ _ g rfl;have D:=xt D g.2;refine I ?_;exact an (t:=6) (v:=.bool (decide ((aw (ao x*hb) (ha*ao y))<=0))) Z D (by unfold iY;rw[cr];rw[decide_eq_true cx];rw[decide_eq_true cw];rw[decide_eq_true cy];first|rfl|simp) Z;refine I ?_;refine cl jI (iX (ht.ext D)) ?_;rintro _ _ Ab rfl;have⟨E,G,D⟩:=aP Ab.2 E G D;refine I ?_;refine cl ky (BJ (kZ cr) e1 e2 o1 f1 f2 (ht.ext D)) ?_;rintro _ _ Ad rfl;have D:=xt D Ad.2;refine I ?_;exact an (t:=6) (v:=.bool false) Z D (by unfold iY;rw[cr];rw[decide_eq_true cx];rw[decide_eq_true cw];rw[decide_eq_false cy];first|rfl|simp) Z
 refine I ?_;refine cl jI (iX (ht.ext D)) ?_;rintro _ _ kk rfl;have D:=xt D kk.2;refine I ?_;exact an (t:=6) (v:=.bool false) Z D (by unfold iY;rw[cr];rw[decide_eq_true cx];rw[decide_eq_false cw];first|rfl|simp) Z;refine I ?_;refine cl jI (iX (ht.ext D)) ?_;rintro _ _ A2 rfl;have D:=xt D A2.2;refine I ?_;exact an (t:=6) (v:=.bool false) Z D (by unfold iY;rw[cr];rw[decide_eq_false cx];first|rfl|simp) Z;refine I ?_;refine cl jI (iX (ht.ext D)) ?_;rintro _ _ O rfl;have D:=xt D O.2;refine I ?_;exact an (t:=6) (v:=.bool false) Z D (by unfold iY;rw[cr];first|rfl|simp) Z
def Ec {m:Nat}(hm:m<=90)(ha:a<10^90)(hb:0<b):Fz ((aM (10^m) a b).1:Int)/\Fz ((aM (10^m) a b).2:Int):=BF (uh hm) (Nat.lt_trans ha dc) hb
set_option maxRecDepth 100000 in
def ue {d:Nat}{F:Nat->Option (Int×Int)}(hFn:∀m,F m=BR (10^m) m N d)(ha:a<10^90)(hb:b<10^90)(hb0:0<b)(hu:pG F a b 2 15=some u)(ht:Tb w):
 CL 26 #[.agg #[S (aa N),S (nS d)],QV ((a:Nat):Int) ((b:Nat):Int)] w (aH w λv w'=>v=.tuple #[.bool u,.int .i64 0]):=by
 refine aC func26 Z (I ?_);refine bx (λAy OR od=>?_);have M1:=OR.2;refine bx (λE OF Ax=>?_);have⟨od,M1⟩:=bn OF.2 od M1;refine I ?_;refine GJ (λOa NE _ B1=>?_);have⟨od,Ax,M1⟩:=aP NE od Ax M1;have ask:=bz NE;refine I ?_;refine cM [(4,5),(7,10),(13,39)] (λOb e W=>∃k:Nat,∃f:Nat,∃m:Nat,(f=Ob)/\(e 13=.int .i64 k)/\(pG F a b f m=some u)/\((k=0/\f=2/\m=15)\/(k=1/\f=1/\m=50)\/(k=2/\f=0/\m=85))/\(Oa.heap.size<=W.heap.size)/\(a8 w W)/\(ae W w.heap.size 23 #[S (aa N),S (nS d)])/\(ae W Ay.heap.size 23 #[S ((qR ((a:Nat):Int) ((b:Nat):Int)).1),S ((qR ((a:Nat):Int) ((b:Nat):Int)).2)])/\(World.ownsRow W E.heap.size 3 1 (.slice (some ⟨E.heap.size,0,none⟩) 2 2) 2 [.int .i64 15,.int .i64 50])) (2) ⟨0,2,15,rfl,rfl,hu,U,(qa0 _),M1,od,Ax,B1⟩ ?_;rintro _ _ _ ⟨k,f,m,rfl,NF,O1,hm,PL,D,od,Ax,B1⟩;have Pd:=bz D;obtain⟨g,r,rfl,OP,hT,hF,hG⟩:=BC O1;have hr:=(hFn m).symm.trans OP;have hk:(k=0/\m=15)\/(k=1/\m=50):=J
 have MD:m<=90:=J
 have N7:=Fg (uh MD) hr;have Na:=Ec (b:=b) MD ha hb0;refine I ?_;obtain⟨_,oo,hA,OA⟩:=(aa3 B1).cells k (.int .i64 m) (by rcases hk with⟨rfl,rfl⟩|⟨rfl,rfl⟩ <;>rfl);refine ab (am (i:=k) (oo:=oo+k) gq eN Z hA NF U Vh ?_);refine ab (aT (v:=.int .i64 m) U3 Z Z OA ?_);refine I ?_;refine clb eB (hc:=dr (pl:=m) U (ht.ext D)) (hk:=?_);rintro _ D2 N0 rfl;have⟨od,Ax⟩:=iZ N0.2 od Ax;have B1:=aD N0.2 B1;have D:=xt D N0.2;refine al hP (λ_ Mz OD=>?_);have⟨od,Ax⟩:=iZ Mz.2 od Ax;have B1:=aD Mz.2 B1;have D:=xt D Mz.2;refine SA OD (λM2 MB Nt=>?_);have⟨od,Ax⟩:=vO MB od Ax;have B1:=dT MB Vi B1;have D:=eK MB D;have P2:=dX MB;refine I ?_;have E7:=ab1 M2
 refine kA mj 8 (λe0 ls e W=>∃G:Nat,∃H:Nat,(∀t,pY [9,10,19,20,21,22,23,24] t=false->e t=e0 t)/\(a8 w W)/\(M2.heap.size<=W.heap.size)/\(ls 0=true->e 19=.agg #[.int .i64 m,S (nS (10^m))])/\(ls 1=true->e 20=.agg #[S (aa N),S (nS d)])/\(ls 2=true->e 21=.agg #[S (aa r.1),S (aa r.2)])/\(ls 3=true->e 22=.agg #[.int .i64 m,S (nS (10^m))])/\(ls 4=true->e 23=QV ((a:Nat):Int) ((b:Nat):Int))/\(ls 5=true->e 24=.agg #[S (nS ((aM (10^m) a b).1)),S (nS ((aM (10^m) a b).2))])/\(ls 6=true->e 9=pT G)/\(ls 7=true->e 10=pT H)/\(ls 6=true->M2.heap.size<=G)/\(ls 7=true->M2.heap.size<=H)/\(ls 6=true->ls 7=true->G≠H)/\(ae W w.heap.size 23 #[S (aa N),S (nS d)])/\(ae W Ay.heap.size 23 #[S ((qR ((a:Nat):Int) ((b:Nat):Int)).1),S ((qR ((a:Nat):Int) ((b:Nat):Int)).2)])/\(World.ownsRow W E.heap.size 3 1 (.slice (some ⟨E.heap.size,0,none⟩) 2 2) 2 [.int .i64 15,.int .i64 50])/\(ae W D2.heap.size 45 #[.int .i64 m,S (nS (10^m))])/\(ls 6=true->ae W G 59 #[S [],S []])/\(ls 7=true->ae W H 59 #[S [],S []])) ⟨0,0,(λ_ _=>rfl),(xt D E7),(bz E7),(ff Z),(ff Z),(ff Z),(ff Z),(ff Z),(ff Z),(ff Z),(ff Z),(ff Z),(ff Z),(λh _=>ff Z h),(be E7 od),(be E7 Ax),(aD E7 B1),(be E7 Nt),(λh=>ff Z h),(λh=>ff Z h)⟩ q0 q0 ?_ ?_
 refine⟨λOK M4 NU OX Nc Nk _=>?_,?_⟩;obtain⟨G,H,NG,D,E4,Ad,As,Af,Am,Ar,Ao,Ap,Aw,Av,Aq,ny,A1,kd,O,A2,Ab,kk⟩:=OX;obtain⟨OK,rfl⟩:=cz NG;have O3:NU 2=false:=(bK Nc (i:=0) (j:=2) Z Nk);have PM:NU 5=false:=(bK Nc (i:=2) (j:=5) Z O3);have PE:=bz D;have NM:ae M4 w.heap.size 23 #[S (aa N),S (nS d)]:=A1;have Ox:=bt NM;have NP:ae M4 Ay.heap.size 23 #[S ((qR ((a:Nat):Int) ((b:Nat):Int)).1),S ((qR ((a:Nat):Int) ((b:Nat):Int)).2)]:=kd;have PH:=bt NP;have O6:World.ownsRow M4 E.heap.size 3 1 (.slice (some ⟨E.heap.size,0,none⟩) 2 2) 2 [.int .i64 15,.int .i64 50]:=O;have NK:ae M4 D2.heap.size 45 #[.int .i64 m,S (nS (10^m))]:=A2;have Ow:=bt NK;refine I ?_;exact⟨rfl,_,(ai _ _ _ _ _).symm,G,H,(ap Z NG),D,U,(λ_=>rfl),As,Af,Am,Ar,Ao,Ap,Aw,Av,Aq,ny,(NM),(NP),(O6),(NK),(λNi=>Ab Ni),(λOO=>kk OO)⟩;refine⟨λOT MC NB OV N8 Of _=>?_,?_⟩;obtain⟨G,H,ND,D,E4,Ad,As,Af,Am,Ar,Ao,Ap,Aw,Av,Aq,ny,A1,kd,O,A2,Ab,kk⟩:=OV;obtain⟨OT,rfl⟩:=cz ND;have Oc:NB 2=false:=(bK N8 (i:=1) (j:=2) Z Of);have Oq:NB 5=false:=(bK N8 (i:=2) (j:=5) Z Oc);have Oj:=bz D;have NC:ae MC w.heap.size 23 #[S (aa N),S (nS d)]:=A1;have PT:=bt NC
 have NJ:ae MC Ay.heap.size 23 #[S ((qR ((a:Nat):Int) ((b:Nat):Int)).1),S ((qR ((a:Nat):Int) ((b:Nat):Int)).2)]:=kd;have PG:=bt NJ;have Nm:World.ownsRow MC E.heap.size 3 1 (.slice (some ⟨E.heap.size,0,none⟩) 2 2) 2 [.int .i64 15,.int .i64 50]:=O;have NW:ae MC D2.heap.size 45 #[.int .i64 m,S (nS (10^m))]:=A2;have PV:=bt NW;refine I ?_;exact⟨rfl,_,(ai _ _ _ _ _).symm,G,H,(ap Z ND),D,U,Ad,(λ_=>rfl),Af,Am,Ar,Ao,Ap,Aw,Av,Aq,ny,(NC),(NJ),(Nm),(NW),(λOQ=>Ab OQ),(λOL=>kk OL)⟩;refine⟨λMU MQ MV OE OJ OC NL=>?_,?_⟩;obtain⟨G,H,NV,D,E4,Ad,As,Af,Am,Ar,Ao,Ap,Aw,Av,Aq,ny,A1,kd,O,A2,Ab,kk⟩:=OE;obtain⟨MU,rfl⟩:=cz NV;have Nx:MV 1=true:=(NL 1 Z);have Nw:MV 0=true:=(NL 0 Z);have PK:MV 5=false:=(bK OJ (i:=2) (j:=5) Z OC);have OI:MU 19=.agg #[.int .i64 m,S (nS (10^m))]:=Ad Nw;have O0:MU 20=.agg #[S (aa N),S (nS d)]:=As Nx;have PY:=bz D;have ME:ae MQ w.heap.size 23 #[S (aa N),S (nS d)]:=A1;have Pi:=bt ME;have MF:ae MQ Ay.heap.size 23 #[S ((qR ((a:Nat):Int) ((b:Nat):Int)).1),S ((qR ((a:Nat):Int) ((b:Nat):Int)).2)]:=kd;have PU:=bt MF;have MX:World.ownsRow MQ E.heap.size 3 1 (.slice (some ⟨E.heap.size,0,none⟩) 2 2) 2 [.int .i64 15,.int .i64 50]:=O
 have M5:ae MQ D2.heap.size 45 #[.int .i64 m,S (nS (10^m))]:=A2;have P3:=bt M5;refine clb q8 (hc:=kq (uh MD) U hr (ht.ext D)) (hk:=?_) (hv:=aA OI (aA O0 Z));rintro _ _ L2 rfl;have⟨ME,MF⟩:=iZ L2.2 ME MF;have MX:=aD L2.2 MX;have⟨M5,D⟩:=bn L2.2 M5 D;refine I ?_;exact⟨rfl,_,(ai _ _ _ _ _).symm,G,H,(ap Z NV),D,U,Ad,As,(λ_=>rfl),Am,Ar,Ao,Ap,Aw,Av,Aq,ny,(ME),(MF),(MX),(M5),(λNu=>(be L2.2 (Ab Nu))),(λNr=>(be L2.2 (kk Nr)))⟩;refine⟨λNs M6 Nh Ng O5 Nf _=>?_,?_⟩;obtain⟨G,H,N9,D,E4,Ad,As,Af,Am,Ar,Ao,Ap,Aw,Av,Aq,ny,A1,kd,O,A2,Ab,kk⟩:=Ng;obtain⟨Ns,rfl⟩:=cz N9;have PN:Nh 5=false:=(bK O5 (i:=3) (j:=5) Z Nf);have PR:=bz D;have N6:ae M6 w.heap.size 23 #[S (aa N),S (nS d)]:=A1;have PW:=bt N6;have NT:ae M6 Ay.heap.size 23 #[S ((qR ((a:Nat):Int) ((b:Nat):Int)).1),S ((qR ((a:Nat):Int) ((b:Nat):Int)).2)]:=kd;have P0:=bt NT;have OB:World.ownsRow M6 E.heap.size 3 1 (.slice (some ⟨E.heap.size,0,none⟩) 2 2) 2 [.int .i64 15,.int .i64 50]:=O;have NR:ae M6 D2.heap.size 45 #[.int .i64 m,S (nS (10^m))]:=A2;have Oz:=bt NR;refine I ?_
 exact⟨rfl,_,(ai _ _ _ _ _).symm,G,H,(ap Z N9),D,U,Ad,As,Af,(λ_=>rfl),Ar,Ao,Ap,Aw,Av,Aq,ny,(N6),(NT),(OB),(NR),(λOW=>Ab OW),(λNp=>kk Np)⟩;refine⟨λOM MH Nj No arr Oi _=>?_,?_⟩;obtain⟨G,H,NX,D,E4,Ad,As,Af,Am,Ar,Ao,Ap,Aw,Av,Aq,ny,A1,kd,O,A2,Ab,kk⟩:=No;obtain⟨OM,rfl⟩:=cz NX;have PC:Nj 5=false:=(bK arr (i:=4) (j:=5) Z Oi);have Pf:=bz D;have NI:ae MH w.heap.size 23 #[S (aa N),S (nS d)]:=A1;have Pj:=bt NI;have NY:ae MH Ay.heap.size 23 #[S ((qR ((a:Nat):Int) ((b:Nat):Int)).1),S ((qR ((a:Nat):Int) ((b:Nat):Int)).2)]:=kd;have Oy:=bt NY;have OS:World.ownsRow MH E.heap.size 3 1 (.slice (some ⟨E.heap.size,0,none⟩) 2 2) 2 [.int .i64 15,.int .i64 50]:=O;have NN:ae MH D2.heap.size 45 #[.int .i64 m,S (nS (10^m))]:=A2;have PS:=bt NN;refine I ?_;exact⟨rfl,_,(ai _ _ _ _ _).symm,G,H,(ap Z NX),D,U,Ad,As,Af,Am,(λ_=>rfl),Ao,Ap,Aw,Av,Aq,ny,(NI),(NY),(OS),(NN),(λOd=>Ab Od),(λNz=>kk Nz)⟩;refine⟨λN3 ML Kp O8 NO _ N5=>?_,?_⟩;obtain⟨G,H,NS,D,E4,Ad,As,Af,Am,Ar,Ao,Ap,Aw,Av,Aq,ny,A1,kd,O,A2,Ab,kk⟩:=O8;obtain⟨N3,rfl⟩:=cz NS;have NZ:Kp 2=true:=(N5 2 Z);have PZ:Kp 1=true:=(NO 2 1 Z NZ);have P9:Kp 0=true:=(NO 2 0 Z NZ)
 have Oe:Kp 4=true:=(N5 4 Z);have O9:Kp 3=true:=(N5 3 Z);have O4:N3 22=.agg #[.int .i64 m,S (nS (10^m))]:=Am O9;have Ny:N3 23=QV ((a:Nat):Int) ((b:Nat):Int):=Ar Oe;have Pb:=bz D;have MO:ae ML w.heap.size 23 #[S (aa N),S (nS d)]:=A1;have PF:=bt MO;have M8:ae ML Ay.heap.size 23 #[S ((qR ((a:Nat):Int) ((b:Nat):Int)).1),S ((qR ((a:Nat):Int) ((b:Nat):Int)).2)]:=kd;have PP:=bt M8;have N4:World.ownsRow ML E.heap.size 3 1 (.slice (some ⟨E.heap.size,0,none⟩) 2 2) 2 [.int .i64 15,.int .i64 50]:=O;have MI:ae ML D2.heap.size 45 #[.int .i64 m,S (nS (10^m))]:=A2;have Pk:=bt MI;refine cl gu (iT (uh MD) ha hb hb0 (ht.ext D)) ?_ (aA O4 (aA Ny Z));rintro _ _ Jx rfl;have⟨MO,M8⟩:=iZ Jx.2 MO M8;have N4:=aD Jx.2 N4;have⟨MI,D⟩:=bn Jx.2 MI D;refine I ?_;exact⟨rfl,_,(ai _ _ _ _ _).symm,G,H,(ap Z NS),D,U,Ad,As,Af,Am,Ar,(λ_=>rfl),Ap,Aw,Av,Aq,ny,(MO),(M8),(N4),(MI),(λNq=>(be Jx.2 (Ab Nq))),(λOH=>(be Jx.2 (kk OH)))⟩;refine⟨λat2 EW _ OZ _ _ _=>?_,?_⟩;obtain⟨G,H,NQ,D,E4,Ad,As,Af,Am,Ar,Ao,Ap,Aw,Av,Aq,ny,A1,kd,O,A2,Ab,kk⟩:=OZ;obtain⟨at2,rfl⟩:=cz NQ;have at8:=bz D;have MK:ae EW w.heap.size 23 #[S (aa N),S (nS d)]:=A1;have at9:=bt MK
 have MG:ae EW Ay.heap.size 23 #[S ((qR ((a:Nat):Int) ((b:Nat):Int)).1),S ((qR ((a:Nat):Int) ((b:Nat):Int)).2)]:=kd;have PQ:=bt MG;have MW:World.ownsRow EW E.heap.size 3 1 (.slice (some ⟨E.heap.size,0,none⟩) 2 2) 2 [.int .i64 15,.int .i64 50]:=O;have M3:ae EW D2.heap.size 45 #[.int .i64 m,S (nS (10^m))]:=A2;have P6:=bt M3;refine al aI (λ_ M7 OG=>?_);have⟨MK,MG⟩:=iZ M7.2 MK MG;have MW:=aD M7.2 MW;have⟨M3,D⟩:=bn M7.2 M3 D;refine I ?_;exact⟨rfl,_,(ai _ _ _ _ _).symm,EW.heap.size,H,(ap Z NQ),D,U,Ad,As,Af,Am,Ar,Ao,(λ_=>rfl),Aw,(λ_=>U),Aq,(λ_ Oh=>(by have:=bt (kk Oh);omega)),(MK),(MG),(MW),(M3),(λ_=>OG),(λOg=>(be M7.2 (kk Og)))⟩;refine⟨λO7 M0 _ OU _ _ _=>?_,?_⟩;obtain⟨G,H,NA,D,E4,Ad,As,Af,Am,Ar,Ao,Ap,Aw,Av,Aq,ny,A1,kd,O,A2,Ab,kk⟩:=OU;obtain⟨O7,rfl⟩:=cz NA;have P5:=bz D;have MJ:ae M0 w.heap.size 23 #[S (aa N),S (nS d)]:=A1;have Ov:=bt MJ;have MP:ae M0 Ay.heap.size 23 #[S ((qR ((a:Nat):Int) ((b:Nat):Int)).1),S ((qR ((a:Nat):Int) ((b:Nat):Int)).2)]:=kd;have Pg:=bt MP;have MR:World.ownsRow M0 E.heap.size 3 1 (.slice (some ⟨E.heap.size,0,none⟩) 2 2) 2 [.int .i64 15,.int .i64 50]:=O;have MN:ae M0 D2.heap.size 45 #[.int .i64 m,S (nS (10^m))]:=A2
 have P8:=bt MN;refine al aI (λ_ MM Nl=>?_);have⟨MJ,MP⟩:=iZ MM.2 MJ MP;have MR:=aD MM.2 MR;have⟨MN,D⟩:=bn MM.2 MN D;refine I ?_;exact⟨rfl,_,(ai _ _ _ _ _).symm,G,M0.heap.size,(ap Z NA),D,U,Ad,As,Af,Am,Ar,Ao,Ap,(λ_=>rfl),Av,(λ_=>U),(λON _=>(by have:=bt (Ab ON);omega)),(MJ),(MP),(MR),(MN),(λNn=>(be MM.2 (Ab Nn))),(λ_=>Nl)⟩;exact trivial;intro K2 E9 _ B2 O2;obtain⟨G,H,Nv,D,E4,Ad,As,Af,Am,Ar,Ao,Ap,Aw,Av,Aq,ny,A1,kd,O,A2,Ab,kk⟩:=O2;obtain⟨K2,rfl⟩:=cz Nv;have Pe:=bz D;have PO:=Av (B2 6 Z);have Oo:=Aq (B2 7 Z);have PX:=ny (B2 6 Z) (B2 7 Z);have wr:ae E9 w.heap.size 23 #[S (aa N),S (nS d)]:=A1;have Om:=bt wr;have D1:ae E9 Ay.heap.size 23 #[S ((qR ((a:Nat):Int) ((b:Nat):Int)).1),S ((qR ((a:Nat):Int) ((b:Nat):Int)).2)]:=kd;have P7:=bt D1;have E1:World.ownsRow E9 E.heap.size 3 1 (.slice (some ⟨E.heap.size,0,none⟩) 2 2) 2 [.int .i64 15,.int .i64 50]:=O;have Ix:ae E9 D2.heap.size 45 #[.int .i64 m,S (nS (10^m))]:=A2;have PD:=bt Ix;have Nb:ae E9 G 59 #[S [],S []]:=Ab (B2 6 Z);have Ou:=bt Nb;have M9:ae E9 H 59 #[S [],S []]:=kk (B2 7 Z);have P1:=bt M9;have On:K2 9=pT G:=(Ap (B2 6 Z));have Ot:K2 21=.agg #[S (aa r.1),S (aa r.2)]:=(Af (B2 2 Z))
 refine SA Nb (λ_ My MA=>?_);have⟨wr,D1⟩:=vO My wr D1;have E1:=dT My Vi E1;have⟨Ix,M9,D,_⟩:=fq My Ix M9 D;have PI:K2 10=pT H:=(Aw (B2 7 Z));have Ol:K2 24=.agg #[S (nS ((aM (10^m) a b).1)),S (nS ((aM (10^m) a b).2))]:=(Ao (B2 5 Z));refine SA M9 (λ_ MY NH=>?_);have⟨wr,D1⟩:=vO MY wr D1;have E1:=dT MY Vi E1;have⟨Ix,MA,D,_⟩:=fq MY Ix MA D;refine I ?_;refine cl i8 (fG Z Z N7.2 Na.1) ?_;rintro _ _ MS rfl;have⟨wr,D1⟩:=iZ MS.2 wr D1;have E1:=aD MS.2 E1;have⟨MA,NH,D⟩:=aP MS.2 MA NH D;refine I ?_;by_cases apn:(aw r.2 ((aM (10^m) a b).1:Int))<0;have MZ:=hT (tX apn);subst MZ;refine I ?_;exact aW (t:=4) (u:=5) (v1:=.bool true) (v2:=.int .i64 0) Z D Z Z Z;have Ne:=qQ apn;refine I ?_;refine cl i8 (fG Z Z N7.1 Na.2) ?_;rintro _ _ N1 rfl;have⟨wr,D1⟩:=iZ N1.2 wr D1;have E1:=aD N1.2 E1;have D:=xt D N1.2;refine I ?_;by_cases apo:0<(aw r.1 ((aM (10^m) a b).2:Int));have MZ:=hF Ne (tY apo);subst MZ;refine I ?_;exact aW (t:=4) (u:=5) (v1:=.bool false) (v2:=.int .i64 0) Z D Z Z Z;have OY:=hG Ne (qS apo);refine I ?_;refine ab (bb (a:=(k:Int)) (b:=1) (c:=((k+1:Nat):Int)) NF Z JT U ?_);refine I ?_
 exact bQ ⟨k+1,g,m+35,rfl,rfl,OY,U,U,D,wr,D1,E1⟩
def x7 (o m:Int)(k:Nat):Option (Int×Int):=BR (10^k) k (cE m o) (bI m o).toNat
def l5 (ho:0<o)(ha:a<10^90)(hb:b<10^90)(hb0:0<b)(hu:pG (x7 o m) a b 2 15=some u)(ht:Tb w):
 CL 26 #[QV m o,QV (a:Int) (b:Int)] w (aH w λv _=>v=.tuple #[.bool u,.int .i64 0]):=by
 unfold QV;rw[pA ho]
 exact ue (λ_=>rfl) ha hb hb0 hu ht
set_option maxRecDepth 100000 in
def r7 {pl:Nat}{r:Int×Int}(h:Q9 (a:Int) (b:Int))(ha12:(a:Int).natAbs<10^12)(hb12:(b:Int)<10^12)(hp:pl<=12)(hrt:dK pl a b 1 1000000 999999 1000000=true)(hne:¬qR (a:Int) (b:Int)=(([49],[50]):R))(hqn:sl (λm=>pG (x7 ((10^pl:Nat):Int) m) a b 2 15) 100 (-5*((10^pl:Nat):Int)) (5*((10^pl:Nat):Int))=some r)(ht:Tb w):
 CL 8 #[QV ((a:Nat):Int) ((b:Nat):Int),.int .i64 pl] w (aH w λv w'=>v=.tuple #[IV r.1 ((10^pl:Nat):Int) r.2 ((10^pl:Nat):Int),.int .i64 0]):=by
 have Af:0<((10^pl:Nat):Int):=by have:=Nat.pow_pos (n:=pl) (show 0<10 by decide);omega
 have MQ:((10^pl:Nat):Int)<=1000000000000:=by have:(10:Nat)^pl<=10^12:=Nat.pow_le_pow_right dc hp;omega
 have Ad:0<b:=by have:=h.2.1;omega
 have Ap:a<10^90:=J
 have A2:b<10^90:=J
 refine aC func8 Z (I ?_);refine bx (λAb MO D=>?_);have O:=MO.2;refine al aL (λ_ B2 E=>?_);have⟨D,O⟩:=bn B2.2 D O;refine I ?_;refine cl bN aJ ?_;rintro _ _ M1 rfl;have⟨D,E,O⟩:=aP M1.2 D E O;refine cl bN aJ ?_;rintro _ Ao MG rfl;have⟨D,E,O⟩:=aP MG.2 D E O;refine ab (aS (vs:=[(0,.agg #[S [49],S [49,48,48,48,48,48,48]]),(1,.agg #[S [57,57,57,57,57,57],S [49,48,48,48,48,48,48]])]) (cells:=#[S [49],S [49,48,48,48,48,48,48],S [57,57,57,57,57,57],S [49,48,48,48,48,48,48],S [],S [],S [],S [],.nilFunc]) (pl:=[(0,2),(2,2),(4,2),(6,2),(8,1)]) eG dp q0 Z q0 ?_);refine al dp (λ_ M5 ME=>?_);have⟨D,E,O⟩:=aP M5.2 D E O;refine SA ME (λ_ MM H=>?_);have⟨D,E,O,_⟩:=fq MM D E O;refine I ?_;refine ab (aX (cs:=[S [49],S [49,48,48,48,48,48,48],S [57,57,57,57,57,57],S [49,48,48,48,48,48,48],S [],S [],S [],S [],.nilFunc]) (b:=Ao.heap.size) (o:=0) eG Z fh Z (aa0 H (i:=0) Z) ?_);refine I ?_;refine cl ja (cB (ej Z h ha12 hb12 HH vg HI vh Z (ht.ext O)) hrt) ?_;rintro _ _ MB rfl;have⟨D,E,H,O⟩:=br MB.2 D E H O;refine I ?_;refine clb eB (hc:=dr (pl:=(pl)) U (ht.ext O)) (hk:=?_);rintro _ _ ML rfl
 have⟨D,E,H,O⟩:=br ML.2 D E H O;refine ab (k9 (cs:=[.int .i64 (((pl):Nat):Int),S (nS (10^pl))]) (v:=S (nS (10^pl))) jD Z Z Z U9 Z Z Z ?_);refine I ?_;refine bB 2 ?_;refine sf ?_;refine ay (V:=.agg #[S [49],S [50]]) (λ_ _ _ _=>?_) ?_;refine cl bN aJ ?_;rintro _ _ ny rfl;have MI:=ny.2;refine I ?_;exact fs ⟨MI,rfl⟩;refine sf ?_;intro _ _ od _;have⟨D,E,H,O⟩:=br od.2 D E H O;refine ab (mF (a:=qR ((a:Nat):Int) ((b:Nat):Int)) (b:=([49],[50])) (q:=decide ((qR ((a:Nat):Int) ((b:Nat):Int))=([49],[50]))) Z Z Z ?_);refine I ?_;refine clb k6 (hc:=lS wM (show nS (10^pl)=aa ((10^pl:Nat):Int)from rfl) DO z1 z1 (ht.ext O)) (hk:=?_);rintro _ _ Ix rfl;have⟨D,E,H,O⟩:=br Ix.2 D E H O;refine I ?_;refine clb k6 (hc:=lS DK (show nS (10^pl)=aa ((10^pl:Nat):Int)from rfl) KA z1 z1 (ht.ext O)) (hk:=?_);rintro _ E9 Ay rfl;have⟨D,E,H,O⟩:=br Ay.2 D E H O;refine I ?_
 refine cM [(5,5),(8,14),(40,67)] (λM9 e W=>∃A1:Nat,∃kk:Int,∃hi:Int,(A1=M9)/\(e 8=S (aa kk))/\(e 9=S (aa hi))/\(sl (λm=>pG (x7 ((10^pl:Nat):Int) m) a b 2 15) A1 kk hi=some r)/\(-5000000000000<=kk/\kk<=5000000000000)/\(-5000000000000<=hi/\hi<=5000000000000)/\(E9.heap.size<=W.heap.size)/\(a8 w W)/\(ae W w.heap.size 23 #[S ((qR ((a:Nat):Int) ((b:Nat):Int)).1),S ((qR ((a:Nat):Int) ((b:Nat):Int)).2)])/\(ae W Ab.heap.size 30 #[S [],S [],S [],S []])/\(ae W Ao.heap.size 42 #[S [49],S [49,48,48,48,48,48,48],S [57,57,57,57,57,57],S [49,48,48,48,48,48,48],S [],S [],S [],S [],.nilFunc])) (100) ⟨100,(-5*((10^pl:Nat):Int)),(5*((10^pl:Nat):Int)),rfl,rfl,rfl,hqn,U,U,(qa0 _),O,D,E,H⟩ ?_;rintro _ _ _ ⟨A1,kk,hi,rfl,E4,M6,hq,MU,MR,MX,G,D,E,H⟩;have MV:=bz G;by_cases hl:1<hi-kk;obtain⟨g,rfl,x,hu,M2,Ar⟩:=HX hq hl;by_cases hx:x=true;subst hx;refine I ?_;refine clb iu (hc:=fZ Z Z z1 z1 z1 (ht.ext G)) (hk:=?_);rintro _ _ B1 rfl;have⟨D,E,H,G⟩:=br B1.2 D E H G;refine clb i8 (hc:=fG Z g8 z1 nu) (hk:=?_);rintro _ _ Kp rfl;have⟨D,E,H,G⟩:=br Kp.2 D E H G;have MS:=ek hl;refine I ?_
 refine clb gv (hc:=lR Z Z z1 z1 z1 (ht.ext G)) (hk:=?_);rintro _ _ MF rfl;have⟨D,E,H,G⟩:=br MF.2 D E H G;refine clb jH (hc:=jX Z jl z1 tQ dc (ht.ext G)) (hk:=?_);rintro _ _ wr rfl;have⟨D,E,H,G⟩:=br wr.2 D E H G;refine I ?_;refine clb eP (hc:=cH Z (show nS (10^pl)=aa ((10^pl:Nat):Int)from rfl) z1 z1 U (ht.ext G)) (hk:=?_);rintro _ _ Av rfl;have⟨D,E,H,G⟩:=br Av.2 D E H G;refine I ?_;refine al bi (λ_ MA EW=>?_);have⟨D,E,H,G⟩:=br MA.2 D E H G;refine SA EW (λ_ D1 _=>?_);have⟨D,E,H,G,_⟩:=fL D1 D E H G;refine I ?_;refine cl q6 (l5 Af Ap A2 Ad hu (ht.ext G)) ?_;rintro _ _ K2 rfl;have⟨D,E,H,G⟩:=br K2.2 D E H G;refine I ?_;exact bQ ⟨g,(kk+hi)/2,hi,rfl,rfl,M6,(M2 Z),U,U,U,G,D,E,H⟩;obtain rfl:x=false:=by revert hx;cases x;exact λ_=>rfl;exact λh=>absurd Z h
 refine I ?_;refine clb iu (hc:=fZ Z Z z1 z1 z1 (ht.ext G)) (hk:=?_);rintro _ _ Aw rfl;have⟨D,E,H,G⟩:=br Aw.2 D E H G;refine clb i8 (hc:=fG Z g8 z1 nu) (hk:=?_);rintro _ _ M3 rfl;have⟨D,E,H,G⟩:=br M3.2 D E H G;have MW:=ek hl;refine I ?_;refine clb gv (hc:=lR Z Z z1 z1 z1 (ht.ext G)) (hk:=?_);rintro _ _ Ax rfl;have⟨D,E,H,G⟩:=br Ax.2 D E H G;refine clb jH (hc:=jX Z jl z1 tQ dc (ht.ext G)) (hk:=?_);rintro _ _ M8 rfl;have⟨D,E,H,G⟩:=br M8.2 D E H G;refine I ?_;refine clb eP (hc:=cH Z (show nS (10^pl)=aa ((10^pl:Nat):Int)from rfl) z1 z1 U (ht.ext G)) (hk:=?_);rintro _ _ MN rfl;have⟨D,E,H,G⟩:=br MN.2 D E H G;refine I ?_;refine al bi (λ_ MJ MK=>?_);have⟨D,E,H,G⟩:=br MJ.2 D E H G;refine SA MK (λ_ D2 _=>?_);have⟨D,E,H,G,_⟩:=fL D2 D E H G;refine I ?_;refine cl q6 (l5 Af Ap A2 Ad hu (ht.ext G)) ?_;rintro _ _ M4 rfl;have⟨D,E,H,G⟩:=br M4.2 D E H G;refine I ?_;exact bQ ⟨g,kk,(kk+hi)/2,rfl,E4,rfl,(Ar Z),U,U,U,G,D,E,H⟩;obtain rfl:=(HY hq hl).symm;refine I ?_
 refine clb iu (hc:=fZ Z Z z1 z1 z1 (ht.ext G)) (hk:=?_);rintro _ _ E1 rfl;have⟨D,E,H,G⟩:=br E1.2 D E H G;refine clb i8 (hc:=fG Z g8 z1 nu) (hk:=?_);rintro _ _ E7 rfl;have⟨D,E,H,G⟩:=br E7.2 D E H G;have MY:=lW hl;refine I ?_;refine clb eP (hc:=cH Z (show nS (10^pl)=aa ((10^pl:Nat):Int)from rfl) z1 z1 U (ht.ext G)) (hk:=?_);rintro _ _ M0 rfl;have⟨D,E,H,G⟩:=br M0.2 D E H G;refine I ?_;refine al bi (λ_ Jx As=>?_);have⟨D,E,H,G⟩:=br Jx.2 D E H G;refine SA As (λ_ MP kd=>?_);have⟨D,E,H,G,_⟩:=fL MP D E H G;refine I ?_;refine clb eP (hc:=cH Z (show nS (10^pl)=aa ((10^pl:Nat):Int)from rfl) z1 z1 U (ht.ext G)) (hk:=?_);rintro _ _ MD rfl;have⟨D,E,H,kd,G⟩:=dL MD.2 D E H kd G;refine I ?_;refine al bi (λ_ MH M7=>?_);have⟨D,E,H,kd,G⟩:=dL MH.2 D E H kd G;refine SA M7 (λ_ MC Am=>?_);have⟨D,E,H,kd,G,_⟩:=ka MC D E H kd G;refine I ?_
 refine ab (aS (vs:=[(0,QV kk ((10^pl:Nat):Int)),(1,QV hi ((10^pl:Nat):Int))]) (cells:=#[S ((qR kk ((10^pl:Nat):Int)).1),S ((qR kk ((10^pl:Nat):Int)).2),S ((qR hi ((10^pl:Nat):Int)).1),S ((qR hi ((10^pl:Nat):Int)).2)]) (pl:=[(0,2),(2,2)]) bp aL q0 Z q0 ?_);refine SA E (λ_ Aq L2=>?_);have⟨D,H,kd,Am,G,_⟩:=ka Aq D H kd Am G;refine I ?_;refine aK (v:=.tuple #[IV kk ((10^pl:Nat):Int) hi ((10^pl:Nat):Int),.int .i64 0]) (cJ (r1:=.cell 4 30) (r2:=.tmp 5) Z ?_ ?_) G Z;refine ah (t:=4) (cs:=[S ((qR kk ((10^pl:Nat):Int)).1),S ((qR kk ((10^pl:Nat):Int)).2),S ((qR hi ((10^pl:Nat):Int)).1),S ((qR hi ((10^pl:Nat):Int)).2)]) (b:=Ab.heap.size) (o:=0) bp Z bc ?_ ?_;exact Z;exact aa0 L2 (i:=0) Z;exact aE (t:=5) Ve _
def nh {p:Prop}(h:p:=by kernel_rfl):p:=h
def gV {a b:Int}{l m:List UInt8}(hl:l=aa a)(hm:m=aa b)(ha:Fz a)(hb:Fz b):CL 32 #[S l,S m] w (aH w λv _=>v=.int .i64 (aw a b)):=by
 subst hl hm;exact gU ha hb
def xT (c:Nat->N2)(o m:Int)(k:Nat):Option (Int×Int):=H9 (10^k) (c k) (cE m o) (bI m o).toNat
def l6 {c:Nat->N2}(ho:0<o)(ho2:o<=1000000000000)(hm:-5000000000000<=m/\m<=5000000000000)(ha:a<10^100)(hb:b<10^100)(hb0:0<b)(hc:∀m,m=15\/m=50->pU (10^m) (c m))(hu:pG (xT c o m) a b 2 15=some u):
 CL 37 #[QV m o,.agg #[S (nS a),S (nS b)]] w (aH w λv _=>v=.tuple #[.bool u,.int .i64 0]):=by
 unfold QV;rw[pA ho]
 have h1:=rT (n:=m) ho
 have G:=wE (n:=m) ho
 have D:=jn (n:=m) ho
 have E:(10000000000000:Nat)<10^95:=by decide
 exact vl (λ_=>rfl) U U U ha hb hb0 hc hu
def ar {z:Int}(h:-100000000000000<=z/\z<=100000000000000):Fz z:=by
 have:(100000000000001:Nat)<10^200:=by decide
 unfold Fz;omega
def Ed:nw ([49],[50])=true:=by decide +kernel
def BK {pl:Nat}(hp:pl<=12):iY (nw ([49],[50])) (ao [49]) (ao [50]) 1 1000000 999999 1000000 (pl:Int)=true:=by
 unfold iY
 rw[Ed,decide_eq_true (show(0:Int)<=(pl:Int)by omega),decide_eq_true (show(pl:Int)<=12 by omega)]
 decide +kernel
def pF (hbad:iY (nw (x,y)) (ao x) (ao y) 1 1000000 999999 1000000 pl=false)(ht:Tb w):
 CL 8 #[.agg #[S x,S y],.int .i64 pl] w (aH w λv w'=>v=.tuple #[.agg #[S [],S [],S [],S []],.int .i64 60]):=by
 refine aC func8 Z (I ?_);refine bx (λAd kd E=>?_);have D:=kd.2;refine al aL (λ_ Am G=>?_);have⟨E,D⟩:=bn Am.2 E D;refine I ?_;refine cl bN aJ ?_;rintro _ _ Ab rfl;have⟨E,G,D⟩:=aP Ab.2 E G D;refine cl bN aJ ?_;rintro _ Ao O rfl;have⟨E,G,D⟩:=aP O.2 E G D;refine ab (aS (vs:=[(0,.agg #[S [49],S [49,48,48,48,48,48,48]]),(1,.agg #[S [57,57,57,57,57,57],S [49,48,48,48,48,48,48]])]) (cells:=#[S [49],S [49,48,48,48,48,48,48],S [57,57,57,57,57,57],S [49,48,48,48,48,48,48],S [],S [],S [],S [],.nilFunc]) (pl:=[(0,2),(2,2),(4,2),(6,2),(8,1)]) eG dp nh Z nh ?_);refine al dp (λ_ A2 Af=>?_);have⟨E,G,D⟩:=aP A2.2 E G D;refine SA Af (λ_ A1 H=>?_);have⟨E,G,D,_⟩:=fq A1 E G D;refine I ?_;refine ab (aX (cs:=[S [49],S [49,48,48,48,48,48,48],S [57,57,57,57,57,57],S [49,48,48,48,48,48,48],S [],S [],S [],S [],.nilFunc]) (b:=Ao.heap.size) (o:=0) eG Z fh Z (aa0 H (i:=0) Z) ?_);refine I ?_;refine cl ja (cB (ud (x:=x) (y:=y) loneD uc D8 uc D9 Ea Eb nf wW nf Z (ht.ext D)) hbad) ?_;rintro _ _ g rfl;have⟨E,G,H,D⟩:=br g.2 E G H D;refine I ?_;refine SA G (λ_ W kk=>?_);have⟨E,H,D,_⟩:=fq W E H D;refine I ?_
 refine aK (v:=.tuple #[.agg #[S [],S [],S [],S []],.int .i64 60]) (cJ (r1:=.cell 4 30) (r2:=.tmp 5) Z ?_ ?_) D Z;refine ah (t:=4) (cs:=[S [],S [],S [],S []]) (b:=Ad.heap.size) (o:=0) bp Z bc ?_ ?_;exact Z;exact aa0 kk (i:=0) Z;exact aE (t:=5) Ve _
def mG (hbad:iY (nw (x,y)) (ao x) (ao y) 1 1000000 999999 1000000 pl=false)(s1:x.length<=1000000)(s2:y.length<=1000000):
 CL 9 #[.agg #[S x,S y],.int .i64 pl] w (aH w λv w'=>v=.tuple #[.agg #[S [],S [],S [],S []],.int .i64 60]):=by
 refine aC func9 Z (I ?_);refine bx (λkk g E=>?_);have D:=g.2;refine al aL (λ_ O G=>?_);have⟨E,D⟩:=bn O.2 E D;refine I ?_;refine cl uw (cB (j6 (x:=x) (y:=y) loneD uc D8 uc D9 Ea Eb nf wW nf s1 s2) hbad) ?_;rintro _ _ kd rfl;have⟨E,G,D⟩:=aP kd.2 E G D;refine I ?_;refine SA G (λ_ W H=>?_);have⟨E,D,_⟩:=dE W E D;refine I ?_;refine aK (v:=.tuple #[.agg #[S [],S [],S [],S []],.int .i64 60]) (cJ (r1:=.cell 4 30) (r2:=.tmp 5) Z ?_ ?_) D Z;refine ah (t:=4) (cs:=[S [],S [],S [],S []]) (b:=kk.heap.size) (o:=0) bp Z bc ?_ ?_;exact Z;exact aa0 H (i:=0) Z;exact aE (t:=5) Ve _
def vo :
 CL 29 #[S x] w (aH w λv w'=>v=.agg #[S x,S [49]]):=by
 refine aC func29 Z (I ?_);refine al bi (λ_ G O=>?_);have D:=G.2;refine I ?_;refine SA O (λ_ E H=>?_);have D:=eK E D;have kk:=dX E;refine I ?_;refine aK (v:=.agg #[S x,S [49]]) (cn  rfl ?_) D Z;refine ah (t:=2) (cs:=[S x,S [49]]) (b:=w.heap.size) (o:=0) j8 Z dv ?_ ?_;exact Z;exact aa0 H (i:=0) Z
def vp :
 CL 28 #[.agg #[S x,S y]] w (aH w λv w'=>v=.tuple #[.agg #[S x,S y,S x,S y],.int .i64 0]):=by
 refine aC func28 Z (I ?_);refine bx (λkd W E=>?_);have D:=W.2;refine al aL (λ_ kk G=>?_);have⟨E,D⟩:=bn kk.2 E D;refine I ?_;refine ab (aS (vs:=[(0,.agg #[S x,S y]),(1,.agg #[S x,S y])]) (cells:=#[S x,S y,S x,S y]) (pl:=[(0,2),(2,2)]) bp aL nh Z nh ?_);refine SA G (λ_ O H=>?_);have⟨E,D,_⟩:=dE O E D;refine I ?_;refine aK (v:=.tuple #[.agg #[S x,S y,S x,S y],.int .i64 0]) (cJ (r1:=.cell 2 30) (r2:=.tmp 3) Z ?_ ?_) D Z;refine ah (t:=2) (cs:=[S x,S y,S x,S y]) (b:=kd.heap.size) (o:=0) bp Z bc ?_ ?_;exact Z;exact aa0 H (i:=0) Z;exact aE (t:=3) Ve _
def l7 {pl:Nat}(hp:pl<=12):
 CL 9 #[.agg #[S [49],S [50]],.int .i64 pl] w (aH w λv w'=>v=.tuple #[.agg #[S [48],S [49],S [48],S [49]],.int .i64 0]):=by
 refine aC func9 Z (I ?_);refine bx (λA1 kd E=>?_);have D:=kd.2;refine al aL (λ_ H G=>?_);have⟨E,D⟩:=bn H.2 E D;refine I ?_;refine clb uw (hc:=cB (j6 (x:=[49]) (y:=[50]) loneD uc D8 uc D9 Ea Eb nf wW nf dc dc) (BK hp)) (hk:=?_);rintro _ _ g rfl;have⟨E,G,D⟩:=aP g.2 E G D;refine I ?_;refine ab (uj (a:=[49]) (b:=[49]) (q:=true) Z Z (qa1 Z) ?_);refine I ?_;refine ab (uj (a:=[50]) (b:=[50]) (q:=true) Z Z (qa1 Z) ?_);refine I ?_;refine cl F9 vo ?_;rintro _ _ W rfl;have⟨E,G,D⟩:=aP W.2 E G D;refine cl F8 vp ?_;rintro _ _ kk rfl;have⟨E,G,D⟩:=aP kk.2 E G D;refine I ?_;refine SA G (λ_ O A2=>?_);have⟨E,D,_⟩:=dE O E D;refine I ?_;refine aK (v:=.tuple #[.agg #[S [48],S [49],S [48],S [49]],.int .i64 0]) (cJ (r1:=.cell 4 30) (r2:=.tmp 5) Z ?_ ?_) D Z;refine ah (t:=4) (cs:=[S [48],S [49],S [48],S [49]]) (b:=A1.heap.size) (o:=0) bp Z bc ?_ ?_;exact Z;exact aa0 A2 (i:=0) Z;exact aE (t:=5) Ve _
def pV {c:Nat->N2}{pl:Nat}{r:Int×Int}(ha:a<10^100)(hb:b<10^100)(hb0:0<b)(hp:pl<=12)(s1:(nS a).length<=1000000)(s2:(nS b).length<=1000000)(hc:∀m,m=15\/m=50->pU (10^m) (c m))(hgood:iY (nw (nS a,nS b)) (ao (nS a)) (ao (nS b)) 1 1000000 999999 1000000 (pl:Int)=true)(hne:¬((nS a,nS b):R)=([49],[50]))(hqn:sl (λm=>pG (xT c ((10^pl:Nat):Int) m) a b 2 15) 100 (-5*((10^pl:Nat):Int)) (5*((10^pl:Nat):Int))=some r):
 CL 9 #[.agg #[S (nS a),S (nS b)],.int .i64 pl] w (aH w λv w'=>v=.tuple #[IV r.1 ((10^pl:Nat):Int) r.2 ((10^pl:Nat):Int),.int .i64 0]):=by
 have Af:0<((10^pl:Nat):Int):=by have:=Nat.pow_pos (n:=pl) (show 0<10 by decide);omega
 have Ab:((10^pl:Nat):Int)<=1000000000000:=by have:(10:Nat)^pl<=10^12:=Nat.pow_le_pow_right dc hp;omega
 refine aC func9 Z (I ?_);refine bx (λAd MQ D=>?_);have kk:=MQ.2;refine al aL (λ_ D1 E=>?_);have⟨D,kk⟩:=bn D1.2 D kk;refine I ?_;refine cl uw (cB (j6 (x:=nS a) (y:=nS b) loneD uc D8 uc D9 Ea Eb nf wW nf s1 s2) hgood) ?_;rintro _ _ MV rfl;have⟨D,E,kk⟩:=aP MV.2 D E kk;refine I ?_;by_cases fx:(nS a)=([49]);have NW:¬nS b=[50]:=λe=>hne (by rw[fx,e]);refine I ?_;refine k0 (b:=[49]) (I ?_);refine k0 (b:=[50]) (I ?_);refine clb c7 (hc:=bA (pl:=pl) U) (hk:=?_);rintro _ _ NP rfl;have⟨D,E,kk⟩:=aP NP.2 D E kk;refine clb fk (hc:=j5 wM (show nS (10^pl)=aa ((10^pl:Nat):Int)from rfl) DO (ar U) (ar U)) (hk:=?_);rintro _ _ NJ rfl;have⟨D,E,kk⟩:=aP NJ.2 D E kk;refine I ?_;refine clb c7 (hc:=bA (pl:=pl) U) (hk:=?_);rintro _ _ M6 rfl;have⟨D,E,kk⟩:=aP M6.2 D E kk;refine clb fk (hc:=j5 DK (show nS (10^pl)=aa ((10^pl:Nat):Int)from rfl) KA (ar U) (ar U)) (hk:=?_);rintro _ Ay Ao rfl;have D:=be Ao.2 D;have E:=be Ao.2 E
 have kk:=xt kk Ao.2;refine I ?_;refine cM [(5,12),(42,70)] (λAq e W=>∃A2:Nat,∃O:Int,∃hi:Int,(A2=Aq)/\(e 6=S (aa O))/\(e 7=S (aa hi))/\(sl (λm=>pG (xT c ((10^pl:Nat):Int) m) a b 2 15) A2 O hi=some r)/\(-5000000000000<=O/\O<=5000000000000)/\(-5000000000000<=hi/\hi<=5000000000000)/\(Ay.heap.size<=W.heap.size)/\(a8 w W)/\(ae W w.heap.size 23 #[S (nS a),S (nS b)])/\(ae W Ad.heap.size 30 #[S [],S [],S [],S []])) (100) ⟨100,(-5*((10^pl:Nat):Int)),(5*((10^pl:Nat):Int)),rfl,rfl,rfl,hqn,U,U,(qa0 _),kk,D,E⟩ ?_;rintro _ _ _ ⟨A2,O,hi,rfl,N4,B2,hq,MB,E1,Nc,G,D,E⟩;have Nb:=bz G;by_cases hl:1<hi-O;obtain⟨g,rfl,x,hu,Ap,Am⟩:=HX hq hl;by_cases hx:x=true;subst hx;refine I ?_;refine clb jJ (hc:=gp Z Z (ar U) (ar U) (ar U)) (hk:=?_);rintro _ _ MJ rfl;have⟨D,E,G⟩:=aP MJ.2 D E G;refine clb jE (hc:=gV Z g8 (ar U) nu) (hk:=?_);rintro _ _ MA rfl;have⟨D,E,G⟩:=aP MA.2 D E G;have NT:=ek hl;refine I ?_;refine clb gx (hc:=j4 Z Z (ar U) (ar U) (ar U)) (hk:=?_);rintro _ _ M7 rfl;have⟨D,E,G⟩:=aP M7.2 D E G;refine clb fo (hc:=lX Z jl (ar U) tQ dc) (hk:=?_);rintro _ _ ML rfl;have⟨D,E,G⟩:=aP ML.2 D E G;refine I ?_
 refine clb c7 (hc:=bA (pl:=pl) U) (hk:=?_);rintro _ _ NM rfl;have⟨D,E,G⟩:=aP NM.2 D E G;refine clb su (hc:=Fv Z (show nS (10^pl)=aa ((10^pl:Nat):Int)from rfl) (ar U) (ar U) U) (hk:=?_);rintro _ _ ND rfl;have⟨D,E,G⟩:=aP ND.2 D E G;refine I ?_;refine al bi (λ_ MR N7=>?_);have⟨D,E,G⟩:=aP MR.2 D E G;refine SA N7 (λ_ NN _=>?_);have⟨D,E,G,_⟩:=fq NN D E G;refine I ?_;refine clb rb (hc:=l6 Af Ab U ha hb hb0 hc hu) (hk:=?_);rintro _ _ Mz rfl;have⟨D,E,G⟩:=aP Mz.2 D E G;refine I ?_;exact bQ ⟨g,(O+hi)/2,hi,rfl,rfl,B2,(Ap Z),U,U,U,G,D,E⟩;obtain rfl:x=false:=by revert hx;cases x;exact λ_=>rfl;exact λh=>absurd Z h
 refine I ?_;refine clb jJ (hc:=gp Z Z (ar U) (ar U) (ar U)) (hk:=?_);rintro _ _ D2 rfl;have⟨D,E,G⟩:=aP D2.2 D E G;refine clb jE (hc:=gV Z g8 (ar U) nu) (hk:=?_);rintro _ _ M5 rfl;have⟨D,E,G⟩:=aP M5.2 D E G;have NY:=ek hl;refine I ?_;refine clb gx (hc:=j4 Z Z (ar U) (ar U) (ar U)) (hk:=?_);rintro _ _ N1 rfl;have⟨D,E,G⟩:=aP N1.2 D E G;refine clb fo (hc:=lX Z jl (ar U) tQ dc) (hk:=?_);rintro _ _ N6 rfl;have⟨D,E,G⟩:=aP N6.2 D E G;refine I ?_;refine clb c7 (hc:=bA (pl:=pl) U) (hk:=?_);rintro _ _ L2 rfl;have⟨D,E,G⟩:=aP L2.2 D E G;refine clb su (hc:=Fv Z (show nS (10^pl)=aa ((10^pl:Nat):Int)from rfl) (ar U) (ar U) U) (hk:=?_);rintro _ _ Ax rfl;have⟨D,E,G⟩:=aP Ax.2 D E G;refine I ?_;refine al bi (λ_ E7 MX=>?_);have⟨D,E,G⟩:=aP E7.2 D E G;refine SA MX (λ_ NL _=>?_);have⟨D,E,G,_⟩:=fq NL D E G;refine I ?_;refine clb rb (hc:=l6 Af Ab U ha hb hb0 hc hu) (hk:=?_);rintro _ _ ny rfl;have⟨D,E,G⟩:=aP ny.2 D E G;refine I ?_;exact bQ ⟨g,O,(O+hi)/2,rfl,N4,rfl,(Am Z),U,U,U,G,D,E⟩;obtain rfl:=(HY hq hl).symm;refine I ?_;refine clb jJ (hc:=gp Z Z (ar U) (ar U) (ar U)) (hk:=?_)
 rintro _ _ MP rfl;have⟨D,E,G⟩:=aP MP.2 D E G;refine clb jE (hc:=gV Z g8 (ar U) nu) (hk:=?_);rintro _ _ NQ rfl;have⟨D,E,G⟩:=aP NQ.2 D E G;have Ne:=lW hl;refine I ?_;refine clb c7 (hc:=bA (pl:=pl) U) (hk:=?_);rintro _ _ N9 rfl;have⟨D,E,G⟩:=aP N9.2 D E G;refine clb su (hc:=Fv Z (show nS (10^pl)=aa ((10^pl:Nat):Int)from rfl) (ar U) (ar U) U) (hk:=?_);rintro _ _ NH rfl;have⟨D,E,G⟩:=aP NH.2 D E G;refine I ?_;refine al bi (λ_ M8 M1=>?_);have⟨D,E,G⟩:=aP M8.2 D E G;refine SA M1 (λ_ od kd=>?_);have⟨D,E,G,_⟩:=fq od D E G;refine I ?_;refine clb c7 (hc:=bA (pl:=pl) U) (hk:=?_);rintro _ _ M9 rfl;have⟨D,E,kd,G⟩:=br M9.2 D E kd G;refine clb su (hc:=Fv Z (show nS (10^pl)=aa ((10^pl:Nat):Int)from rfl) (ar U) (ar U) U) (hk:=?_);rintro _ _ Kp rfl;have⟨D,E,kd,G⟩:=br Kp.2 D E kd G;refine I ?_;refine al bi (λ_ M2 MD=>?_);have⟨D,E,kd,G⟩:=br M2.2 D E kd G;refine SA MD (λ_ MO As=>?_);have⟨D,E,kd,G,_⟩:=fL MO D E kd G;refine I ?_
 refine ab (aS (vs:=[(0,QV O ((10^pl:Nat):Int)),(1,QV hi ((10^pl:Nat):Int))]) (cells:=#[S ((qR O ((10^pl:Nat):Int)).1),S ((qR O ((10^pl:Nat):Int)).2),S ((qR hi ((10^pl:Nat):Int)).1),S ((qR hi ((10^pl:Nat):Int)).2)]) (pl:=[(0,2),(2,2)]) bp aL nh Z nh ?_);refine SA E (λ_ NS M3=>?_);have⟨D,kd,As,G,_⟩:=fL NS D kd As G;refine I ?_;refine aK (v:=.tuple #[IV O ((10^pl:Nat):Int) hi ((10^pl:Nat):Int),.int .i64 0]) (cJ (r1:=.cell 4 30) (r2:=.tmp 5) Z ?_ ?_) G Z;refine ah (t:=4) (cs:=[S ((qR O ((10^pl:Nat):Int)).1),S ((qR O ((10^pl:Nat):Int)).2),S ((qR hi ((10^pl:Nat):Int)).1),S ((qR hi ((10^pl:Nat):Int)).2)]) (b:=Ad.heap.size) (o:=0) bp Z bc ?_ ?_;exact Z;exact aa0 M3 (i:=0) Z;exact aE (t:=5) Ve _;refine I ?_;refine k0 (b:=[49]) (I ?_);refine clb c7 (hc:=bA (pl:=pl) U) (hk:=?_);rintro _ _ NK rfl;have⟨D,E,kk⟩:=aP NK.2 D E kk;refine clb fk (hc:=j5 wM (show nS (10^pl)=aa ((10^pl:Nat):Int)from rfl) DO (ar U) (ar U)) (hk:=?_);rintro _ _ E4 rfl;have⟨D,E,kk⟩:=aP E4.2 D E kk;refine I ?_;refine clb c7 (hc:=bA (pl:=pl) U) (hk:=?_);rintro _ _ MU rfl;have⟨D,E,kk⟩:=aP MU.2 D E kk
 refine clb fk (hc:=j5 DK (show nS (10^pl)=aa ((10^pl:Nat):Int)from rfl) KA (ar U) (ar U)) (hk:=?_);rintro _ MS MI rfl;have⟨D,E,kk⟩:=aP MI.2 D E kk;refine I ?_;refine cM [(5,12),(42,70)] (λAq e W=>∃A2:Nat,∃O:Int,∃hi:Int,(A2=Aq)/\(e 6=S (aa O))/\(e 7=S (aa hi))/\(sl (λm=>pG (xT c ((10^pl:Nat):Int) m) a b 2 15) A2 O hi=some r)/\(-5000000000000<=O/\O<=5000000000000)/\(-5000000000000<=hi/\hi<=5000000000000)/\(MS.heap.size<=W.heap.size)/\(a8 w W)/\(ae W w.heap.size 23 #[S (nS a),S (nS b)])/\(ae W Ad.heap.size 30 #[S [],S [],S [],S []])) (100) ⟨100,(-5*((10^pl:Nat):Int)),(5*((10^pl:Nat):Int)),rfl,rfl,rfl,hqn,U,U,(qa0 _),kk,D,E⟩ ?_;rintro _ _ _ ⟨A2,O,hi,rfl,M4,MC,hq,MB,E1,NU,H,D,E⟩;have Na:=bz H;by_cases hl:1<hi-O;obtain⟨g,rfl,x,hu,Ap,Am⟩:=HX hq hl;by_cases hx:x=true;subst hx;refine I ?_;refine clb jJ (hc:=gp Z Z (ar U) (ar U) (ar U)) (hk:=?_);rintro _ _ NR rfl;have⟨D,E,H⟩:=aP NR.2 D E H;refine clb jE (hc:=gV Z g8 (ar U) nu) (hk:=?_);rintro _ _ B1 rfl;have⟨D,E,H⟩:=aP B1.2 D E H;have NZ:=ek hl;refine I ?_;refine clb gx (hc:=j4 Z Z (ar U) (ar U) (ar U)) (hk:=?_);rintro _ _ NI rfl
 have⟨D,E,H⟩:=aP NI.2 D E H;refine clb fo (hc:=lX Z jl (ar U) tQ dc) (hk:=?_);rintro _ _ K2 rfl;have⟨D,E,H⟩:=aP K2.2 D E H;refine I ?_;refine clb c7 (hc:=bA (pl:=pl) U) (hk:=?_);rintro _ _ Aw rfl;have⟨D,E,H⟩:=aP Aw.2 D E H;refine clb su (hc:=Fv Z (show nS (10^pl)=aa ((10^pl:Nat):Int)from rfl) (ar U) (ar U) U) (hk:=?_);rintro _ _ NG rfl;have⟨D,E,H⟩:=aP NG.2 D E H;refine I ?_;refine al bi (λ_ MH NA=>?_);have⟨D,E,H⟩:=aP MH.2 D E H;refine SA NA (λ_ MG _=>?_);have⟨D,E,H,_⟩:=fq MG D E H;refine I ?_;refine clb rb (hc:=l6 Af Ab U ha hb hb0 hc hu) (hk:=?_);rintro _ _ NB rfl;have⟨D,E,H⟩:=aP NB.2 D E H;refine I ?_;exact bQ ⟨g,(O+hi)/2,hi,rfl,rfl,MC,(Ap Z),U,U,U,H,D,E⟩;obtain rfl:x=false:=by revert hx;cases x;exact λ_=>rfl;exact λh=>absurd Z h
 refine I ?_;refine clb jJ (hc:=gp Z Z (ar U) (ar U) (ar U)) (hk:=?_);rintro _ _ N0 rfl;have⟨D,E,H⟩:=aP N0.2 D E H;refine clb jE (hc:=gV Z g8 (ar U) nu) (hk:=?_);rintro _ _ M0 rfl;have⟨D,E,H⟩:=aP M0.2 D E H;have NX:=ek hl;refine I ?_;refine clb gx (hc:=j4 Z Z (ar U) (ar U) (ar U)) (hk:=?_);rintro _ _ NE rfl;have⟨D,E,H⟩:=aP NE.2 D E H;refine clb fo (hc:=lX Z jl (ar U) tQ dc) (hk:=?_);rintro _ _ Jx rfl;have⟨D,E,H⟩:=aP Jx.2 D E H;refine I ?_;refine clb c7 (hc:=bA (pl:=pl) U) (hk:=?_);rintro _ _ MM rfl;have⟨D,E,H⟩:=aP MM.2 D E H;refine clb su (hc:=Fv Z (show nS (10^pl)=aa ((10^pl:Nat):Int)from rfl) (ar U) (ar U) U) (hk:=?_);rintro _ _ MY rfl;have⟨D,E,H⟩:=aP MY.2 D E H;refine I ?_;refine al bi (λ_ N8 NO=>?_);have⟨D,E,H⟩:=aP N8.2 D E H;refine SA NO (λ_ wr _=>?_);have⟨D,E,H,_⟩:=fq wr D E H;refine I ?_;refine clb rb (hc:=l6 Af Ab U ha hb hb0 hc hu) (hk:=?_);rintro _ _ E9 rfl;have⟨D,E,H⟩:=aP E9.2 D E H;refine I ?_;exact bQ ⟨g,O,(O+hi)/2,rfl,M4,rfl,(Am Z),U,U,U,H,D,E⟩;obtain rfl:=(HY hq hl).symm;refine I ?_;refine clb jJ (hc:=gp Z Z (ar U) (ar U) (ar U)) (hk:=?_)
 rintro _ _ NC rfl;have⟨D,E,H⟩:=aP NC.2 D E H;refine clb jE (hc:=gV Z g8 (ar U) nu) (hk:=?_);rintro _ _ N3 rfl;have⟨D,E,H⟩:=aP N3.2 D E H;have NV:=lW hl;refine I ?_;refine clb c7 (hc:=bA (pl:=pl) U) (hk:=?_);rintro _ _ MW rfl;have⟨D,E,H⟩:=aP MW.2 D E H;refine clb su (hc:=Fv Z (show nS (10^pl)=aa ((10^pl:Nat):Int)from rfl) (ar U) (ar U) U) (hk:=?_);rintro _ _ MZ rfl;have⟨D,E,H⟩:=aP MZ.2 D E H;refine I ?_;refine al bi (λ_ Av ME=>?_);have⟨D,E,H⟩:=aP Av.2 D E H;refine SA ME (λ_ My A1=>?_);have⟨D,E,H,_⟩:=fq My D E H;refine I ?_;refine clb c7 (hc:=bA (pl:=pl) U) (hk:=?_);rintro _ _ EW rfl;have⟨D,E,A1,H⟩:=br EW.2 D E A1 H;refine clb su (hc:=Fv Z (show nS (10^pl)=aa ((10^pl:Nat):Int)from rfl) (ar U) (ar U) U) (hk:=?_);rintro _ _ MN rfl;have⟨D,E,A1,H⟩:=br MN.2 D E A1 H;refine I ?_;refine al bi (λ_ Ix MF=>?_);have⟨D,E,A1,H⟩:=br Ix.2 D E A1 H;refine SA MF (λ_ N5 Ar=>?_);have⟨D,E,A1,H,_⟩:=fL N5 D E A1 H;refine I ?_
 refine ab (aS (vs:=[(0,QV O ((10^pl:Nat):Int)),(1,QV hi ((10^pl:Nat):Int))]) (cells:=#[S ((qR O ((10^pl:Nat):Int)).1),S ((qR O ((10^pl:Nat):Int)).2),S ((qR hi ((10^pl:Nat):Int)).1),S ((qR hi ((10^pl:Nat):Int)).2)]) (pl:=[(0,2),(2,2)]) bp aL nh Z nh ?_);refine SA E (λ_ NF MK=>?_);have⟨D,A1,Ar,H,_⟩:=fL NF D A1 Ar H;refine I ?_;refine aK (v:=.tuple #[IV O ((10^pl:Nat):Int) hi ((10^pl:Nat):Int),.int .i64 0]) (cJ (r1:=.cell 4 30) (r2:=.tmp 5) Z ?_ ?_) H Z;refine ah (t:=4) (cs:=[S ((qR O ((10^pl:Nat):Int)).1),S ((qR O ((10^pl:Nat):Int)).2),S ((qR hi ((10^pl:Nat):Int)).1),S ((qR hi ((10^pl:Nat):Int)).2)]) (b:=Ad.heap.size) (o:=0) bp Z bc ?_ ?_;exact Z;exact aa0 MK (i:=0) Z;exact aE (t:=5) Ve _
end Go.Proofs.YtgcfffdpcefifaaGreatDoor
namespace Go.Eng
open Go Go.RowKit
variable {l:List Oper}{d i a s ty b:Nat}{ls:Nat->Bool}{e:Nat->Value}{w w':World}
def r9:List (Option (Nat×Value))->Nat->Option (Option (Nat×Value))
 |[],_=>none
 |x::_,0=>some x
 |_::l,i+1=>r9 l i
def VL (L:List (Option (Nat×Value)))(ls:Nat->Bool)(e:Nat->Value):Prop:=∀i d v,r9 L i=some (some (d,v))->ls i=true->e d=v
def Kk:Option Nat->Nat->Bool
 |none,_=>false
 |some a,b=>Nat.beq a b
def H2:List Oper->Bool
 |[]=>true
 |o::l=>(match o.dst with|none=>true|some d=>l.all λp=>!Kk p.dst d)&&H2 l
def Ia:List Oper->List (Option (Nat×Value))->Bool
 |_,[]=>true
 |[],_::_=>false
 |o::os,x::xs=>(match x with|none=>true|some y=>Kk o.dst y.1)&&Ia os xs
def Mh (D:List Nat)(l:List Oper):Bool:=l.all λo=>match o.dst with|none=>true|some d=>pY D d
def sd {o:Option Nat}:Kk o d=true↔o=some d:=by
 cases o with
 |none=>simp[Kk]
 |some a=>simp only[Kk,Option.some.injEq];exact⟨qb3,λh=>by subst h;simp⟩
def wX:∀{l:List Oper} {i j d:Nat} {o p:Oper},H2 l=true->l[i]?=some o->l[j]?=some p->o.dst=some d->p.dst=some d->i=j
 |[],i,_,_,_,_,_,h,_,_,_=>by simp at h
 |q::l,0,0,_,_,_,_,_,_,_,_=>rfl
 | q::l,0,j+1,d,o,p,h,ho,hp,hd,he=>by
   simp at ho;subst ho
   simp only[H2,hd,Bool.and_eq_true]at h
   have:=List.all_eq_true.1 h.1 p (qa9 (by simpa using hp))
   rw[sd.2 he]at this;cases this
 | q::l,i+1,0,d,o,p,h,ho,hp,hd,he=>by
   simp at hp;subst hp
   simp only[H2,he,Bool.and_eq_true]at h
   have:=List.all_eq_true.1 h.1 o (qa9 VG)
   rw[sd.2 hd]at this;cases this
 | q::l,i+1,j+1,d,o,p,h,ho,hp,hd,he=>by
   simp only[H2,Bool.and_eq_true]at h
   have e:=wX h.2 VG (by simpa using hp) hd he
   omega
def se:∀{l:List Oper} {L:List (Option (Nat×Value))} {i d:Nat} {v:Value},Ia l L=true->r9 L i=some (some (d,v))->∃o,l[i]?=some o/\o.dst=some d
 |_,[],i,_,_,_,h=>by cases i <;>cases h
 |[],_::_,_,_,_,h,_=>by cases h
 | o::os,x::xs,0,d,v,h,hx=>by
   cases hx
   simp only[Ia,Bool.and_eq_true]at h
   exact⟨o,rfl,sd.1 h.1⟩
 | o::os,x::xs,i+1,d,v,h,hx=>by
   simp only[Ia,Bool.and_eq_true]at h
   obtain⟨p,h1,h2⟩:=se h.2 (show r9 xs i=_ from hx)
   exact⟨p,by simpa using h1,h2⟩
section draws
variable {P:Program}{r:Option Nat}{n N:Nat}{e0:Nat->Value}{ds:List Deferred}{w0:World}{Q:Exit->Act->World->Prop}{M:Nat}
def Kl (N:Nat)(ds:List Deferred)(X:(Nat->Bool)->(Nat->Value)->World->Prop)(L:List (Option (Nat×Value)))(ls:Nat->Bool)(e:Nat->Value)(i:Nat)(dst:Option Nat):Exit->Act->World->Prop:=
 λx a' w'=>x=.normal/\∃v,a'=(act N e ds).put dst v/\(∀d u,r9 L i=some (some (d,u))->v=u)/\X (gH ls i) (jw e dst v) w'
def LP (r:Option Nat)(n:Nat)(P:Program)(N:Nat)(ds:List Deferred)(l:List Oper)(D:List Nat)(L:List (Option (Nat×Value)))(X:(Nat->Bool)->(Nat->Value)->World->Prop)(e0:Nat->Value):Nat->List Oper->Prop
 |_,[]=>True
 |i,o::os=>(∀(e:Nat->Value) (w:World) (ls:Nat->Bool),(∀t,pY D t=false->e t=e0 t)->(∀k d v,r9 L k=some (some (d,v))->ck l i k=true->e d=v)->X ls e w->(∀j k,ck l j k=true->ls j=true->ls k=true)->ls i=false->(∀k,ck l i k=true->ls k=true)->
  wpListIn (Fw r) n P l.toArray (Kl N ds X L ls e i o.dst) [o] (act N e ds) w)/\LP r n P N ds l D L X e0 (i+1) os
def wY {D:List Nat}{L:List (Option (Nat×Value))}{X:(Nat->Bool)->(Nat->Value)->World->Prop}(hnd:H2 (l.take M)=true)(hmt:Ia (l.take M) L=true)(hD:Mh D (l.take M)=true):
 ∀(os:List Oper) (i0:Nat),(∀k,os[k]?=(l.take M)[i0+k]?)->LP r n P N ds l D L X e0 i0 os->
 oL r n P N ds l (λls e w=>(∀t,pY D t=false->e t=e0 t)/\VL L ls e/\X ls e w) i0 os
 |[],_,_,_=>trivial
 | o ::os,i0,hk,h=>by
   refine⟨λe w ls hJ hcl hni hpr=>?_,wY hnd hmt hD os (i0+1) (λk=>by rw[show i0+1+k=i0+(k+1)by omega,<-hk (k+1)];rfl) h.2⟩
   obtain⟨hs,hv,hX⟩:=hJ
   have ho:(l.take M)[i0]?=some o:=by have:=hk 0;simpa using this.symm
   have hstep:=h.1 e w ls hs (λk d v hl g=>hv k d v hl (hpr k g)) hX hcl hni hpr
   refine oK (K1:=λW w'=>∃v,W=(act N e ds).put o.dst v/\(∀d u,r9 L i0=some (some (d,u))->v=u)/\X (gH ls i0) (jw e o.dst v) w') hstep (λW w' hE=>?_)
   obtain⟨v,ha,A1,hX'⟩:=hE
   refine⟨v,ha,?_,?_,hX'⟩
   · cases hd:o.dst with
     |none=>exact hs
     | some d=>
       refine ap ?_ hs
       have:=List.all_eq_true.1 hD o (qa9 ho)
       rw[hd]at this;exact this
   · intro j E G H hl
     by_cases hji:j=i0
     · subst hji
       obtain⟨p,O,kk⟩:=se hmt H
       rw[ho]at O
       cases O
       rw[kk]
       show upd e E v E=G
       rw[qU];exact A1 E G H
     · have hl':ls j=true:=by
        have hb:Nat.beq j i0=false:=by
         cases hb:Nat.beq j i0 with
         |false=>rfl
         |true=>exact absurd (qb3 hb) hji
        unfold gH at hl;rw[hb]at hl;exact hl
       have kd:=hv j E G H hl'
       cases hd:o.dst with
       |none=>exact kd
       | some d=>
         show upd e d v E=G
         obtain⟨p,O,kk⟩:=se hmt H
         rw[upd_ne _ _ (λhh:E=d=>hji (wX hnd O ho (by rw[kk,hh]) hd))]
         exact kd
def LQ {id:Nat}(hm:P.follows .mixedOrders=true)(M:Nat)(D:List Nat)(L:List (Option (Nat×Value)))(X:(Nat->Bool)->(Nat->Value)->World->Prop)(h0:X (λ_=>false) e0 w0.drew)(hwf:El l=true)(hshape:it l M=true)(hchk:(H2 (l.take M)&&(Ia (l.take M) L&&Mh D (l.take M)))=true)(hstep:LP r n P N ds l D L X e0 0 (l.take M))(hfin:∀(e:Nat->Value) (w:World) (ls:Nat->Bool),(∀j,Nat.blt j M=true->ls j=true)->(∀t,pY D t=false->e t=e0 t)->(∀k d v,r9 L k=some (some (d,v))->Nat.blt k M=true->e d=v)->X ls e w->wpListIn (Fw r) n P l.toArray Q (l.drop M) (act N e ds) w):
 (Code.region id l.toArray true).wpIn (Fw r) n P Q (act N e0 ds) w0:=by
 simp only[Bool.and_eq_true]at hchk
 refine kA hm M (λe0 ls e w=>(∀t,pY D t=false->e t=e0 t)/\VL L ls e/\X ls e w) ⟨λ_ _=>rfl,(λ_ _ _ _ h=>by cases h),h0⟩ hwf hshape (wY hchk.1 hchk.2.1 hchk.2.2 _ 0 (λk=>by rw[Nat.zero_add]) hstep) ?_
 intro e w ls E hJ
 exact hfin e w ls E hJ.1 (λk d v hl hk=>hJ.2.1 k d v hl (E k hk)) hJ.2.2
def XE (w0:World)(_:Nat->Bool)(_:Nat->Value)(w:World):Prop:=a8 w0 w
def wZ {L:List (Option (Nat×Value))}{v:Value}(hl:r9 L i=some (some (d,v)))(hX:XE w0 ls e w)(k:a8 w w'):Kl N ds (XE w0) L ls e i (some d) .normal (act N (upd e d v) ds) w':=
 ⟨rfl,v,(ai ..).symm,(λ_ _ h=>by rw[hl]at h;cases h;rfl),a8.trans hX k⟩
def XA (w0:World)(a s d ty:Nat)(z v:Array Value)(ls:Nat->Bool)(e:Nat->Value)(w:World):Prop:=
 a8 w0 w/\(ls a=true->∃b,e d=.pointer (some ⟨b,0,none⟩)/\w0.heap.size<=b/\ae w b ty (match ls s with|true=>v|false=>z))
def XA.start {z v:Array Value}:XA w0 a s d ty z v (λ_=>false) e0 w0.drew:=⟨ab1 w0,λh=>by cases h⟩
def XA.fin {z v:Array Value}(h:XA w0 a s d ty z v ls e w)(ha:ls a=true)(hs:ls s=true\/z=v):∃b,e d=.pointer (some ⟨b,0,none⟩)/\w0.heap.size<=b/\ae w b ty v:=by
 obtain⟨b,h1,E,D⟩:=h.2 ha
 rcases hs with hs|hs
 · rw[hs]at D;exact⟨b,h1,E,D⟩
 · subst hs;refine⟨b,h1,E,?_⟩;cases hh:ls s <;>rw[hh]at D <;>exact D
def XW (w0:World)(b s ty:Nat)(z v:Array Value)(ls:Nat->Bool)(_:Nat->Value)(w:World):Prop:=
 w0.grownBy w (some b)/\ae w b ty (match ls s with|true=>v|false=>z)
def XW.start {z v:Array Value}(h:ae w0 b ty z):XW w0 b s ty z v (λ_=>false) e0 w0.drew:=⟨jO (World.grownBy.refl w0 _) (ab1 w0),ae.ext (ab1 w0) h⟩
def XW.fin {z v:Array Value}(h:XW w0 b s ty z v ls e w)(hs:ls s=true):ae w b ty v:=by
 have D:=h.2
 rw[hs]at D;exact D
def XH (Rel:World->Prop)(n0 a d ty:Nat)(z:Array Value)(ls:Nat->Bool)(e:Nat->Value)(w:World):Prop:=
 Rel w/\n0<=w.heap.size/\(ls a=true->∃b,e d=.pointer (some ⟨b,0,none⟩)/\n0<=b/\ae w b ty z)
def XH.start {Rel:World->Prop}{z:Array Value}(h:Rel w0.drew):XH Rel w0.heap.size a d ty z (λ_=>false) e0 w0.drew:=⟨h,Below.size (ab1 w0),λh=>by cases h⟩
end draws
end Go.Eng
namespace Go.Proofs.YtgcfffdpcefifaaGreatDoor
open Go Go.Eng Go.RowKit Proofs.Tryz
section
variable {P:Program}{r:Option Nat}{n:Nat}{Q:Exit->Act->World->Prop}{a:Act}{w:World}{c:Code}
def LR (m:Nat)(h:c.wpIn (Fw r) n P (Exit.then (Code.roundsIn (Fw r) n P c Q m) Q) a w):(Code.loop c).wpIn (Fw r) n P Q a w:=wpIn_loop_rounds (m+1) h
def Km {m:Nat}(h:c.wpIn (Fw r) n P (Exit.then (Code.roundsIn (Fw r) n P c Q m) Q) a w):Code.roundsIn (Fw r) n P c Q (m+1) a w:=h
end
section
variable {P:Program}{r:Option Nat}{n N:Nat}{e:Nat->Value}{ds:List Deferred}{w:World}{Q:Exit->Act->World->Prop}{K:Act->World->Prop}{t ty d:Nat}{pos:String}{af:Array Edge}{g:Option (Nat×Bool)}{x y:Operand}
def Kn {el:TypeId}{z:Value}{size bytes m:Nat}{parts:Array (Nat×Operand)}{vs:List (Nat×Value)}{cells:Array Value}(hu:P.underlying t=some (.slice el))(hi:gW P el z size bytes)(hp:(parts.toList.map fun(i,x)=>(i,ev N e x))=vs)(h24:m*size<=16777216)(hm:0<m*size)(hf:Instr.fill (λi=>some (i*size,size)) ((Array.range (m*size)).map (z.cells[· %z.cells.size]!)) vs=some cells)(hk:∀w',(w'.heap.size=w.heap.size+1/\a8 w w')->ae w' w.heap.size el cells->K (act N (upd e d (.slice (some ⟨w.heap.size,0,none⟩) m m)) ds) w'):
 Oper.wpIn (Fw r) n P ⟨some d,.buildSlice t m parts,ty,pos,af,g⟩ (act N e ds) w K Q:=by
 obtain⟨i,E,G,H,_⟩:=hi.parts
 subst H
 refine cX (v:=.slice (some ⟨w.heap.size,0,none⟩) m m) (w':=w.alloc (.cells cells el)) Z ?_ (by
  rw[ai]
  exact hk _ ⟨by simp,a8.alloc _ _⟩ (heap_alloc_new w _))
 have hp':(parts.map fun(i,x)=>(i,ev N e x)).toList=vs:=by rw[<-hp];simp
 subst hp'
 have D:¬m*i.size>2^24:=J
 have O:¬(m*i.size=0):=J
 simp only[execOp,Instr.buildSlice,Sem.run_bind,run_underlying hu,Result.andThen_ok,sizeOf,typeInfo,run_program,E,Sem.run_pure,zeroValue,G,D,if_false,O,hf,newRow,run_newObj,World.alloc_eq]
end
end Go.Proofs.YtgcfffdpcefifaaGreatDoor
