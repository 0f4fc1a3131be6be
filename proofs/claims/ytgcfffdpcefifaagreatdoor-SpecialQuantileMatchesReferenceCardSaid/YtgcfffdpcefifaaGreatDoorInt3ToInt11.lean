/- Part of the proof of a statement about special functions. -/
import Derived.Test.YtgcfffdpcefifaaGreatDoorEngGToInt2
import Derived.WalkSmall
import Derived.Lib.Atoi
set_option linter.all false
namespace Go.Proofs.YtgcfffdpcefifaaGreatDoor
variable {k n c b lo:Nat}{A:Option Addr}
set_option maxRecDepth 100000
open Go Go.Eng Go.RowKit Tryz
attribute [local irreducible] wpListIn Code.wpIn Oper.wpIn Exit.then Exit.inBlock Exit.noGoto
set_option maxHeartbeats 40000000
def qk {l:List {i:Nat // i<n}}{hk:k-1<n}(h:0<k)(hl:l.map (·.1)++(List.range k).reverse=(List.range n).reverse):(l++[(⟨k-1,hk⟩:{i:Nat // i<n})]).map (·.1)++(List.range (k-1)).reverse=(List.range n).reverse:=by
 rw[<-hl]
 obtain⟨j,rfl⟩:∃j,k=j+1:=⟨k-1,by omega⟩
 simp[List.range_succ]
def ie {w:World}:
 CL 111 #[.slice A n c] w (aH w λv w'=>v=.func (.func 160) #[] #[pT w.heap.size]/\ae w' w.heap.size 76 #[.slice A n c]):=by
 refine aC func111 Z (I ?_);refine bx (λ_ D E=>?_);have E4:=D.2;refine ab (bJ (v:=.nilFunc) Z ?_);refine I ?_;refine ab (bE (vf:=[]) (vc:=[pT w.heap.size]) Z Z ?_);refine I ?_;exact an (t:=2) (v:=.func (.func 160) #[] #[pT w.heap.size]) Z E4 ⟨rfl,E⟩ Z
def fY {xs:List Nat}{w:World}(hb:ae w b 76 #[.slice A n c])(hr:Rw w lo A (ints xs))(hn:xs.length=n)(hm:n<=1000000):
 EB prog 160 [pT b] n (λi=>[.int .i64 i,.int .i64 ((xs.getD i 0:Nat):Int)]) (List.range n).reverse (λW=>ae W b 76 #[.slice A n c]/\Rw W lo A (ints xs)) w:=by
 intro l k3 Jx W hW hJ0 hJx0 hY kd;have hb:=be hW hb;have hr:=Rw.ext hW hr;clear hW hJ0 hJx0;refine qe ?_;refine EC func160 Z (I ?_);refine oO (I ?_);refine cM [(3,3),(7,18)] (λO e W=>∃k:Nat,∃pre:List {i:Nat // i<n},(k=O)/\(e 3=.int .i64 ((k:Int)-1))/\(k<=n)/\(pre.map (·.1)++(List.range k).reverse=(List.range n).reverse)/\(k3 pre W)/\(True)/\(ae W b 76 #[.slice A n c])/\(Rw W lo A (ints xs))) (n) ⟨n,[],rfl,rfl,(qa0 _),Vk,kd,trivial,hb,hr⟩ ?_;rintro _ _ H ⟨k,pre,rfl,A1,A2,D,q3,E9,hb,hr⟩;by_cases hm:0<k;refine I ?_;obtain⟨_,o,hA,hc⟩:=hr.cells (k-1) _ (aO (xs:=xs) U);refine ab (am (i:=k-1) (oo:=o+(k-1)) fj eN Z hA (bR Z U) U U ?_);refine ab (aT (v:=.int .i64 ((xs.getD (k-1) 0:Nat):Int)) U3 Z Z hc ?_);refine ab (vD (l:=l) (vs:=[.int .i64 ((k-1:Nat):Int),.int .i64 ((xs.getD (k-1) 0:Nat):Int)]) Z (aA (bR Z U) (aA Z Z)) (hY pre ⟨k-1,by omega⟩ H q3 (by have hl:=qb1 List.length D;simp at hl;omega)) ?_);rintro _ _ g;obtain⟨q,rfl,kk,G⟩:=mR g;show wpListIn _ _ _ _ _ _ _ _;refine I ?_;refine qX (q:=!q) Z (λE=>?_) (λE=>?_);have hq:q=false:=by simpa using E
 refine I ?_;exact B6 Z λv=>⟨⟨v,rfl⟩,.inr ⟨_,⟨_,qk hm D⟩,G hq⟩⟩;have hq:q=true:=by simpa using E
 obtain⟨hJ,hK⟩:=kk hq;obtain⟨hb,hr⟩:=hK ⟨hb,hr⟩;refine I ?_;refine ab (fg (a:=(k:Int)-1) (b:=1) (c:=((k-1:Nat):Int)-1) Z Z JT U ?_);refine I ?_;exact bQ ⟨k-1,pre++[⟨k-1,by omega⟩],rfl,rfl,U,(qk hm D),hJ,E9,hb,hr⟩;refine I ?_;exact vE Z λv=>⟨⟨v,rfl⟩,.inl ⟨pre,by rw[show k=0 by omega]at D;simpa using D,q3⟩⟩
end Go.Proofs.YtgcfffdpcefifaaGreatDoor
def kK {B:Nat}(hB:2<=B)(a:Nat):a<B^(aj B a).length:=(aF B hB a _).1 (qa0 _)
def vU {B:Nat}(hB:2<=B)(a b k:Nat)(ha:(aj B a).length<=k)(hb:(aj B b).length<=k):(aj B (a+b)).length<=k+1:=by
 rw[aF B hB]at *
 have:B^(k+1)=B^k*B:=Nat.pow_succ ..
 have D:B^k*2<=B^k*B:=Nat.mul_le_mul_left _ hB
 omega
def jR {B:Nat}(hB:2<=B)(a m k:Nat)(ha:(aj B a).length<=k)(hm:m<B):(aj B (a*m)).length<=k+1:=by
 rw[aF B hB]at *
 have h1:B^(k+1)=B^k*B:=Nat.pow_succ ..
 by_cases h0:a=0
 · subst h0
   have:=Nat.pow_pos (n:=k+1) (show 0<B by omega)
   omega
 · have:a*m<a*B:=(Nat.mul_lt_mul_left J).2 hm
   have D:a*B<=B^k*B:=Nat.mul_le_mul_right B J
   omega
def dx {B:Nat}(hB:2<=B){a b:Nat}(h:a<=b):(aj B a).length<=(aj B b).length:=by
 rw[aF B hB]
 exact Nat.lt_of_le_of_lt h (kK hB b)
def xm {B:Nat}(hB:2<=B)(a:Nat)(h:0<a):aj B (a*B)=0::aj B a:=by
 rw[eo B _ hB (Nat.mul_pos h J),Nat.mul_mod_left,Nat.mul_div_cancel _ J]
def gI {B:Nat}(hB:2<=B){a:Nat}(h:(aj B a).length=0):a=0:=by
 rcases Nat.eq_zero_or_pos a with h0|h0
 · exact h0
 · rw[eo B a hB h0]at h;simp at h
def jS {B:Nat}(hB:2<=B){a:Nat}(h:0<(aj B a).length):0<a:=by
 rcases Nat.eq_zero_or_pos a with h0|h0
 · subst h0;simp[eH]at h
 · exact h0
def kB (a:Nat)(ys:List Nat)(pre:List Nat):Nat:=pre.foldl (λs i=>s*10000+a*ys.getD i 0) 0
def oT (a:Nat)(ys pre:List Nat)(x:Nat):kB a ys (pre++[x])=kB a ys pre*10000+a*ys.getD x 0:=by simp[kB]
def ql (a:Nat)(ys:List Nat):∀k s,k<=ys.length->(List.range k).reverse.foldl (λs i=>s*10000+a*ys.getD i 0) s=s*10000^k+a*bg 10000 (ys.take k)
 |0,s,_=>by simp[bg]
 | k+1,s,h=>by
   rw[List.range_succ,List.reverse_append]
   simp only[List.reverse_cons,List.reverse_nil,List.nil_append,List.cons_append,List.foldl_cons]
   rw[ql a ys k _ J,List.take_succ_eq_append_getElem J,bH]
   have hl:(ys.take k).length=k:=by simp;omega
   have D:ys.getD k 0=ys[k]:=by simp[show k<ys.length by omega]
   rw[hl,D]
   simp only[bg,Nat.mul_zero,Nat.add_zero,Nat.pow_succ]
   grind
def xn (a:Nat)(ys:List Nat){n:Nat}(h:ys.length=n):kB a ys (List.range n).reverse=a*bg 10000 ys:=by
 unfold kB
 rw[ql a ys n 0 J,List.take_of_length_le J]
 simp
namespace Go.Proofs.YtgcfffdpcefifaaGreatDoor
open Go Go.Eng Go.RowKit Tryz
variable {B D lo a n1 c1 a1 lo1 n2 c2 a2 lo2:Nat}{A1 A2:Option Addr}{W W' w w':World}
attribute [local irreducible] wpListIn Code.wpIn Oper.wpIn Exit.then Exit.inBlock Exit.noGoto
set_option maxHeartbeats 40000000
section
variable {w0:World}{A:Option Addr}{n c:Nat}
def dm.cel {row:Option Nat}(hg:W.grownBy W' row)(hr:∀r,row=some r->B<=r/\∃o:Obj,W.heap[r]?=some o/\o.isCells=false)(h:dm W lo A n c a):dm W' lo A n c a:=⟨h.row.cel hg hr,h.len,h.cap⟩
def dm.dfr (hK:j9 w D)(h:dm w lo A n c a):dm (w.putObj D (.deferred none)) lo A n c a:=⟨h.row.dfr hK,h.len,h.cap⟩
def dm.zero (w:World)(lo:Nat):dm w lo none 0 0 0:=⟨Rw.nil w lo,rfl,qa0 _⟩
def dm.hi (h:dm w lo A n c a):∀ad,A=some ad->ad.block<w.heap.size:=h.row.hi
def dm.le (h:dm w lo A n c a):(aj 10000 a).length<=n:=by rw[h.len];exact qa0 _
end
def df (lo a:Nat)(v:Value)(w:World):Prop:=∃A n c,v=.slice A n c/\dm w lo A n c a
def df.ext {v:Value}(k:a8 w w')(h:df lo a v w):df lo a v w':=by
 obtain⟨A,n,c,e,h⟩:=h
 exact⟨A,n,c,e,h.ext k⟩
set_option maxRecDepth 100000 in
def zh (h1:dm w lo1 A1 n1 c1 a1)(s1:n1<=10000)(h2:dm w lo2 A2 n2 c2 a2)(s2:n2<=10000):
 CL 106 #[.slice A1 n1 c1,.slice A2 n2 c2] w (aH w λv w'=>∃A n c,v=.slice A n c/\dm w' w.heap.size A n c (a1*a2)):=by
 refine qd func106 Z (I ?_);refine bx (λK2 MH G=>?_);have E4:=MH.2;refine I ?_;refine al ul (λM0 MF O=>?_);have⟨G,E4⟩:=bn MF.2 G E4;refine I ?_;refine cl vx (ie (A:=A2) (n:=n2) (c:=c2)) ?_;rintro _ Ix M5 ⟨rfl,MJ⟩;have⟨G,O,E4⟩:=aP M5.2 G O E4;refine I ?_;refine nA (m:=n2) (enc:=λx=>[.int .i64 x,.int .i64 (((aj 10000 a2).getD x 0:Nat):Int)]) (order:=(List.range n2).reverse) (Kq:=λW=>ae W M0.heap.size 76 #[.slice A2 n2 c2]/\Rw W lo2 A2 (ints (aj 10000 a2))) (gf:=160) (lb:=[pT M0.heap.size]) (ps:=[10,11]) Z vz (fY MJ (h2.row.ext E4) h2.len U) (λW W' row hq Am hr=>⟨ab4 Am hr hq.1,Rw.cel Am hr hq.2⟩) (λ_=>rfl) [7] (λx=>[.int .i64 (((aj 10000 a2).getD x 0:Nat):Int)]) ?asn (λpre W=>∃Av:Option Addr,∃Ad:Nat,∃Ao:Nat,(Ad<=n1+2+2*pre.length)/\(Ix.heap.size<=W.heap.size)/\(a8 w W)/\(ae W w.heap.size 76 #[.slice A1 n1 c1])/\(ae W K2.heap.size 76 #[.slice Av Ad Ao])/\(dm W Ix.heap.size Av Ad Ao (kB a1 (aj 10000 a2) pre))) (λ_ _ _=>False) ?hI ?hIx ?h0 ?body ?done ?stop;case asn=>
  intro l x W K hK;refine I ?_;exact hK
 case hI=>
  rintro pre W W' row ⟨Av,Ad,Ao,EW,E7,E,G,O,hv⟩ Am hr;exact⟨Av,Ad,Ao,EW,qa8 E7 Am.size,li (B:=Ix.heap.size) U Am hr (bz E) E,ab4 Am hr G,ab4 Am hr O,dm.cel Am hr hv⟩
 case hIx=>
  exact λ_ _ _ _ _ h=>h.elim
 case h0=>
  exact⟨none,0,0,U,qa0 _,E4,G,O,dm.zero _ _⟩
 case body=>
  rintro l pre x W ⟨Av,Ad,Ao,EW,E7,E,G,O,hv⟩ MS hx MW;have Kp:=dD.refl [K2.heap.size] W;have zW:=bz E;have M6:=hv.hi;have hd:=getD_lt h2.lt x;have M3:=ab7 O;by_cases hz:Ad=0;have L2:=gI (B:=10000) U (hv.len.trans U);refine I ?_;have hL:w.heap.size<=W.heap.size:=J
  refine bB 5 ?_;refine sf ?_;refine da (λv w=>df W.heap.size (a1*((aj 10000 a2).getD x 0)) v w) (hs:=λ_ _ _ k h=>h.ext k) (λ_ _ hR26 _=>?_) ?_;refine clb vy (hc:=vT (h1.ext (xt E hR26)) U hd) (hk:=?_);rintro _ _ MO ⟨Ab,Aq,D2,rfl,kk⟩;have E31:=MO.2;have kk:=kk.mono (lo':=W.heap.size) (by have:=bz hR26;omega);refine I ?_;exact fs ⟨E31,⟨Ab,Aq,D2,rfl,kk⟩⟩;refine da (λv w=>df W.heap.size ((kB a1 (aj 10000 a2) pre)+a1*((aj 10000 a2).getD x 0)) v w) (hs:=λ_ _ _ k h=>h.ext k) (λ_ _ hR34 MA=>?_) ?_;obtain⟨Ab,Aq,D2,p36,kk⟩:=(MA 3 21 Z Z);have MI:Aq<=n1+1:=by rw[<-kk.len];exact jR U _ _ _ h1.le hd
  have hv:=aa1 hR34 hv;refine clb sw (hc:=ln hv U kk U) (hk:=?_) (hv:=aA Z (aA p36 Z));rintro _ _ MP ⟨Ap,Af,Ar,rfl,H⟩;have E40:=MP.2;have H:=H.mono (lo':=W.heap.size) (by have:=bz hR34;omega);refine I ?_;exact fs ⟨E40,⟨Ap,Af,Ar,rfl,H⟩⟩;refine sf ?_;intro _ _ hR43 MD;have G:=be hR43.2 G;have O:=be hR43.2 O;have E:=xt E hR43.2;have Kp:=ab5 Kp hR43.2;obtain⟨Ap,Af,Ar,_,H⟩:=(MD 4 22 Z Z);refine SO O (λ_ B2 MQ=>?_);have G:=pb B2 G;have H:=ab0 B2 U H;have E:=eK B2 E;have Kp:=ab6 Kp B2 Vg;have MV:=dX B2;refine I ?_;have MK:Af<=n1+2+0:=by(rw[<-H.len];rw[L2];rw[Nat.zero_add];exact qa8 (jR U _ _ _ h1.le hd) U)
  refine I ?_;exact⟨Kp.others VY,λhq=>⟨Kp.blk Va hq.1,Kp.rw (λB1 e=>by have:=h2.hi B1 e;simp;omega) hq.2⟩,⟨Ap,Af,Ar,Va,U,E,G,MQ,(by rw[oT];rw[L2]at H ⊢;simpa using H.mono U)⟩⟩;have MN:=jS (B:=10000) U (a:=kB a1 (aj 10000 a2) pre) (by rw[hv.len];omega);refine I ?_;refine BS (λ_ Ay _ Jx=>?_);have G:=be Ay G;have O:=be Ay O;have hv:=aa1 Ay hv;have E:=xt E Ay;have Kp:=ab5 Kp Ay;have MU:=bz Ay;refine I ?_;refine ab (jA (v:=.slice (some ⟨W.heap.size,0,none⟩) 1 1) (k:=1) fj kH Z dc Z Jx Z hv.row (by rw[cY,hv.len];omega) ll Vv U U (λ_ M4 M1 Ax _=>?_));have G:=aa2 Ax Vi G;have O:=aa2 Ax Vi O;have hv:=dm.gr Ax (λB1 e=>by have:=M6 B1 e;simp[Value.ownBlock];omega) hv;have Kp:=dD.gr Kp Ax (λb hb=>by exact Or.inr (by simp[Value.ownBlock]at hb;omega));have E:=cK E Ax (bz E) (λg MG=>by have:=(Jx.lt g MG).1;omega);have MX:=Ax.size;obtain⟨Aw,M9,rfl,ME,MY,-,-⟩:=dt M1;have hs:=aa3 M1;have kd:dm M4 W.heap.size Aw (1+Ad) M9 (kB a1 (aj 10000 a2) pre*10000):=by(have e:=xm (B:=10000) U _ MN;exact⟨by rw[e];exact hs,by rw[e,List.length_cons,hv.len];omega,ME⟩)
  have uhnew:=kd.hi;refine SO O (λE1 D1 E9=>?_);have G:=pb D1 G;have kd:=ab0 D1 U kd;have E:=eK D1 E;have Kp:=ab6 Kp D1 Vg;have MR:=dX D1;refine I ?_;have hL:w.heap.size<=E1.heap.size:=J
  refine bB 5 ?_;refine sf ?_;refine da (λv w=>df E1.heap.size (a1*((aj 10000 a2).getD x 0)) v w) (hs:=λ_ _ _ k h=>h.ext k) (λ_ _ hR75 _=>?_) ?_;refine clb vy (hc:=vT (h1.ext (xt E hR75)) U hd) (hk:=?_);rintro _ _ M8 ⟨Ab,Aq,D2,rfl,kk⟩;have E80:=M8.2;have kk:=kk.mono (lo':=E1.heap.size) (by have:=bz hR75;omega);refine I ?_;exact fs ⟨E80,⟨Ab,Aq,D2,rfl,kk⟩⟩;refine da (λv w=>df E1.heap.size ((kB a1 (aj 10000 a2) pre*10000)+a1*((aj 10000 a2).getD x 0)) v w) (hs:=λ_ _ _ k h=>h.ext k) (λ_ _ hR83 MM=>?_) ?_;obtain⟨Ab,Aq,D2,MB,kk⟩:=(MM 3 21 Z Z);have MI:Aq<=n1+1:=by rw[<-kk.len];exact jR U _ _ _ h1.le hd
  have kd:=aa1 hR83 kd;refine clb sw (hc:=ln kd U kk U) (hk:=?_) (hv:=aA Z (aA MB Z));rintro _ _ M7 ⟨Ap,Af,Ar,rfl,H⟩;have E89:=M7.2;have H:=H.mono (lo':=E1.heap.size) (by have:=bz hR83;omega);refine I ?_;exact fs ⟨E89,⟨Ap,Af,Ar,rfl,H⟩⟩;refine sf ?_;intro _ _ hR92 ML;have G:=be hR92.2 G;have E9:=be hR92.2 E9;have kd:=aa1 hR92.2 kd;have E:=xt E hR92.2;have Kp:=ab5 Kp hR92.2;obtain⟨Ap,Af,Ar,_,H⟩:=(ML 4 22 Z Z);refine SO E9 (λ_ As MC=>?_);have G:=pb As G;have kd:=ab0 As U kd;have H:=ab0 As U H;have E:=eK As E;have Kp:=ab6 Kp As Vg;have MZ:=dX As;refine I ?_;have MK:Af<=n1+3+2*pre.length+1+0:=by(rw[<-H.len];exact qa8 (vU U _ _ (n1+3+2*pre.length) (by rw[kd.len];omega) (qa8 (jR U _ _ _ h1.le hd) U)) U)
  refine I ?_;exact⟨Kp.others VY,λhq=>⟨Kp.blk Va hq.1,Kp.rw (λB1 e=>by have:=h2.hi B1 e;simp;omega) hq.2⟩,⟨Ap,Af,Ar,Va,U,E,G,MC,(by rw[oT];exact H.mono U)⟩⟩
 case stop=>
  exact λ_ _ _ _ _ _ h _=>h.elim
 case done=>
  rintro D W hD ⟨Av,Ad,Ao,EW,E7,E,G,O,hv⟩ hK;have zW:=bz E;refine I ?_;have M2:=hv.dfr hK;rw[xn _ _ h2.len,h2.val]at M2;exact B5 (t:=4) (v:=.slice Av Ad Ao) hK Z E U ⟨Av,Ad,Ao,rfl,M2.mono U⟩ Z
end Go.Proofs.YtgcfffdpcefifaaGreatDoor
def aw (x y:Int):Int:=if x<y then -1 else if x=y then 0 else 1
def bZ {x y:Int}(h:x<y):aw x y=-1:=by simp[aw,h]
def bM {x y:Int}(h:y<x):aw x y=1:=by
 unfold aw;rw[if_neg J,if_neg J]
def dW {x y:Int}(h:x=y):aw x y=0:=by
 unfold aw;rw[if_neg J,if_pos h]
def oU {x y u v:Int}(h1:x<y↔u<v)(h2:x=y↔u=v):aw x y=aw u v:=by
 unfold aw;simp only[h1,h2]
def Cy {a b:Nat}(h:(aj 10000 a).length≠(aj 10000 b).length):aw (((aj 10000 a).length:Nat):Int) (((aj 10000 b).length:Nat):Int)=aw (a:Int) (b:Int):=by
 have h1:=@dx 10000 J a b
 have E:=@dx 10000 J b a
 refine oU ⟨λk=>?_,λk=>?_⟩ ⟨λk=>?_,λk=>?_⟩
 · omega
 · omega
 · omega
 · have:a=b:=J
   subst this;rfl
def kC {n j:Nat}(h:j<n):(List.range n).reverse[j]?=some (n-1-j):=by
 rw[List.getElem?_reverse VJ,List.length_range,List.getElem?_range J]
def GM {p:List Nat}{x n:Nat}(h:p++[x] <+: (List.range n).reverse):x<n/\x=n-1-p.length/\p.length<n/\∀i,x<i->i<n->i∈p:=by
 have hl:p.length<n:=by have:=h.length_le;simp at this;omega
 have hx:(List.range n).reverse[p.length]?=some x:=by
  obtain⟨t,ht⟩:=h
  rw[<-ht];simp
 rw[kC hl]at hx
 have hx:n-1-p.length=x:=by simpa using hx
 refine⟨by omega,by omega,hl,λi _ _=>?_⟩
 have G:n-1-i<p.length:=J
 have:(List.range n).reverse[n-1-i]?=p[n-1-i]?:=by
  obtain⟨t,ht⟩:=h
  rw[<-ht,List.append_assoc,List.getElem?_append_left G]
 rw[kC J]at this
 have E:n-1-(n-1-i)=i:=J
 rw[E]at this
 exact qa9 this.symm
def qm (xs:List Nat){x:Nat}(h:x<xs.length):bg 10000 xs=bg 10000 (xs.take x)+10000^x*(xs.getD x 0+10000*bg 10000 (xs.drop (x+1))):=by
 have h1:xs=xs.take x++(xs.getD x 0::xs.drop (x+1)):=by
  have:xs.getD x 0=xs[x]:=by simp[h]
  rw[this,List.getElem_cons_drop,List.take_append_drop]
 conv=>lhs;rw[h1]
 rw[bH]
 have hl:(xs.take x).length=x:=by simp;omega
 rw[hl];rfl
def GN {xs ys p:List Nat}{x n:Nat}(hx:∀d∈xs,d<10000)(hy:∀d∈ys,d<10000)(hn:xs.length=n)(hm:ys.length=n)(hp:p++[x] <+: (List.range n).reverse)(he:∀i∈p,xs.getD i 0=ys.getD i 0)(hne:xs.getD x 0≠ys.getD x 0):
 aw ((xs.getD x 0:Nat):Int) ((ys.getD x 0:Nat):Int)=aw ((bg 10000 xs:Nat):Int) ((bg 10000 ys:Nat):Int):=by
 obtain⟨h1,-,-,H⟩:=GM hp
 have hd:xs.drop (x+1)=ys.drop (x+1):=by
  apply List.ext_getElem
  · simp[hn,hm]
  · intro i kk _
    have h3':x+1+i<xs.length:=by simp at kk;omega
    have h4':x+1+i<ys.length:=J
    have:=he _ (H (x+1+i) J J)
    simpa[h3',h4']using this
 rw[qm xs (x:=x) J,qm ys (x:=x) J,hd]
 have E:=fK 10000 (xs.take x) (λd hd=>hx d (List.mem_of_mem_take hd))
 have G:=fK 10000 (ys.take x) (λd hd=>hy d (List.mem_of_mem_take hd))
 have kd:(xs.take x).length=x:=by simp;omega
 have O:(ys.take x).length=x:=by simp;omega
 rw[kd]at E;rw[O]at G
 generalize bg 10000 (xs.take x)=s at *
 generalize bg 10000 (ys.take x)=t at *
 generalize bg 10000 (ys.drop (x+1))=u at *
 generalize xs.getD x 0=a at *
 generalize ys.getD x 0=b at *
 generalize 10000^x=B at *
 have key:∀s t a b:Nat,s<B->t<B->a<b->s+B*(a+10000*u)<t+B*(b+10000*u):=by
  intro s t a b _ _ _
  have:B*(a+10000*u)+B<=B*(b+10000*u):=by
   rw[<-Nat.mul_succ];exact Nat.mul_le_mul_left _ J
  omega
 rcases Nat.lt_or_gt_of_ne hne with h|h
 · rw[bZ J,bZ (by have:=key s t a b E G h;omega)]
 · rw[bM J,bM (by have:=key t s b a G E h;omega)]
def Cz {a b n:Nat}(hn:(aj 10000 a).length=n)(hm:(aj 10000 b).length=n)(he:∀i∈(List.range n).reverse,(aj 10000 a).getD i 0=(aj 10000 b).getD i 0):a=b:=by
 have:aj 10000 a=aj 10000 b:=by
  apply List.ext_getElem
  · omega
  · intro i h1 G
    have:=he i Va
    simpa[h1,G]using this
 have E:=qb1 (bg 10000) this
 rwa [bU 10000 J,bU 10000 J]at E
namespace Go.Proofs.YtgcfffdpcefifaaGreatDoor
variable {n1 c1 a1 lo1 n2 c2 a2 lo2 g m:Nat}{A1 A2:Option Addr}{w:World}
set_option maxRecDepth 100000
open Go Go.Eng Go.RowKit Tryz
attribute [local irreducible] wpListIn Code.wpIn Oper.wpIn Exit.then Exit.inBlock Exit.noGoto
set_option maxHeartbeats 40000000
def zi (x y:Int)(w:World):CL 110 #[.int .i64 x,.int .i64 y] w (aH w λv _=>v=.int .i64 (aw x y)):=by
 by_cases h:x<y
 · rw[bZ h];exact GK x y h w
 · by_cases h2:x=y
   · rw[dW h2];exact cmp_eq x y h2 w
   · rw[bM U];exact GL x y U w
def g5 (h1:dm w lo1 A1 n1 c1 a1)(s1:n1<=100000)(h2:dm w lo2 A2 n2 c2 a2):
 CL 60 #[.slice A1 n1 c1,.slice A2 n2 c2] w (aH w λv w'=>v=.int .i64 (aw (a1:Int) (a2:Int))):=by
 by_cases EW:n1=n2;refine qd func60 Z (I ?_);refine bx (λAr D1 H=>?_);have E4:=D1.2;refine al kH (λAs L2 G=>?_);have⟨H,E4⟩:=bn L2.2 H E4;refine I ?_;refine cl vx (ie (A:=A1) (n:=n1) (c:=c1)) ?_;rintro _ Af B1 ⟨rfl,D2⟩;have⟨H,G,E4⟩:=aP B1.2 H G E4;refine I ?_;refine nA (m:=n1) (enc:=λx=>[.int .i64 x,.int .i64 (((aj 10000 a1).getD x 0:Nat):Int)]) (order:=(List.range n1).reverse) (Kq:=λW=>ae W As.heap.size 76 #[.slice A1 n1 c1]/\Rw W lo1 A1 (ints (aj 10000 a1))) (gf:=160) (lb:=[pT As.heap.size]) (ps:=[19,20]) Z vz (fY D2 (h1.row.ext E4) h1.len U) (λW W' row hq O hr=>⟨ab4 O hr hq.1,Rw.cel O hr hq.2⟩) (λ_=>rfl) [5,6] (λx=>[.int .i64 x,.int .i64 (((aj 10000 a1).getD x 0:Nat):Int)]) ?asn (λpre W=>(∀i∈pre,(aj 10000 a1).getD i 0=(aj 10000 a2).getD i 0)/\(Af.heap.size<=W.heap.size)/\(a8 w W)/\(ae W w.heap.size 76 #[.slice A2 n2 c2])/\(ae W Ar.heap.size 3 #[.int .i64 (0)])) (λc pre W=>c=.ret/\∃p x,pre=p++[x]/\(∀i∈p,(aj 10000 a1).getD i 0=(aj 10000 a2).getD i 0)/\(aj 10000 a1).getD x 0≠(aj 10000 a2).getD x 0/\(Af.heap.size<=W.heap.size)/\(a8 w W)/\(ae W Ar.heap.size 3 #[.int .i64 (aw (((aj 10000 a1).getD x 0:Nat):Int) (((aj 10000 a2).getD x 0:Nat):Int))])) ?hI ?hIx ?h0 ?body ?done ?stop;case asn=>
  intro l x W K hK;refine I ?_;exact hK
 case hI=>
  rintro pre W W' row ⟨kk,kd,E,H,G⟩ O hr;exact⟨kk,qa8 kd O.size,li (B:=Af.heap.size) U O hr (bz E) E,ab4 O hr H,ab4 O hr G⟩
 case hIx=>
  rintro c pre W W' row ⟨rfl,p,x,rfl,kk,Ap,kd,E,G⟩ O hr;exact⟨rfl,p,x,rfl,kk,Ap,qa8 kd O.size,li (B:=Af.heap.size) U O hr (bz E) E,ab4 O hr G⟩
 case h0=>
  exact⟨Vk,Nat.le_refl _,E4,H,G⟩
 case body=>
  rintro l pre x W ⟨kk,kd,E,H,G⟩ M0 hx EW;have Kp:=dD.refl [Ar.heap.size] W;have zW:=bz E;have Aw:=ab7 G;obtain⟨_,o,hA,hc⟩:=(h2.row.ext E).cells x _ (aO (xs:=(aj 10000 a2)) (by rw[h2.len];omega));by_cases hne:(((aj 10000 a1).getD x 0:Nat):Int)=(((aj 10000 a2).getD x 0:Nat):Int);refine I ?_;refine ab (am (i:=x) (oo:=o+x) fj eN Z hA Z U U ?_);refine ab (aT (v:=.int .i64 (((aj 10000 a2).getD x 0:Nat):Int)) U3 Z Z hc ?_);refine I ?_;exact⟨Kp.others VZ,λhq=>⟨Kp.blk Va hq.1,Kp.rw (λAy e=>by have:=h1.hi Ay e;simp;omega) hq.2⟩,⟨(λi hi=>by rcases List.mem_append.1 hi with h|h;exact kk i h;rw[List.mem_singleton.1 h];omega),U,E,H,G⟩⟩;refine I ?_;refine ab (am (i:=x) (oo:=o+x) fj eN Z hA Z U U ?_);refine ab (aT (v:=.int .i64 (((aj 10000 a2).getD x 0:Nat):Int)) U3 Z Z hc ?_);refine I ?_;refine ab (am (i:=x) (oo:=o+x) fj eN Z hA Z U U ?_);refine ab (aT (v:=.int .i64 (((aj 10000 a2).getD x 0:Nat):Int)) U3 Z Z hc ?_);refine cl Eu (zi _ _ _) ?_;rintro _ _ Ad rfl;have H:=be Ad.2 H;have G:=be Ad.2 G;have E:=xt E Ad.2
  have Kp:=ab5 Kp Ad.2;refine SO G (λ_ Am E7=>?_);have H:=pb Am H;have E:=eK Am E;have Kp:=ab6 Kp Am Vg;have M1:=dX Am;refine I ?_;exact⟨Kp.others VZ,rfl,pre,x,rfl,kk,U,U,E,E7⟩
 case stop=>
  rintro D c pre W hD Ax ⟨rfl,p,x,rfl,kk,Ap,kd,E,G⟩ hK;have zW:=bz E;have Av:=GN h1.lt h2.lt h1.len (h2.len.trans U) Ax kk Ap;rw[h1.val,h2.val]at Av;refine I ?_;exact gZ (v:=.int .i64 (aw (((aj 10000 a1).getD x 0:Nat):Int) (((aj 10000 a2).getD x 0:Nat):Int))) hK (cn Z (du U3 Z Z (aa8 (G.dfr hK) Z))) ((dU _).low E U) (by rw[Av])
 case done=>
  rintro D W hD ⟨kk,kd,E,H,G⟩ hK;have zW:=bz E;refine I ?_;refine SO G (λ_ Ao K2=>?_);have H:=pb Ao H;have hK:=j9.put Ao (hK.ne G) hK;have E:=eK Ao E;have M2:=dX Ao;refine I ?_;exact gZ (v:=.int .i64 0) hK (cn Z (du U3 Z Z (aa8 (K2.dfr hK) Z))) ((dU _).low E U) (by rw[dW (by have:=Cz h1.len (h2.len.trans U) kk;omega)])
 refine qd func60 Z (I ?_);refine bx (λ_ E1 Ab=>?_);have E24:=E1.2;refine al kH (λ_ Jx Aq=>?_);have⟨Ab,E24⟩:=bn Jx.2 Ab E24;refine I ?_;refine cl Eu (zi _ _ _) ?_;rintro _ _ Ix rfl;have⟨Ab,Aq,E24⟩:=aP Ix.2 Ab Aq E24;refine SO Aq (λ_ E9 B2=>?_);have⟨Ab,E24,_⟩:=dE E9 Ab E24;refine I ?_;exact vC (v:=.int .i64 (aw (n1:Int) (n2:Int))) (cn Z (du U3 Z Z (aa8 B2 Z))) E24 (by have:=Cy (a:=a1) (b:=a2) (by rw[h1.len,h2.len];omega);rw[h1.len,h2.len]at this;rw[this])
set_option maxRecDepth 100000 in
def xo {lb:List Value}{pb:Nat->Bool}(heg:Enters prog g)(hm0:m<=1000000)(hd:∀(i:Nat) (W:World),i<m->a8 w W->CL g ([Value.int .i64 i]++lb).toArray W (aH W λv _=>v=.bool (pb i)))(hmon:∀i j,i<=j->j<m->pb i=true->pb j=true):
 CL 162 #[.int .i64 m,.func (.func g) #[] lb.toArray] w (aH w λv w'=>∃k:Nat,v=.int .i64 k/\k<=m/\(∀i<k,pb i=false)/\(k<m->pb k=true)):=by
 refine aC func162 Z (I ?_);have E1:=aa4 w;refine cM [(5,7),(9,24)] (λkk e W=>∃i:Nat,∃j:Nat,(j-i=kk)/\(e 5=.int .i64 i)/\(e 6=.int .i64 j)/\(i<=j)/\(j<=m)/\(∀k<i,pb k=false)/\(j<m->pb j=true)/\(a8 w W)) ((m)-0) ⟨0,m,rfl,rfl,rfl,(qa7 _),(qa0 _),U,U,E1⟩ ?_;rintro _ _ _ ⟨i,j,rfl,Ad,kd,Ao,Ab,q3,O,E7⟩;have Am:=bz E7;by_cases hm:i<j;refine I ?_;refine ab (bb (a:=(i:Int)) (b:=(j:Int)) (c:=((i+j:Nat):Int)) Z Z JT U ?_);refine ab (gM (k:=.i64) (k':=.u64) (a:=((i+j:Nat):Int)) (c:=((i+j:Nat):Int)) U3 Ir Z (wrap_u64 U) ?_);refine ab (IK (k:=.u64) (a:=((i+j:Nat):Int)) (b:=1) (c:=(((i+j)/2:Nat):Int)) Z Z dc (by show((i+j:Nat):Int)/2=_;omega) ?_);refine ab (gM (k:=.u64) (k':=.i64) (a:=(((i+j)/2:Nat):Int)) (c:=(((i+j)/2:Nat):Int)) Ir U3 Z (wrap_i64 U) ?_);refine I ?_;refine ab (vS (vs:=[.int .i64 (((i+j)/2:Nat):Int)]) (lb:=lb) heg Z Z (hd ((i+j)/2) _ U E7) ?_);rintro _ _ E rfl;have E:=E.2;have E7:=xt E7 E;have Af:=bz E;refine I ?_;refine qX (q:=!(pb ((i+j)/2))) Z (λH=>?_) (λH=>?_);have G:pb ((i+j)/2)=false:=by simpa using H
 refine I ?_;refine ab (bb (a:=(((i+j)/2:Nat):Int)) (b:=1) (c:=(((i+j)/2+1:Nat):Int)) Z Z JT U ?_);refine I ?_;exact bQ ⟨(i+j)/2+1,j,rfl,rfl,kd,U,Ab,(λk _=>by cases hb:pb k with|false=>rfl|true=>(have:=hmon k ((i+j)/2) U U hb;rw[G]at this;cases this)),O,E7⟩;have G:pb ((i+j)/2)=true:=by simpa using H
 refine I ?_;exact bQ ⟨i,(i+j)/2,rfl,Ad,rfl,U,U,q3,(λ_=>G),E7⟩;refine I ?_;exact an (t:=4) (v:=.int .i64 i) Z E7 ⟨i,rfl,by omega,q3,by rw[show j=i by omega]at O;exact O⟩ Z
set_option maxRecDepth 100000 in
def CB {i B1 B2:Nat}(h1:dm w lo1 A1 n1 c1 a1)(s1:n1<=10000)(h2:dm w lo2 A2 n2 c2 a2)(k1:ae w B1 161 #[.func (.func 155) #[.slice A1 n1 c1] #[]])(k2:ae w B2 76 #[.slice A2 n2 c2])(hi:i<9999):
 CL 161 #[.int .i64 i,pT B1,pT B2] w (aH w λv w'=>v=.bool (decide (0<aw ((a1*(i+1):Nat):Int) (a2:Int)))):=by
 obtain⟨L,_⟩:∃L,L=w.heap.size:=⟨_,rfl⟩;refine aC func161 Z (I ?_);refine bB 7 ?_;refine sf ?_;refine bj (λ_ _ _ _=>by refine ab (bb (a:=(i:Int)) (b:=1) (c:=((i+1:Nat):Int)) Z Z JT U ?_);refine I ?_;exact bY) ?_
 refine da (λv w=>df L (a1*(i+1)) v w) (hs:=λ_ _ _ k h=>h.ext k) (λ_ _ hR15 _=>?_) ?_;have h1:=h1.ext hR15;refine ab (vF (vs:=[.int .i64 ((i+1:Nat):Int)]) (la:=[.slice A1 n1 c1]) vy Z Z (vT h1 U U) ?_);rintro _ _ O ⟨Ab,G,H,rfl,E⟩;have E20:=O;have Ad:=bz O;have E:=E.mono (lo':=L) (by have:=bz hR15;omega);refine I ?_;exact fs ⟨E20,⟨Ab,G,H,rfl,E⟩⟩;refine sf ?_;refine ay (V:=.int .i64 (aw ((a1*(i+1):Nat):Int) (a2:Int))) (λ_ _ hR27 kd=>?_) ?_;obtain⟨Ab,G,H,p29,E⟩:=(kd 3 8 Z Z);have Af:G<=n1+1:=by rw[<-E.len];exact jR U _ _ _ h1.le U
 have h2:=h2.ext hR27;refine clb sx (hc:=g5 E U h2) (hk:=?_) (hv:=aA p29 (aA Z Z));rintro _ _ kk rfl;have E33:=kk.2;refine I ?_;exact fs ⟨E33,rfl⟩;refine sf ?_;intro _ _ hR40 _;have E42:=hR40.2;refine I ?_;exact an (t:=4) (v:=.bool (decide (0<(aw ((a1*(i+1):Nat):Int) (a2:Int))))) Z E42 Z Z
end Go.Proofs.YtgcfffdpcefifaaGreatDoor
def gd (m:Nat)(xs:List Nat)(s:List Nat×Nat)(i:Nat):List Nat×Nat:=(s.1.set i ((s.2*10000+xs.getD i 0)/m),(s.2*10000+xs.getD i 0)%m)
def cF (m:Nat)(xs:List Nat)(n:Nat)(pre:List Nat):List Nat×Nat:=pre.foldl (gd m xs) (List.replicate n 0,0)
def oV (m:Nat)(xs:List Nat)(n:Nat)(pre:List Nat)(i:Nat):cF m xs n (pre++[i])=gd m xs (cF m xs n pre) i:=by simp[cF]
def qn (m:Nat)(xs:List Nat)(n:Nat)(pre:List Nat):(cF m xs n pre).1.length=n:=by
 unfold cF
 have:∀(pre:List Nat) (s:List Nat×Nat),(pre.foldl (gd m xs) s).1.length=s.1.length:=by
  intro pre
  induction pre with
  |nil=>intro s;rfl
  |cons i pre ih=>intro s;rw[List.foldl_cons,ih];simp[gd]
 rw[this];simp
def zj (m:Nat)(xs:List Nat)(n:Nat)(hm:0<m):∀pre:List Nat,(cF m xs n pre).2<m:=by
 intro pre
 unfold cF
 have:∀(pre:List Nat) (s:List Nat×Nat),s.2<m->(pre.foldl (gd m xs) s).2<m:=by
  intro pre
  induction pre with
  |nil=>intro s h;exact h
  |cons i pre ih=>intro s _;rw[List.foldl_cons];exact ih _ (Nat.mod_lt _ hm)
 exact this pre _ hm
def vV {m r d:Nat}(hr:r<m)(hd:d<10000):(r*10000+d)/m<10000:=by
 rw[Nat.div_lt_iff_lt_mul J]
 have:(r+1)*10000<=m*10000:=Nat.mul_le_mul_right _ hr
 omega
def sR (m:Nat)(xs:List Nat)(hm:0<m)(hx:∀x∈xs,x<10000):∀(k:Nat) (q:List Nat) (r:Nat),k<=xs.length->q.length=xs.length->r<m->
 let s:=(List.range k).reverse.foldl (gd m xs) (q,r)
 s.1.length=q.length/\s.1.drop k=q.drop k/\m*bg 10000 (s.1.take k)+s.2=r*10000^k+bg 10000 (xs.take k)/\s.2<m/\∀d∈s.1.take k,d<10000
 |0,q,r,_,_,hr=>by simp[bg,hr]
 | k +1,q,r,hk,hq,hr=>by
   simp only
   rw[List.range_succ,List.reverse_append]
   simp only[List.reverse_cons,List.reverse_nil,List.nil_append,List.cons_append,List.foldl_cons]
   have hd:=getD_lt hx k
   have h1:=vV hr hd
   obtain⟨Av,E,Aq,kd,Af⟩:=sR m xs hm hx k (gd m xs (q,r) k).1 (gd m xs (q,r) k).2 J (by simp[gd,hq]) (Nat.mod_lt _ hm)
   generalize hs:List.foldl (gd m xs) (gd m xs (q,r) k) (List.range k).reverse=s at *
   have hl:(gd m xs (q,r) k).1.length=q.length:=by simp[gd]
   have kk:k<s.1.length:=J
   have H:s.1[k]=(r*10000+xs.getD k 0)/m:=by
    have G:s.1.drop k=s.1[k]::s.1.drop (k+1):=by rw[List.getElem_cons_drop]
    have Am:(gd m xs (q,r) k).1.drop k=(gd m xs (q,r) k).1[k]'(by omega)::(gd m xs (q,r) k).1.drop (k+1):=by rw[List.getElem_cons_drop]
    rw[G,Am]at E
    have:=(List.cons.inj E).1
    rw[this];simp[gd]
   have O:s.1.take (k+1)=s.1.take k++[s.1[k]]:=List.take_succ_eq_append_getElem kk
   have Ao:xs.take (k+1)=xs.take k++[xs.getD k 0]:=by
    rw[List.take_succ_eq_append_getElem J];simp[show k<xs.length by omega]
   refine⟨by omega,?_,?_,kd,?_⟩
   · have G:s.1.drop (k+1)=(s.1.drop k).drop 1:=by rw[List.drop_drop]
     rw[G,E,List.drop_drop]
     exact List.drop_set_of_lt J
   · rw[O,Ao,bH,bH,H]
     have Ab:(s.1.take k).length=k:=by simp;omega
     have Ap:(xs.take k).length=k:=by simp;omega
     rw[Ab,Ap]
     simp only[bg,Nat.mul_zero,Nat.add_zero,Nat.pow_succ]
     have Ar:=Nat.div_add_mod (r*10000+xs.getD k 0) m
     have As:m*bg 10000 (s.1.take k)+s.2=(r*10000+xs.getD k 0)%m*10000^k+bg 10000 (xs.take k):=Aq
     generalize (r*10000+xs.getD k 0)/m=u at *
     generalize (r*10000+xs.getD k 0)%m=v at *
     generalize xs.getD k 0=y at *
     grind
   · rw[O]
     intro d Ad
     rcases List.mem_append.1 Ad with h|h
     · exact Af d h
     · rw[List.mem_singleton.1 h,H];exact h1
def zk {m a n:Nat}(hm:0<m)(hn:(aj 10000 a).length=n):
 (∀d∈(cF m (aj 10000 a) n (List.range n).reverse).1,d<10000)/\bg 10000 (cF m (aj 10000 a) n (List.range n).reverse).1=a/m/\(cF m (aj 10000 a) n (List.range n).reverse).2=a%m:=by
 obtain⟨h1,-,E,H,G⟩:=sR m (aj 10000 a) hm (cu 10000 J a) n (List.replicate n 0) 0 J (by simp[hn]) hm
 change ((cF m (aj 10000 a) n (List.range n).reverse).1.length=_)at h1
 change (m*bg 10000 ((cF m (aj 10000 a) n (List.range n).reverse).1.take n)+(cF m (aj 10000 a) n (List.range n).reverse).2=_)at E
 change ((cF m (aj 10000 a) n (List.range n).reverse).2<m)at H
 change (∀d∈(cF m (aj 10000 a) n (List.range n).reverse).1.take n,d<10000)at G
 rw[List.length_replicate]at h1
 rw[List.take_of_length_le J]at E G
 rw[List.take_of_length_le J,bU 10000 J,Nat.zero_mul,Nat.zero_add]at E
 generalize (cF m (aj 10000 a) n (List.range n).reverse)=z at *
 refine⟨G,?_,?_⟩
 · rw[<-E,Nat.mul_add_div hm,Nat.div_eq_of_lt H];omega
 · rw[<-E,Nat.mul_add_mod,Nat.mod_eq_of_lt H]
namespace Go.Proofs.YtgcfffdpcefifaaGreatDoor
open Go Go.Eng Go.RowKit Tryz
variable {m lo b c v n1 c1 a1 lo1 n2 c2 a2 lo2:Nat}{A A1 A2:Option Addr}{w w':World}
attribute [local irreducible] wpListIn Code.wpIn Oper.wpIn Exit.then Exit.inBlock Exit.noGoto
set_option maxHeartbeats 40000000
def dR {p:Prop}(h:p:=by kernel_rfl):p:=h
def mn (m:Nat):(madeCells #[Value.int .i64 0] (m*1)).toList=ints (List.replicate m 0):=by
 simp[madeCells,ints,Nat.mod_one,List.eq_replicate_iff]
def ints_set (qs:List Nat)(x k:Nat):(ints qs).toArray.setIfInBounds x (.int .i64 k)=(ints (qs.set x k)).toArray:=by
 simp[ints,List.map_set]
def zm {r k:Nat}(hm:0<m)(hr:r<m*10000)(hk:k<=9999)(h1:∀i<k,decide (0<aw ((m*(i+1):Nat):Int) (r:Int))=false)(h2:k<9999->decide (0<aw ((m*(k+1):Nat):Int) (r:Int))=true):k=r/m:=by
 have e:∀i,decide (0<aw ((m*(i+1):Nat):Int) (r:Int))=decide (r<m*(i+1)):=λi=>by
  rcases Nat.lt_trichotomy (m*(i+1)) r with h|h|h
  · rw[bZ U];simp;omega
  · rw[dW U];simp;omega
  · rw[bM U];simp;omega
 symm
 have G:m*k<=r:=by
  rcases Nat.eq_zero_or_pos k with h0|h0
  · subst h0;simp
  · have:=h1 (k-1) U
    rw[e,show k-1+1=k by omega]at this
    simpa using this
 have E:r<m*(k+1):=by
  by_cases hk9:k<9999
  · have:=h2 hk9
    rw[e]at this
    simpa using this
  · rw[show k+1=10000 by omega];exact hr
 rw[Nat.div_eq_iff U]
 rw[Nat.mul_add]at E
 rw[Nat.mul_comm k m]
 omega
def xp {r:Nat}(i j:Nat)(hij:i<=j)(h:decide (0<aw ((m*(i+1):Nat):Int) (r:Int))=true):decide (0<aw ((m*(j+1):Nat):Int) (r:Int))=true:=by
 have E:m*(i+1)<=m*(j+1):=Nat.mul_le_mul_left _ U
 simp only[decide_eq_true_eq]at *
 rcases Nat.lt_trichotomy (m*(i+1)) r with h1|h1|h1
 · rw[bZ U]at h;omega
 · rw[dW U]at h;omega
 · rw[bM U];omega
def sS (r d:Nat)(hd:d<10000):cV (d::aj 10000 r)=aj 10000 (r*10000+d):=by
 rw[jL 10000 U (d::aj 10000 r) (λx hx=>by
  rcases List.mem_cons.1 hx with rfl|hx
  · exact hd
  · exact cu 10000 U r x hx)]
 simp only[bg,bU 10000 (show 2<=10000 by omega)]
 congr 1;omega
def Rw.putU {cs:List Value}(k:fe w w' b)(hne:∀ad,A=some ad->ad.block≠b)(h:Rw w lo A cs):Rw w' lo A cs:=by
 refine⟨λj u hu=>?_,h.lo,λad e=>by rw[k.size];exact h.hi ad e⟩
 obtain⟨c,o,e,hc⟩:=h.cells j u hu
 exact⟨c,o,e,(k.cell (a:=⟨c,o+j,none⟩) (show c≠b from hne _ e)).trans hc⟩
def dm.putU {n a:Nat}(k:fe w w' b)(hne:∀ad,A=some ad->ad.block≠b)(h:dm w lo A n c a):dm w' lo A n c a:=⟨Rw.putU k hne h.row,h.len,h.cap⟩
def aa7:=@dm.putU
def sT {qs:List Nat}(hr:Rw w lo A (ints qs))(hd:∀d∈qs,d<10000)(hv:bg 10000 qs=v)(ht:cV qs=qs.take m)(hm:m<=qs.length)(hc:m<=c):dm w lo A m c v:=by
 have h1:aj 10000 v=qs.take m:=by rw[<-ht,<-hv];exact(jL 10000 U qs hd).symm
 refine⟨?_,?_,hc⟩
 · rw[h1]
   have:=hr.take m
   simpa[ints,List.map_take]using this
 · rw[h1];simp;omega
set_option maxRecDepth 100000 in
def nD (h1:dm w lo1 A1 n1 c1 a1)(s1:n1<=9000)(h2:dm w lo2 A2 n2 c2 a2)(s2:n2<=9000)(h0:0<a2):
 CL 113 #[.slice A1 n1 c1,.slice A2 n2 c2] w (aH w λv w'=>∃A n c B m d,v=.tuple #[.slice A n c,.slice B m d]/\dm w' w.heap.size A n c (a1/a2)/\dm w' w.heap.size B m d (a1%a2)):=by
 refine qd func113 Z (I ?_);refine bx (λAs NZ G=>?_);have E4:=NZ.2;refine al ul (λAo NX ME=>?_);have⟨G,E4⟩:=bn NX.2 G E4;refine al ul (λkk Nc H=>?_);have⟨G,ME,E4⟩:=aP Nc.2 G ME E4;refine I ?_;refine ab (oe (m:=n1) fj kH Z Z U Vv (λ_ MS _ MU=>?_));have⟨G,ME,H,E4⟩:=br MS G ME H E4;have Nm:=bz MS;have hq:=nB MU;rw[show(Value.int IntKind.i64 0).cells=#[Value.int .i64 0]from rfl,mn]at hq;clear MU;refine SO ME (λMV NQ O=>?_);have⟨G,H,hq,E4,_⟩:=fL NQ G H hq E4;refine I ?_;refine cl vx (ie (A:=A1) (n:=n1) (c:=c1)) ?_;rintro _ MQ NM ⟨rfl,NP⟩;have⟨G,O,H,hq,E4⟩:=dL NM.2 G O H hq E4;refine I ?_
 refine nA (m:=n1) (enc:=λx=>[.int .i64 x,.int .i64 (((aj 10000 a1).getD x 0:Nat):Int)]) (order:=(List.range n1).reverse) (Kq:=λW=>ae W MV.heap.size 76 #[.slice A1 n1 c1]/\Rw W lo1 A1 (ints (aj 10000 a1))) (gf:=160) (lb:=[pT MV.heap.size]) (ps:=[15,16]) Z vz (fY NP (h1.row.ext E4) h1.len U) (λW W' row hq Ax hr=>⟨ab4 Ax hr hq.1,Rw.cel Ax hr hq.2⟩) (λ_=>rfl) [6,7] (λx=>[.int .i64 x,.int .i64 (((aj 10000 a1).getD x 0:Nat):Int)]) ?asn (λpre W=>∃Ar:Option Addr,∃kd:Nat,∃Af:Nat,(MQ.heap.size<=W.heap.size)/\(a8 w W)/\(ae W w.heap.size 76 #[.slice A2 n2 c2])/\(ae W As.heap.size 76 #[.slice (some ⟨kk.heap.size,0,none⟩) n1 n1])/\(ae W Ao.heap.size 76 #[.slice Ar kd Af])/\(ae W kk.heap.size 3 (ints (cF a2 (aj 10000 a1) n1 pre).1).toArray)/\(dm W MQ.heap.size Ar kd Af ((cF a2 (aj 10000 a1) n1 pre).2))) (λ_ _ _=>False) ?hI ?hIx ?h0 ?body ?done ?stop;case asn=>
  intro l x W K hK;refine I ?_;exact hK
 case hI=>
  rintro pre W W' row ⟨Ar,kd,Af,MI,E,G,O,H,hq,hv⟩ Ax hr;exact⟨Ar,kd,Af,qa8 MI Ax.size,li (B:=MQ.heap.size) U Ax hr (bz E) E,ab4 Ax hr G,ab4 Ax hr O,ab4 Ax hr H,ab4 Ax hr hq,dm.cel Ax hr hv⟩
 case hIx=>
  exact λ_ _ _ _ _ h=>h.elim
 case h0=>
  exact⟨none,0,0,qa0 _,E4,G,O,H,hq,dm.zero _ _⟩
 case body=>
  rintro l pre x W ⟨Ar,kd,Af,MI,E,G,O,H,hq,hv⟩ Ng hx Nk;have Kp:=dD.refl [Ao.heap.size,kk.heap.size] W;have zW:=bz E;have NR:=hv.hi;have hd:=getD_lt h1.lt x;have My:=zj a2 (aj 10000 a1) n1 h0 pre;have MX:=qn a2 (aj 10000 a1) n1 pre;have Nf:kd<=n2:=by rw[<-hv.len,<-h2.len];exact dx U U
  have Ne:=ab7 H;have NL:=ab7 hq;have NH:((cF a2 (aj 10000 a1) n1 pre).2*10000+((aj 10000 a1).getD x 0))<a2*10000:=by have:((cF a2 (aj 10000 a1) n1 pre).2+1)*10000<=a2*10000:=Nat.mul_le_mul_right _ My;omega
  refine I ?_;refine BS (λ_ B2 _ MW=>?_);have G:=be B2 G;have O:=be B2 O;have H:=be B2 H;have hq:=be B2 hq;have hv:=aa1 B2 hv;have E:=xt E B2;have Kp:=ab5 Kp B2;have Nv:=bz B2;refine I ?_;refine ab (jA (v:=.slice (some ⟨W.heap.size,0,none⟩) 1 1) (k:=1) fj kH Z dc Z MW Z hv.row (by rw[cY,hv.len];omega) ll Vv U U (λ_ NO N1 D1 _=>?_));have G:=aa2 D1 Vi G;have O:=aa2 D1 Vi O;have H:=aa2 D1 Vi H;have hq:=aa2 D1 Vi hq;have hv:=dm.gr D1 (λMD e=>by have:=NR MD e;simp[Value.ownBlock];omega) hv;have Kp:=dD.gr Kp D1 (λb hb=>by exact Or.inr (by simp[Value.ownBlock]at hb;omega));have E:=cK E D1 (bz E) (λg NY=>by have:=(MW.lt g NY).1;omega);have Nj:=D1.size;obtain⟨Aw,NV,rfl,NA,O0,-,-⟩:=dt N1;have hs:Rw NO W.heap.size Aw (ints (((aj 10000 a1).getD x 0)::aj 10000 ((cF a2 (aj 10000 a1) n1 pre).2))):=aa3 N1;refine clb mP (hc:=ec hs (by rw[List.length_cons,hv.len];omega) NA U) (hk:=?_);rintro _ NG E9 ⟨MF,rfl,Av,M4⟩;have G:=be E9.2 G;have O:=be E9.2 O
  have H:=be E9.2 H;have hq:=be E9.2 hq;have hv:=aa1 E9.2 hv;have E:=xt E E9.2;have Kp:=ab5 Kp E9.2;rw[sS _ _ hd]at Av;have Ad:dm NG W.heap.size Aw MF NV ((cF a2 (aj 10000 a1) n1 pre).2*10000+((aj 10000 a1).getD x 0)):=by
   refine⟨?_,?_,by omega⟩
   rw[Av];have:=(hs.ext E9.2).take MF;simpa[ints,List.map_take]using this;rw[Av,List.length_take,List.length_cons,hv.len];omega
  have uhnew:=Ad.hi;have No:MF<=n2+1:=by rw[<-Ad.len,aF 10000 U];have:=kK (B:=10000) U a2;rw[h2.len]at this;rw[Nat.pow_succ];omega
  refine SO H (λMR M6 Ap=>?_);have G:=pb M6 G;have O:=pb M6 O;have hq:=pb M6 hq;have Ad:=ab0 M6 U Ad;have E:=eK M6 E;have Kp:=ab6 Kp M6 Vg;have O1:=dX M6;refine I ?_;refine ab (bE (vf:=[.slice A2 n2 c2]) (vc:=[]) Z Z ?_);refine al FE (λ_ M8 NI=>?_);have G:=be M8.2 G;have O:=be M8.2 O;have Ap:=be M8.2 Ap;have hq:=be M8.2 hq;have Ad:=aa1 M8.2 Ad;have E:=xt E M8.2;have Kp:=ab5 Kp M8.2;refine SO NI (λ_ EW Aq=>?_);have G:=pb EW G;have O:=pb EW O;have Ap:=pb EW Ap;have hq:=pb EW hq;have Ad:=aa7 EW (λMD e=>by have:=uhnew MD e;omega) Ad;have E:=eK EW E;have Kp:=ab6 Kp EW Vg;have Nz:=dX EW;refine I ?_;refine ab (bE (vf:=[]) (vc:=[pT MR.heap.size,pT Ao.heap.size]) Z Z ?_);refine I ?_;refine bB 5 ?_;refine sf ?_;refine ay (V:=.int .i64 ((((cF a2 (aj 10000 a1) n1 pre).2*10000+((aj 10000 a1).getD x 0))/a2:Nat):Int)) (λ_ NK hR55 _=>?_) ?_;have Ap:=be hR55 Ap
  have Ad:=aa1 hR55 Ad;have Aq:=be hR55 Aq;have NJ:∀(i:Nat) (V:World),i<9999->a8 NK V->CL 161 (([Value.int .i64 i]:List Value)++([pT MR.heap.size,pT Ao.heap.size]:List Value)).toArray V (aH V λv _=>v=.bool (decide (0<aw ((a2*(i+1):Nat):Int) ((((cF a2 (aj 10000 a1) n1 pre).2*10000+((aj 10000 a1).getD x 0)):Nat):Int)))):=by(intro i V hi Y;exact CB (h2.ext (xt (xt E hR55) Y)) U (Ad.ext Y) (Aq.ext Y) (Ap.ext Y) hi)
  refine clb IA (hc:=xo (m:=9999) (lb:=[pT MR.heap.size,pT Ao.heap.size]) Iz U NJ (λi j N4 _ h=>xp i j N4 h)) (hk:=?_);rintro _ _ MG ⟨Nx,rfl,NC,Na,NW⟩;have MG:=MG.2;obtain rfl:=zm h0 NH NC Na NW;have E60:=MG;have Ny:=bz MG;refine I ?_;exact fs ⟨E60,rfl⟩;refine bj (λ_ _ _ _=>by refine ab (am (A:=some ⟨kk.heap.size,0,none⟩) (bk:=kk.heap.size) (o:=0) (m:=n1) (c:=n1) (i:=x) (oo:=x) fj eN Z Z Z hx U ?_);refine I ?_;exact bY) ?_;refine sf ?_;intro _ _ hR67 _;have G:=be hR67.2 G;have O:=be hR67.2 O;have Ap:=be hR67.2 Ap;have hq:=be hR67.2 hq;have Ad:=aa1 hR67.2 Ad;have Aq:=be hR67.2 Aq;have E:=xt E hR67.2;have Kp:=ab5 Kp hR67.2;refine ab (dn (b:=kk.heap.size) (o:=x) (v:=.int .i64 ((((cF a2 (aj 10000 a1) n1 pre).2*10000+((aj 10000 a1).getD x 0))/a2:Nat):Int)) eN Z Z Z hq (by simp[ints,MX];omega) (λN5 D2 N7=>?_));have G:=pb D2 G;have O:=pb D2 O;have Ap:=pb D2 Ap;have Ad:=ab0 D2 U Ad;have Aq:=pb D2 Aq;have E:=eK D2 E;have Kp:=ab6 Kp D2 Vg;have Nn:=dX D2
  have hq:=N7;rw[ints_set]at hq;refine I ?_;obtain⟨L,_⟩:∃L,L=N5.heap.size:=⟨_,rfl⟩;refine bB 8 ?_;refine sf ?_;refine bj (λ_ _ _ _=>by refine ab (am (A:=some ⟨kk.heap.size,0,none⟩) (bk:=kk.heap.size) (o:=0) (m:=n1) (c:=n1) (i:=x) (oo:=x) fj eN Z Z Z hx U ?_);refine I ?_;exact bY) ?_;refine bj (λ_ _ hR93 _=>by have hq:=be hR93 hq;refine ab (aT (v:=.int .i64 ((((cF a2 (aj 10000 a1) n1 pre).2*10000+((aj 10000 a1).getD x 0))/a2:Nat):Int)) U3 Z Z (aa8 hq (by simp[ints,MX,hx])) ?_);refine I ?_;exact bY) ?_
  refine da (λv w=>df L (a2*(((cF a2 (aj 10000 a1) n1 pre).2*10000+((aj 10000 a1).getD x 0))/a2)) v w) (hs:=λ_ _ _ k h=>h.ext k) (λ_ _ hR97 _=>?_) ?_;refine ab (vF (vs:=[.int .i64 ((((cF a2 (aj 10000 a1) n1 pre).2*10000+((aj 10000 a1).getD x 0))/a2:Nat):Int)]) (la:=[.slice A2 n2 c2]) vy Z Z (vT (h2.ext (xt E hR97)) U (vV My hd)) ?_);rintro _ _ MZ ⟨Ab,MO,Mz,rfl,MC⟩;have NS:=MZ;have Nq:=bz MZ;have MC:=MC.mono (lo':=L) (by have:=bz hR97;omega);refine I ?_;exact fs ⟨NS,⟨Ab,MO,Mz,rfl,MC⟩⟩;refine da (λv w=>df L (((cF a2 (aj 10000 a1) n1 pre).2*10000+((aj 10000 a1).getD x 0))-a2*(((cF a2 (aj 10000 a1) n1 pre).2*10000+((aj 10000 a1).getD x 0))/a2)) v w) (hs:=λ_ _ _ k h=>h.ext k) (λ_ _ N0 N3=>?_) ?_;obtain⟨Ab,MO,Mz,NB,MC⟩:=(N3 6 36 Z Z);have MY:a2*(((cF a2 (aj 10000 a1) n1 pre).2*10000+((aj 10000 a1).getD x 0))/a2)<=((cF a2 (aj 10000 a1) n1 pre).2*10000+((aj 10000 a1).getD x 0)):=Nat.mul_div_le _ _;have NF:MO<=MF:=by rw[<-MC.len,<-Ad.len];exact dx U MY
  have Ad:=aa1 N0 Ad;refine clb vu (hc:=lu Ad U MC U MY NF) (hk:=?_) (hv:=aA Z (aA NB Z));rintro _ _ Nb ⟨Am,ML,MN,rfl,E7⟩;have ND:=Nb.2;have E7:=E7.mono (lo':=L) (by have:=bz N0;omega);refine I ?_;exact fs ⟨ND,⟨Am,ML,MN,rfl,E7⟩⟩;refine sf ?_;intro _ _ K2 NN;have G:=be K2.2 G;have O:=be K2.2 O;have Ap:=be K2.2 Ap;have hq:=be K2.2 hq;have Aq:=be K2.2 Aq;have E:=xt E K2.2;have Kp:=ab5 Kp K2.2;obtain⟨Am,ML,MN,_,E7⟩:=(NN 7 37 Z Z);rw[show((cF a2 (aj 10000 a1) n1 pre).2*10000+((aj 10000 a1).getD x 0))-a2*(((cF a2 (aj 10000 a1) n1 pre).2*10000+((aj 10000 a1).getD x 0))/a2)=((cF a2 (aj 10000 a1) n1 pre).2*10000+((aj 10000 a1).getD x 0))%a2 by have:=Nat.div_add_mod ((cF a2 (aj 10000 a1) n1 pre).2*10000+((aj 10000 a1).getD x 0)) a2;omega]at E7
  refine SO Ap (λ_ E1 N6=>?_);have G:=pb E1 G;have O:=pb E1 O;have hq:=pb E1 hq;have Aq:=pb E1 Aq;have E7:=ab0 E1 U E7;have E:=eK E1 E;have Kp:=ab6 Kp E1 Vg;have Np:=dX E1;refine I ?_;exact⟨Kp.others (by simp only[List.mem_cons,List.not_mem_nil,or_false];rintro b (rfl|rfl);exact Ne;exact NL),λhq=>⟨Kp.blk Va hq.1,Kp.rw (λMD e=>by have:=h1.hi MD e;simp;omega) hq.2⟩,⟨Am,ML,MN,U,E,G,O,N6,(by rw[oV];exact hq),(by rw[oV];exact E7.mono U)⟩⟩
 case stop=>
  exact λ_ _ _ _ _ _ h _=>h.elim
 case done=>
  rintro D W hD ⟨Ar,kd,Af,MI,E,G,O,H,hq,hv⟩ hK;have zW:=bz E;refine I ?_;obtain⟨od,MH,NE⟩:=zk h0 h1.len;rw[NE]at hv;have MP:=qn a2 (aj 10000 a1) n1 (List.range n1).reverse;generalize hqs:(cF a2 (aj 10000 a1) n1 ((List.range n1).reverse)).1=qs at *;refine B7 mj ?_;have B1:=ab1 W;generalize hgw:World.drew W=ao1 at B1 ⊢;clear hgw;have G:=be B1 G;have O:=be B1 O;have H:=be B1 H;have hq:=be B1 hq;have hv:=aa1 B1 hv;have hK:=j9.ext B1 hK;have E:=xt E B1;have Ns:=bz B1;refine fp (i:=0) (is:=[2]) dR ⟨?_,?_,trivial⟩;refine jN Z ?_;refine(aT (v:=.slice (some ⟨kk.heap.size,0,none⟩) n1 n1) (b:=As.heap.size) (o:=0) fj Z Z (aa8 O Z) ?_);refine fp (i:=1) (is:=[2]) dR ⟨?_,?_,trivial⟩;refine jN Z ?_;refine(rp (vs:=[.slice (some ⟨kk.heap.size,0,none⟩) n1 n1]) mP Z (ec (ab2 hq (qa0 _)) MP (qa0 _) U) ?_);rintro _ _ M3 ⟨Ay,rfl,Av,M4⟩;have G:=be M3.2 G;have O:=be M3.2 O;have H:=be M3.2 H;have hq:=be M3.2 hq;have hv:=aa1 M3.2 hv;have hK:=j9.ext M3.2 hK;have E:=xt E M3.2;refine fp (i:=2) (is:=[3]) dR ⟨?_,?_,trivial⟩;refine jN Z ?_;refine(aT (v:=.slice Ar kd Af) (b:=Ao.heap.size) (o:=0) fj Z Z (aa8 H Z) ?_)
  refine fp (i:=3) (is:=[]) dR ⟨?_,trivial⟩;refine jN Z ?_;refine(dn (b:=As.heap.size) (o:=0) (v:=.slice (some ⟨kk.heap.size,0,none⟩) Ay n1) jB Z Z Z O (qa3 Z) (λ_ Ix MJ=>?_));have G:=pb Ix G;have H:=pb Ix H;have hq:=pb Ix hq;have hv:=ab0 Ix U hv;have hK:=j9.put Ix (hK.ne O) hK;have E:=eK Ix E;have O2:=dX Ix;refine fp (i:=4) (is:=[]) dR ⟨?_,trivial⟩;refine jN Z ?_;refine(dn (b:=Ao.heap.size) (o:=0) (v:=.slice Ar kd Af) jB Z Z Z H (qa3 Z) (λ_ M7 NT=>?_));have G:=pb M7 G;have MJ:=pb M7 MJ;have hq:=pb M7 hq;have hv:=ab0 M7 U hv;have hK:=j9.put M7 (hK.ne H) hK;have E:=eK M7 E;have Nr:=dX M7;refine vG dR (I ?_);have MA:=hv.dfr hK;have L2:=ae.dfr hK hq;refine gZ (v:=.tuple #[.slice (some ⟨kk.heap.size,0,none⟩) Ay n1,.slice Ar kd Af]) hK (cJ (r1:=.cell 4 76) (r2:=.cell 5 76) Z ?_ ?_) ((dU _).low E U) ⟨_,_,_,_,_,_,rfl,sT (ab2 L2 U) od MH Av U M4,MA.mono U⟩;refine du (b:=As.heap.size) (o:=0) fj Z ?_ ?_;exact Z
  exact aa8 (MJ.dfr hK) Z;refine du (b:=Ao.heap.size) (o:=0) fj Z ?_ ?_;exact Z;exact aa8 (NT.dfr hK) Z;refine jN Z ?_;refine(dn (b:=As.heap.size) (o:=0) (v:=.slice (some ⟨kk.heap.size,0,none⟩) Ay n1) jB Z Z Z O (qa3 Z) (λ_ Jx MK=>?_));have G:=pb Jx G;have H:=pb Jx H;have hq:=pb Jx hq;have hv:=ab0 Jx U hv;have hK:=j9.put Jx (hK.ne O) hK;have E:=eK Jx E;have Ni:=dX Jx;refine fp (i:=2) (is:=[]) dR ⟨?_,trivial⟩;refine jN Z ?_;refine(aT (v:=.slice Ar kd Af) (b:=Ao.heap.size) (o:=0) fj Z Z (aa8 H Z) ?_);refine fp (i:=4) (is:=[]) dR ⟨?_,trivial⟩;refine jN Z ?_;refine(dn (b:=Ao.heap.size) (o:=0) (v:=.slice Ar kd Af) jB Z Z Z H (qa3 Z) (λ_ M0 N9=>?_));have G:=pb M0 G;have MK:=pb M0 MK;have hq:=pb M0 hq;have hv:=ab0 M0 U hv;have hK:=j9.put M0 (hK.ne H) hK;have E:=eK M0 E;have Nu:=dX M0;refine vG dR (I ?_);have MA:=hv.dfr hK;have L2:=ae.dfr hK hq;refine gZ (v:=.tuple #[.slice (some ⟨kk.heap.size,0,none⟩) Ay n1,.slice Ar kd Af]) hK (cJ (r1:=.cell 4 76) (r2:=.cell 5 76) Z ?_ ?_) ((dU _).low E U) ⟨_,_,_,_,_,_,rfl,sT (ab2 L2 U) od MH Av U M4,MA.mono U⟩
  refine du (b:=As.heap.size) (o:=0) fj Z ?_ ?_;exact Z;exact aa8 (MK.dfr hK) Z;refine du (b:=Ao.heap.size) (o:=0) fj Z ?_ ?_;exact Z;exact aa8 (N9.dfr hK) Z;refine jN Z ?_;refine(aT (v:=.slice Ar kd Af) (b:=Ao.heap.size) (o:=0) fj Z Z (aa8 H Z) ?_);refine fp (i:=1) (is:=[]) dR ⟨?_,trivial⟩;refine jN Z ?_;refine(rp (vs:=[.slice (some ⟨kk.heap.size,0,none⟩) n1 n1]) mP Z (ec (ab2 hq (qa0 _)) MP (qa0 _) U) ?_);rintro _ _ M1 ⟨Ay,rfl,Av,M4⟩;have G:=be M1.2 G;have O:=be M1.2 O;have H:=be M1.2 H;have hq:=be M1.2 hq;have hv:=aa1 M1.2 hv;have hK:=j9.ext M1.2 hK;have E:=xt E M1.2;refine fp (i:=3) (is:=[]) dR ⟨?_,trivial⟩;refine jN Z ?_;refine(dn (b:=As.heap.size) (o:=0) (v:=.slice (some ⟨kk.heap.size,0,none⟩) Ay n1) jB Z Z Z O (qa3 Z) (λ_ MB MM=>?_));have G:=pb MB G;have H:=pb MB H;have hq:=pb MB hq;have hv:=ab0 MB U hv;have hK:=j9.put MB (hK.ne O) hK;have E:=eK MB E;have Nt:=dX MB;refine fp (i:=4) (is:=[]) dR ⟨?_,trivial⟩;refine jN Z ?_;refine(dn (b:=Ao.heap.size) (o:=0) (v:=.slice Ar kd Af) jB Z Z Z H (qa3 Z) (λ_ M9 N8=>?_))
  have G:=pb M9 G;have MM:=pb M9 MM;have hq:=pb M9 hq;have hv:=ab0 M9 U hv;have hK:=j9.put M9 (hK.ne H) hK;have E:=eK M9 E;have Nh:=dX M9;refine vG dR (I ?_);have MA:=hv.dfr hK;have L2:=ae.dfr hK hq;refine gZ (v:=.tuple #[.slice (some ⟨kk.heap.size,0,none⟩) Ay n1,.slice Ar kd Af]) hK (cJ (r1:=.cell 4 76) (r2:=.cell 5 76) Z ?_ ?_) ((dU _).low E U) ⟨_,_,_,_,_,_,rfl,sT (ab2 L2 U) od MH Av U M4,MA.mono U⟩;refine du (b:=As.heap.size) (o:=0) fj Z ?_ ?_;exact Z;exact aa8 (MM.dfr hK) Z;refine du (b:=Ao.heap.size) (o:=0) fj Z ?_ ?_;exact Z;exact aa8 (N8.dfr hK) Z;refine jN Z ?_;refine(aT (v:=.slice Ar kd Af) (b:=Ao.heap.size) (o:=0) fj Z Z (aa8 H Z) ?_);refine fp (i:=0) (is:=[]) dR ⟨?_,trivial⟩;refine jN Z ?_;refine(aT (v:=.slice (some ⟨kk.heap.size,0,none⟩) n1 n1) (b:=As.heap.size) (o:=0) fj Z Z (aa8 O Z) ?_);refine fp (i:=1) (is:=[]) dR ⟨?_,trivial⟩;refine jN Z ?_;refine(rp (vs:=[.slice (some ⟨kk.heap.size,0,none⟩) n1 n1]) mP Z (ec (ab2 hq (qa0 _)) MP (qa0 _) U) ?_);rintro _ _ M2 ⟨Ay,rfl,Av,M4⟩
  have G:=be M2.2 G;have O:=be M2.2 O;have H:=be M2.2 H;have hq:=be M2.2 hq;have hv:=aa1 M2.2 hv;have hK:=j9.ext M2.2 hK;have E:=xt E M2.2;refine fp (i:=3) (is:=[]) dR ⟨?_,trivial⟩;refine jN Z ?_;refine(dn (b:=As.heap.size) (o:=0) (v:=.slice (some ⟨kk.heap.size,0,none⟩) Ay n1) jB Z Z Z O (qa3 Z) (λ_ ny wr=>?_));have G:=pb ny G;have H:=pb ny H;have hq:=pb ny hq;have hv:=ab0 ny U hv;have hK:=j9.put ny (hK.ne O) hK;have E:=eK ny E;have Nl:=dX ny;refine fp (i:=4) (is:=[]) dR ⟨?_,trivial⟩;refine jN Z ?_;refine(dn (b:=Ao.heap.size) (o:=0) (v:=.slice Ar kd Af) jB Z Z Z H (qa3 Z) (λ_ M5 NU=>?_));have G:=pb M5 G;have wr:=pb M5 wr;have hq:=pb M5 hq;have hv:=ab0 M5 U hv;have hK:=j9.put M5 (hK.ne H) hK;have E:=eK M5 E;have Nw:=dX M5;refine vG dR (I ?_);have MA:=hv.dfr hK;have L2:=ae.dfr hK hq;refine gZ (v:=.tuple #[.slice (some ⟨kk.heap.size,0,none⟩) Ay n1,.slice Ar kd Af]) hK (cJ (r1:=.cell 4 76) (r2:=.cell 5 76) Z ?_ ?_) ((dU _).low E U) ⟨_,_,_,_,_,_,rfl,sT (ab2 L2 U) od MH Av U M4,MA.mono U⟩
  refine du (b:=As.heap.size) (o:=0) fj Z ?_ ?_;exact Z;exact aa8 (wr.dfr hK) Z;refine du (b:=Ao.heap.size) (o:=0) fj Z ?_ ?_;exact Z;exact aa8 (NU.dfr hK) Z
end Go.Proofs.YtgcfffdpcefifaaGreatDoor
namespace Go.Eng
variable {l d:List UInt8}
def bP (c:UInt8):Bool:=decide (48<=c.toNat)&&decide (c.toNat<=57)
def body:List UInt8->List UInt8
 |45::t=>t
 |l=>l
def neg:List UInt8->Bool
 |45::_=>true
 |_=>false
def dy (l:List UInt8):List Nat:=l.reverse.map λc=>c.toNat-48
def au (l:List UInt8):Nat:=bg 10 (dy l)
def dh (d:List UInt8):Bool:=!d.isEmpty&&decide (d.length<=200)&&d.all bP&&(decide (d=[48])||decide (d.head?≠some 48))
def isInt (l:List UInt8):Bool:=dh (body l)&& !(neg l&&decide (body l=[48]))
def ao (l:List UInt8):Int:=if neg l then -(au (body l):Int)else(au (body l):Int)
def b9 (l:List Nat):List UInt8:=l.reverse.map λd=>UInt8.ofNat (48+d)
def aY (n:Nat):List UInt8:=if n=0 then[48]else b9 (aj 10 n)
def aa (n:Int):List UInt8:=if n<0 then 45::aY n.natAbs else aY n.natAbs
def fits (n:Int):Bool:=decide (n.natAbs<10^200)
def GO {c:UInt8}(h:bP c=true):c.toNat-48<10:=by simp[bP]at h;omega
def nE (h:l.all bP=true):∀d∈dy l,d<10:=by
 intro d hd
 simp only[dy,List.mem_map,List.mem_reverse]at hd
 obtain⟨c,hc,rfl⟩:=hd
 exact GO (List.all_eq_true.1 h c hc)
def byte_of {c:UInt8}(h:bP c=true):UInt8.ofNat (48+(c.toNat-48))=c:=by
 simp[bP]at h
 rw[show 48+(c.toNat-48)=c.toNat by omega]
 simp
def uI (h:l.all bP=true):b9 (dy l)=l:=by
 unfold b9 dy
 rw[<-List.map_reverse,List.reverse_reverse,List.map_map]
 conv=>rhs;rw[<-List.map_id l]
 apply List.map_congr_left
 intro c hc
 exact byte_of (List.all_eq_true.1 h c hc)
def uJ {l:List Nat}(h:∀d∈l,d<10):dy (b9 l)=l:=by
 unfold b9 dy
 rw[<-List.map_reverse,List.reverse_reverse,List.map_map]
 conv=>rhs;rw[<-List.map_id l]
 apply List.map_congr_left
 intro d hd
 have:=h d hd
 simp only[Function.comp,UInt8.toNat_ofNat',id]
 omega
def xq {l:List Nat}(h:∀d∈l,d<10):(b9 l).all bP=true:=by
 rw[List.all_eq_true]
 intro c hc
 simp only[b9,List.mem_map,List.mem_reverse]at hc
 obtain⟨d,hd,rfl⟩:=hc
 have:=h d hd
 simp only[bP,UInt8.toNat_ofNat',Bool.and_eq_true,decide_eq_true_eq]
 omega
def b8 (l:List Nat):(b9 l).length=l.length:=by simp[b9]
def eY (l:List UInt8):(dy l).length=l.length:=by simp[dy]
def oW (h:dh d=true)(h0:d≠[48]):Canon 10 (dy d):=by
 simp only[dh,Bool.and_eq_true,Bool.or_eq_true,decide_eq_true_eq]at h
 obtain⟨⟨⟨h1,O⟩,G⟩,E⟩:=h
 refine⟨nE G,?_⟩
 rcases E with E|E
 · exact absurd E h0
 · cases d with
   |nil=>simp at h1
   | cons c t=>
     have hc:bP c=true:=by simp at G;exact G.1
     have H:c≠48:=by simpa using E
     simp only[dy,List.reverse_cons,List.map_append,List.map_cons,List.map_nil,List.getLast?_concat,ne_eq,Option.some.injEq]
     intro _
     simp[bP]at hc
     have:c.toNat=48:=J
     exact H (UInt8.toNat_inj.1 (by simpa using this))
def sU (h:dh d=true)(h0:d≠[48]):dy d=aj 10 (au d):=jK J (oW h h0)
def mo:au [48]=0:=by decide
def lv (h:dh d=true)(h0:d≠[48]):0<au d:=by
 refine Canon.pos J (oW h h0) ?_
 intro e
 have:d.length=0:=by rw[<-eY,e];rfl
 simp[dh,List.length_eq_zero_iff.1 this]at h
def fM (h:dh d=true):d.all bP=true:=by
 simp only[dh,Bool.and_eq_true]at h;exact h.1.2
def gN (h:dh d=true):0<d.length/\d.length<=200:=by
 simp only[dh,Bool.and_eq_true,decide_eq_true_eq]at h
 refine⟨?_,h.1.1.2⟩
 have:=h.1.1.1
 cases d <;>simp at this ⊢
def nF (h:dh d=true):au d<10^200:=by
 have h1:au d<10^d.length:=by rw[<-eY];exact fK 10 _ (nE (fM h))
 exact qb0 h1 (Nat.pow_le_pow_right J (gN h).2)
def oX (h:dh d=true):aY (au d)=d:=by
 by_cases h0:d=[48]
 · subst h0;decide
 · unfold aY
   rw[if_neg (by have:=lv h h0;omega),<-sU h h0,uI (fM h)]
def kL {n:Nat}(h:n≠0):aj 10 n≠[]:=λe=>h (by have:=bU 10 J n;rw[e]at this;exact this.symm)
def ee (n:Nat):au (aY n)=n:=by
 unfold aY
 split
 · next h=>subst h;decide
 · rw[au,uJ (cu 10 J n),bU 10 J]
def sV {n:Nat}(h:n<10^200):dh (aY n)=true:=by
 unfold aY
 split
 · decide
 · next h0=>
   have G:=kL h0
   have hl:(aj 10 n).length<=200:=(aF 10 J n 200).2 h
   have h1:(b9 (aj 10 n)).isEmpty=false:=by
    cases hh:b9 (aj 10 n)with
    |nil=>exact absurd (List.length_eq_zero_iff.1 (by rw[<-b8,hh];rfl)) G
    |cons a b=>rfl
   simp only[dh,h1,xq (cu 10 J n),b8,hl,decide_true,Bool.not_false,Bool.and_self,Bool.true_and,Bool.or_eq_true,decide_eq_true_eq]
   right
   have E:=hU 10 J n
   have H:=cu 10 J n
   unfold b9
   rw[List.head?_map,List.head?_reverse]
   cases hg:(aj 10 n).getLast? with
   |none=>simp
   | some x=>
     simp only[Option.map_some,ne_eq,Option.some.injEq]
     intro e
     have hx:x<10:=H x (List.mem_of_getLast? hg)
     have:=qb1 UInt8.toNat e
     simp at this
     have:x=0:=J
     subst this
     exact E hg
def jg (n:Nat):(aY n).head?≠some 45:=by
 unfold aY
 split
 · decide
 · unfold b9
   rw[List.head?_map,List.head?_reverse]
   cases hg:(aj 10 n).getLast? with
   |none=>simp
   | some x=>
     have hx:x<10:=cu 10 J n x (List.mem_of_getLast? hg)
     simp only[Option.map_some,ne_eq,Option.some.injEq]
     intro e
     have:=qb1 UInt8.toNat e
     simp at this
     omega
def xr {a b:Nat}(h:aY a=aY b):a=b:=by rw[<-ee a,h,ee]
def lw (h:l.head?≠some 45):body l=l:=by
 unfold body;split
 · simp at h
 · rfl
def zn (h:l.head?≠some 45):neg l=false:=by
 unfold neg;split
 · simp at h
 · rfl
def jT (h:neg l=true):l=45::body l:=by
 unfold neg at h;split at h
 · rfl
 · cases h
def iM (h:neg l=false):body l=l:=by
 unfold neg at h;split at h
 · cases h
 · next hh => unfold body;split
              · exact absurd Z (hh _)
              · rfl
def cN (h:isInt l=true):dh (body l)=true:=by
 simp only[isInt,Bool.and_eq_true]at h;exact h.1
def kM (h:isInt l=true)(hn:neg l=true):body l≠[48]:=by
 simp only[isInt,Bool.and_eq_true,hn,Bool.true_and,Bool.not_eq_true',decide_eq_false_iff_not]at h;exact h.2
def cZ (l:List UInt8):(ao l).natAbs=au (body l):=by unfold ao;split <;>simp
def sW (h:isInt l=true):decide (ao l<0)=neg l:=by
 unfold ao
 cases hn:neg l with
 | true=>
   have:=lv (cN h) (kM h hn)
   simp;omega
 |false=>simp
def eL (h:isInt l=true):fits (ao l)=true:=by
 simp only[fits,cZ,decide_eq_true_eq];exact nF (cN h)
def dj (h:isInt l=true):aa (ao l)=l:=by
 have E:=sW h
 unfold aa
 rw[cZ,oX (cN h)]
 cases hg:neg l with
 | true=>
   rw[hg,decide_eq_true_eq]at E
   rw[if_pos E,<-jT hg]
 | false=>
   rw[hg,decide_eq_false_iff_not]at E
   rw[if_neg E,iM hg]
def dI (n:Int):body (aa n)=aY n.natAbs:=by
 unfold aa
 split
 · rfl
 · exact lw (jg _)
def gO (n:Int):neg (aa n)=decide (n<0):=by
 unfold aa
 split
 · next h=>simp[neg,h]
 · next h=>rw[zn (jg _)];simp[h]
def aG (n:Int):ao (aa n)=n:=by
 unfold ao
 rw[gO,dI,ee]
 by_cases h:n<0
 · simp[h];omega
 · simp[h];omega
def bV {n:Int}(h:fits n=true):isInt (aa n)=true:=by
 have h1:n.natAbs<10^200:=of_decide_eq_true h
 unfold isInt
 rw[dI,gO,sV h1,Bool.true_and,Bool.not_eq_true',Bool.and_eq_false_iff]
 by_cases hn:n<0
 · right
   rw[decide_eq_false_iff_not]
   intro e
   have:=xr (a:=n.natAbs) (b:=0) (by rw[e];decide)
   omega
 · left;simp[hn]
def zp {a b:List UInt8}(ha:isInt a=true)(hb:isInt b=true)(h:ao a=ao b):a=b:=by
 rw[<-dj ha,h,dj hb]
def gP {a b:Int}(h:aa a=aa b):a=b:=by rw[<-aG a,h,aG]
def g6:isInt [48]=true:=by decide
def iN:ao [48]=0:=by decide
def fw (h:isInt l=true):ao l=0↔l=[48]:=
 ⟨λe=>zp h g6 (e.trans iN.symm),λe=>by rw[e,iN]⟩
def aR (n:Int):Option (List UInt8):=if fits n then some (aa n)else none
def pJ (a b:List UInt8):Option (List UInt8):=if isInt a&&isInt b then aR (ao a+ao b)else none
def aN (a b:List UInt8):Option (List UInt8):=if isInt a&&isInt b then aR (ao a-ao b)else none
def av (a b:List UInt8):Option (List UInt8):=if isInt a&&isInt b then aR (ao a*ao b)else none
def cR (a b:List UInt8):Option (List UInt8×List UInt8):=if isInt a&&isInt b&&decide (b≠[48])then(aR (ao a/ao b)).map λq=>(q,aa (ao a%ao b))else none
def bD (a b:List UInt8):Option (List UInt8):=if isInt a&&isInt b then aR ((Int.gcd (ao a) (ao b):Nat):Int)else none
def eC (a b:List UInt8):Int:=if isInt a&&isInt b then aw (ao a) (ao b)else 0
end Go.Eng
namespace Go.Proofs.YtgcfffdpcefifaaGreatDoor
open Go Go.Eng Go.RowKit Go.Sort Go.Proofs Tryz
variable {cs args:Array Value}{nx ny:Bool}{gs:List Nat}{l d:List UInt8}{b m a n1 c1 lo1 n2 c2 lo2:Nat}{A1 A2:Option Addr}{w w':World}
section
def Tb (w:World):Prop:=∃fz:Nat×Nat,w.heap[2]?=some (.cells ((Lib.pow10Tab.map λz=>Value.int .u64 z).toArray) 222 fz)
def Tb.ext (k:a8 w w')(h:Tb w):Tb w':=by
 obtain⟨E,h⟩:=h
 exact⟨E,k.heap h⟩
def aa6:=@Tb.ext
def Tb.gr {t:TypeId}(k:w.grownBy w' (some b))(hb:ae w b t cs)(ht:t≠222)(h:Tb w):Tb w':=by
 obtain⟨E,h⟩:=h
 refine⟨E,(k.block 2 (Array.getElem?_eq_some_iff.1 h).1 (λe=>?_)).trans h⟩
 cases e
 unfold ae at hb
 rw[hb]at h;cases h;exact ht Z
def Tb.put {t:TypeId}(k:fe w w' b)(hb:ae w b t cs)(ht:t≠222)(h:Tb w):Tb w':=by
 obtain⟨E,h⟩:=h
 refine⟨E,(k.block 2 (λe=>?_)).trans h⟩
 subst e
 unfold ae at hb
 rw[hb]at h;cases h;exact ht Z
def Tb.tab (h : Tb w) : Lib.TabIs prog w "internal/strconv.uint64pow10" .u64 Lib.pow10Tab := by
 obtain⟨G,h⟩:=h
 unfold Lib.TabIs World.var?
 have E : prog.globalNamed "internal/strconv.uint64pow10" = some 2 := by kernel_rfl
 rw[E]
 simp only[Option.bind_some,h]
def oY {P:Program}{f:FuncId}{R:Ending->World->Prop}{Q:Value->World->Prop}(h:Calls P f args w R)(hq:∀e w',R e w'->∃v,e=.returned v/\a8 w w'/\Q v w'):Calls P f args w (aH w Q):=
 h.mono (by
  intro e w' hR
  obtain⟨v,rfl,h1,E⟩:=hq e w' hR
  exact⟨h1,E⟩)
def zq (w:World)(k:Nat)(os:Array Obj):a8 w (grow (w.drewN k) os):=by
 refine⟨rfl,rfl,rfl,by simp[grow],λi hi=>?_⟩
 simp only[grow]
 rw[Array.getElem?_append_left (by simpa using hi)]
 rfl
def mp (l:List UInt8):(ByteArray.mk l.toArray).data.toList=l:=by simp
def oZ (l:List UInt8):(ByteArray.mk l.toArray).size=l.length:=by simp[ByteArray.size]
def rr (n:Int)(w:World)(h0:-9223372036854775808<=n)(h1:n<=9223372036854775807)(ht:Tb w):CL 98 #[.int .i64 n] w (aH w λv _=>v=S (Lib.itoa n)):=
 oY (Tryz.strconv_Itoa n h0 h1 w ht.tab) (by
  rintro e w' ⟨rfl,k,os,rfl⟩
  exact⟨_,rfl,zq w k os,rfl⟩)
def o0 (w:World)(e:TypeId)(s:ByteArray):a8 w (Lib.bytesWorld w e s):=by
 have h1:a8 w (w.drew.alloc (.cells (Lib.bytesCells w e s) e)):=a8.trans (ab1 w) (a8.alloc _ _)
 have E:w.heap.size<(w.drew.alloc (.cells (Lib.bytesCells w e s) e)).heap.size:=by simp[World.alloc,World.drew,-World.alloc_eq,-World.drew_eq]
 unfold Lib.bytesWorld World.freeze
 refine⟨h1.os,h1.tape,h1.output,by simpa using h1.size,λi hi=>?_⟩
 rw[<-h1.block i hi]
 split
 · next h=>cases h
 · show(Array.modify _ _ _)[i]? =_
   rw[Array.getElem?_modify,if_neg Va]
def CC (l:List UInt8)(n:Int)(w:World)(hl:l.length<=18)(h:Lib.atoi l=some n):CL 157 #[S l] w (aH w λv _=>v=.tuple #[.int .i64 n,.nilIface]):=
 oY (Tryz.strconv_Atoi ⟨l.toArray⟩ n (by rw[oZ];exact hl) (by rw[mp];exact h) w) (by
  rintro e w' ⟨rfl,t,rfl⟩
  exact⟨_,rfl,o0 w 5 t,rfl⟩)
def mr (l:List UInt8)(c:Nat)(w:World)(hc:c<=1000000)(hl:l.length<=1000000):CL 56 #[S l,.int .i64 ((c:Nat):Int)] w (aH w λv _=>v=S (Lib.repeatL l c)):=by
 refine oY (Tryz.strings_Repeat ⟨l.toArray⟩ c w J (by rw[oZ];have:=qb7 hl hc;omega)) ?_
 rintro e w' ⟨rfl,k⟩
 exact⟨_,rfl,k,by rw[mp];rfl⟩
def pK (l p:List UInt8)(w:World):CL 99 #[S l,S p] w (aH w λv _=>v=S (Lib.trimPrefix l p)):=
 oY (Tryz.strings_TrimPrefix ⟨l.toArray⟩ ⟨p.toArray⟩ w) (by
  rintro e w' ⟨rfl,rfl⟩
  exact⟨_,rfl,aa4 _,by rw[mp,mp];rfl⟩)
def nk (l:List UInt8):Lib.trimPrefix l [45]=body l:=by
 unfold Lib.trimPrefix Lib.hasPrefix
 cases l with
 |nil=>rfl
 | cons c t=>
   by_cases hc:c=45
   · subst hc;simp[List.isPrefixOf,body]
   · have h1:([45]:List UInt8).isPrefixOf (c::t)=false:=by
      simp[List.isPrefixOf];exact λh=>hc h.symm
     rw[h1,lw (by simpa using hc)];rfl
def eD:List UInt8:=[48,49,50,51,52,53,54,55,56,57]
def CE (l:List UInt8)(w:World)(hl:l.length<=9223372036854775807):CL 156 #[S l,S eD] w (aH w λv _=>v=S (Lib.trimS l eD)):=
 oY (Any.strings_Trim_laid Tryz.lays160 q0 ⟨l.toArray⟩ ⟨eD.toArray⟩ w (by rw[oZ];exact hl) (by decide) (ascii_of_all (by decide))) (by
  rintro e w' ⟨rfl,k⟩
  exact⟨_,rfl,k,by rw[mp,mp];rfl⟩)
end
section
attribute [local irreducible] wpListIn Code.wpIn Oper.wpIn Exit.then Exit.inBlock Exit.noGoto
set_option maxHeartbeats 40000000
def aQ {p:Prop}(h:p:=by assumption):p:=h
def lx (l:List UInt8)(w:World):CL 99 #[S l,S [45]] w (aH w λv _=>v=S (body l)):=by
 have h:=pK l [45] w
 rw[nk]at h
 exact h
def o3 {b:UInt8}:eD.contains b=bP b:=by
 have h:∀b:Fin 256,eD.contains (UInt8.ofNat b.val)=bP (UInt8.ofNat b.val):=by decide +kernel
 have:=h ⟨b.toNat,b.toNat_lt⟩
 simpa using this
def qo (d:List UInt8):Lib.trimS d eD=[]↔d.all bP=true:=by
 have hd:∀l:List UInt8,l.dropWhile (λb=>eD.contains b)=[]↔l.all bP=true:=by
  intro l
  induction l with
  |nil=>simp
  | cons a t ih=>
    simp only[List.dropWhile_cons,List.all_cons,o3]at ih ⊢
    cases bP a <;>simp_all
 unfold Lib.trimS Lib.trimLeftS
 rw[hd]
 unfold Lib.trimRightS
 constructor
 · intro h
   by_cases hn:(d.reverse.dropWhile (λb=>eD.contains b))=[]
   · rw[hd]at hn;simpa using hn
   · exfalso
     have G:(d.reverse.dropWhile (λb=>eD.contains b)).head hn∉eD:=by
      have:=List.head_dropWhile_not (p:=λb=>eD.contains b) (l:=d.reverse) hn
      simpa using this
     have E:bP ((d.reverse.dropWhile (λb=>eD.contains b)).head hn)=true:=by
      refine List.all_eq_true.1 h _ ?_
      rw[List.mem_reverse]
      exact List.head_mem hn
     rw[<-o3]at E
     exact G (by simpa using E)
 · intro h
   have:(d.reverse.dropWhile (λb=>eD.contains b))=[]:=by rw[hd];simpa using h
   rw[this];rfl
def zr (h:body l=[]):Value.bool false=.bool (isInt l):=by simp[isInt,dh,h]
def zs (h:(200:Int)<(((body l).length:Nat):Int)):Value.bool false=.bool (isInt l):=by
 have:¬(body l).length<=200:=J
 simp[isInt,dh,this]
def zt (h:¬Lib.trimS (body l) eD=[]):Value.bool false=.bool (isInt l):=by
 rw[qo]at h
 simp[isInt,dh,h]
def zu (h:l=[48]):Value.bool true=.bool (isInt l):=by subst h;rw[g6]
def CF (h:¬l=[]):0<l.length:=List.length_pos_iff.2 h
def sX {c:UInt8}(hc:(body l)[0]?=some c)(h1:¬body l=[])(h2:¬(200:Int)<(((body l).length:Nat):Int))(h3:Lib.trimS (body l) eD=[])(h4:¬l=[48]):
 Value.bool (!decide (((c.toNat:Nat):Int)=48))=.bool (isInt l):=by
 rw[qo]at h3
 have H:(body l).length<=200:=J
 have kk:(body l).isEmpty=false:=by cases hb:body l <;>simp_all
 have O:(((c.toNat:Nat):Int)=48)↔c=48:=by
  constructor
  · intro h;exact UInt8.toNat_inj.1 (by have:(48:UInt8).toNat=48:=rfl;omega)
  · intro h;subst h;rfl
 have G:(body l).head?=some c:=by rw[List.head?_eq_getElem?];exact hc
 congr 1
 simp only[isInt,dh,h3,H,kk,G,decide_true,Bool.not_false,Bool.true_and,Option.some.injEq,O,ne_eq]
 by_cases hb:body l=[48]
 · have E:neg l=true:=by
    cases E:neg l with
    |true=>rfl
    |false=>exact absurd ((iM E).symm.trans hb) h4
   have:c=48:=by rw[hb]at hc;simpa using hc.symm
   simp[hb,E,this]
 · simp[hb]
set_option maxRecDepth 100000 in
theorem fO (l:List UInt8)(w:World):
 CL 108 #[S l] w (aH w λv w'=>v=.bool (isInt l)):=by
 refine aC func108 rfl ?_;refine I ?_;refine cl sA (lx l _) ?_;rintro _ _ E rfl;have E4:=E.2;refine I ?_;by_cases h5:(body l)=([]);refine I ?_;refine k0 (b:=[]) ?_;refine I ?_;exact an (t:=2) (v:=.bool false) rfl E4 (by first|exact zr aQ|exact zs aQ|exact zt aQ|exact zu aQ|exact sX aQ aQ aQ aQ aQ) rfl;by_cases h6:200<(((body l).length:Nat):Int);refine I ?_;refine k0 (b:=[]) ?_;refine I ?_;refine ab (bF (l:=body l) U9 rfl ?_);refine I ?_;exact an (t:=2) (v:=.bool false) rfl E4 (by first|exact zr aQ|exact zs aQ|exact zt aQ|exact zu aQ|exact sX aQ aQ aQ aQ aQ) rfl;refine I ?_;refine k0 (b:=[]) ?_;refine I ?_;refine ab (bF (l:=body l) U9 rfl ?_);refine I ?_;refine clb IE (hc:=CE (body l) _ U) (hk:=?_);rintro _ _ G rfl;have E4:=xt E4 G.2;refine I ?_;refine KP (b:=[]) ?_;refine I ?_;by_cases h10:(Lib.trimS (body l) eD)=([]);refine I ?_;by_cases h11:l=([48]);refine I ?_;refine k0 (b:=[48]) ?_;refine I ?_
 exact an (t:=2) (v:=.bool true) rfl E4 (by first|exact zr aQ|exact zs aQ|exact zt aQ|exact zu aQ|exact sX aQ aQ aQ aQ aQ) rfl;refine I ?_;refine k0 (b:=[48]) ?_;refine I ?_;have H:=cj (l:=body l) (i:=0) (CF aQ);refine ab (dZ (l:=body l) (i:=0) (c:=((body l).getD 0 0)) U9 rfl rfl H ?_);refine I ?_;exact an (t:=2) (v:=.bool (!decide (((((body l).getD 0 0).toNat:Nat):Int)=48))) rfl E4 (by first|exact zr aQ|exact zs aQ|exact zt aQ|exact zu aQ|exact sX aQ aQ aQ aQ aQ) rfl;refine I ?_;exact an (t:=2) (v:=.bool false) rfl E4 (by first|exact zr aQ|exact zs aQ|exact zt aQ|exact zu aQ|exact sX aQ aQ aQ aQ aQ) rfl
def sY (a b:List UInt8):dy (a++b)=dy b++dy a:=by simp[dy]
def uK (gs:List Nat)(a b:List Nat)(v:Nat)(k:Nat)(hk:gs.length=k)(ha:a.length=4*k)(h:bg 10000 gs=bg 10 a)(hv:v=bg 10 b):bg 10000 (gs++[v])=bg 10 (a++b):=by
 rw[bH,bH,h,ha,hk,hv]
 have:(10:Nat)^(4*k)=10000^k:=by rw[Nat.pow_mul]
 rw[this]
 simp[bg]
def lz:∀(l:List UInt8) (acc:Nat),l.all bP=true->Lib.decFrom acc l=some (acc*10^l.length+bg 10 (dy l))
 |[],acc,_=>by simp[Lib.decFrom,dy,bg]
 | c::t,acc,h=>by
   simp only[List.all_cons,Bool.and_eq_true]at h
   have h1:=h.1
   simp only[bP,Bool.and_eq_true,decide_eq_true_eq]at h1
   rw[Lib.decFrom,Lib.digitVal,if_pos h1]
   simp only[]
   rw[lz t _ h.2]
   have e:dy (c::t)=dy t++[c.toNat-48]:=by simp[dy]
   rw[e,bH,eY]
   simp only[bg,List.length_cons,Nat.pow_succ,Option.some.injEq]
   generalize 10^t.length=p
   generalize c.toNat-48=x
   rw[Nat.add_mul,Nat.mul_comm p 10,<-Nat.mul_assoc,Nat.mul_comm x p]
   simp
   omega
def xu (h:l.all bP=true)(h0:l≠[]):Lib.atoi l=some ((bg 10 (dy l):Nat):Int):=by
 cases l with
 |nil=>exact absurd Z h0
 | cons c t=>
   have hc:bP c=true:=by simp at h;exact h.1
   simp only[bP,Bool.and_eq_true,decide_eq_true_eq]at hc
   have h1:(c==45)=false:=by
    rw[beq_eq_false_iff_ne];intro e;subst e;exact absurd hc.1 dc
   have E:(c==43)=false:=by
    rw[beq_eq_false_iff_ne];intro e;subst e;exact absurd hc.1 dc
   rw[Lib.atoi,h1,E]
   simp only[Bool.false_eq_true,if_false]
   rw[Lib.decNat]
   simp only[List.isEmpty_cons,Bool.false_eq_true,if_false]
   rw[lz _ 0 h]
   simp
def uL (l:List UInt8)(h:l.all bP=true)(hl:l.length<=4):bg 10 (dy l)<10000:=by
 have h1:=fK 10 (dy l) (nE h)
 rw[eY]at h1
 exact qb0 h1 (qa8 (Nat.pow_le_pow_right U hl) U)
def sZ (h:d.all bP=true)(i j:Nat):((d.take j).drop i).all bP=true:=by
 rw[List.all_eq_true]at *
 exact λx hx=>h x (List.mem_of_mem_take (List.mem_of_mem_drop hx))
structure xW (d:List UInt8)(m:Nat)(gs:List Nat):Prop where
 le:m<=d.length
 full:0<m->d.length-m=4*gs.length
 val:bg 10000 gs=bg 10 (dy (d.drop m))
 lt:∀g∈gs,g<10000
 cnt:gs.length<=d.length
def xW.start (d:List UInt8):xW d d.length []:=⟨qa0 _,λ_=>by simp,by simp[dy,bg],by simp,by simp⟩
def xW.step (hd:d.all bP=true)(h:xW d m gs)(hm:0<m):xW d (m-4) (gs++[bg 10 (dy ((d.take m).drop (m-4)))]):=by
 have G:=h.le
 have hf:=h.full hm
 refine⟨by omega,λ_=>by simp;omega,?_,?_,by simp;omega⟩
 · have e:d.drop (m-4)=(d.take m).drop (m-4)++d.drop m:=by
    rw[<-List.drop_append_of_le_length Va,List.take_append_drop]
   rw[e,sY]
   exact uK _ _ _ _ _ Z (by rw[eY,List.length_drop];exact hf) h.val Z
 · intro g E
   rcases List.mem_append.1 E with E|E
   · exact h.lt g E
   · rw[List.mem_singleton.1 E]
     exact uL _ (sZ hd _ _) Va
def xW.len (h:xW d m gs)(hm:0<m):gs.length<=d.length:=by have:=h.full hm;have:=h.le;omega
def Sg (w:World)(lo:Nat)(ng:Bool)(a:Nat)(v:Value):Prop:=∃A n c,v=.agg #[.bool ng,.slice A n c]/\dm w lo A n c a
def CG (m:Nat):(if(0:Int)<(m:Int)-4 then(m:Int)-4 else 0)=((m-4:Nat):Int):=by split <;>omega
def uM (l:List UInt8):decide (((body l).length:Int)<((l.length:Nat):Int))=neg l:=by
 cases h:neg l with
 |true=>rw[jT h];simp[body];omega
 |false=>rw[iM h];simp
def GP (h:0<l.length):l≠[]:=List.length_pos_iff.1 h
def xW.all (h:xW d m gs)(hm:¬0<m):bg 10000 gs=au d:=by
 have:=h.val
 rw[show m=0 by omega,List.drop_zero]at this
 exact this
set_option maxRecDepth 100000 in
def s3 (l:List UInt8)(w:World)(h:isInt l=true):
 CL 109 #[S l] w (aH w λv w'=>Sg w' w.heap.size (neg l) (au (body l)) v):=by
 have B1:=cN h;have hd:=fM B1;have M3:=gN B1;refine aC func109 Z (I ?_);refine al bo (λ_ D1 E=>?_);have E16:=D1.2;refine I ?_;refine cl sA (lx l _) ?_;rintro _ Aq Kp rfl;have⟨E,E16⟩:=bn Kp.2 E E16;refine I ?_;refine ab (bF (l:=body l) U9 Z ?_);refine I ?_;refine ab (bF (l:=l) U9 Z ?_);refine I ?_;rw[uM];refine ab (aS (vs:=[(0,.bool (neg l))]) (cells:=#[.bool (neg l),.slice none 0 0]) (pl:=[(0,1),(1,1)]) iH bo q0 Z q0 ?_);refine al bo (λ_ E7 Jx=>?_);have⟨E,E16⟩:=bn E7.2 E E16;refine SA Jx (λE1 EW G=>?_);have⟨E,E16,_⟩:=dE EW E E16;refine I ?_;have Ix:World.ownsRow E1 w.heap.size 3 1 (.slice none 0 0) 0 (ints []):=ic;refine cM [(3,3),(5,7),(16,38)] (λE4 e W=>∃m:Nat,∃gs:List Nat,∃O:Value,(m=E4)/\(e 3=S ((body l).take m))/\(xW (body l) m gs)/\((O).ownBlock≠some w.heap.size)/\((O).ownBlock≠some Aq.heap.size)/\(a8 w W)/\(ae W w.heap.size 78 #[.bool false,.slice none 0 0])/\(ae W Aq.heap.size 78 #[.bool (neg l),O])/\(W.ownsRow w.heap.size 3 1 O gs.length (ints gs))) ((body l).length) ⟨(body l).length,[],.slice none 0 0,rfl,(qb1 S (by rw[List.take_length])),(xW.start _),(by simp[Value.ownBlock]),(by simp[Value.ownBlock]),E16,E,G,Ix⟩ ?_
 rintro _ _ _ ⟨m,gs,O,rfl,p31,H,n26,n27,E32,E,G,ho⟩;have M9:=bz E32;have E9:=H.le;by_cases hm:0<m;have M2:=H.len hm;have E9:=H.le;refine I ?_;refine ab (eO (l:=(body l).take m) (m:=m) U9 Z Va ?_);refine I ?_;refine ab (eO (l:=(body l).take m) (m:=m) U9 Z Va ?_);refine oO ?_;refine ab (Ei (a:=0) (b:=(m:Int)-4) (m:=((m-4:Nat):Int)) Z Z (CG m) ?_);refine I ?_;refine ab (eF (l:=(body l).take m) (i:=(m-4)) (j:=((body l).take m).length) U9 Z (.inr ⟨_,congrArg some Z⟩) (.inl ⟨rfl,rfl⟩) Va Vk ?_);rw[show(((body l).take m).take (((body l).take m).length)).drop (m-4)=((body l).take m).drop (m-4)by rw[List.take_length]];refine clb IF (hc:=CC _ _ _ Va (xu (sZ hd _ _) (GP Va))) (hk:=?_);rintro _ _ Ar rfl;have⟨E,G⟩:=iZ Ar.2 E G;have ho:=aD Ar.2 ho;have E32:=xt E32 Ar.2;refine I ?_;refine BS (λ_ Ad _ K2=>?_);have n40:=bO ho;have⟨E,G⟩:=iZ Ad E G;have ho:=aD Ad ho;have E32:=xt E32 Ad;have M8:=bz Ad;refine AP ho (aa3 K2) (λAw _ Ab kd Ax=>?_);have n46:=jc Ax n26 (bt E);have n47:=jc Ax n27 (bt G);have E:=aa2 kd (λe=>n26 e.symm) E;have G:=aa2 kd (λe=>n27 e.symm) G
 have E32:=de ho U U E32 kd;have M4:=kd.size;refine I ?_;refine ab (dn (b:=Aq.heap.size) (o:=1) (v:=Aw) jB Z Z (B8 Ab) G (qa3 Z) (λ_ Am M0=>?_));have E:=pb Am E;have Ab:=dT Am n47 Ab;have E32:=eK Am E32;have MA:=dX Am;refine I ?_;refine ab (eF (l:=(body l).take m) (i:=0) (j:=(m-4)) U9 Z (.inl ⟨rfl,rfl⟩) (.inr ⟨_,qb1 some Z⟩) U Va ?_);rw[show(((body l).take m).take (m-4)).drop 0=((body l).take m).take (m-4)from rfl];refine I ?_;exact bQ ⟨m-4,gs++[bg 10 (dy (((body l).take m).drop (m-4)))],Aw,rfl,(qb1 S (by rw[List.take_take];congr 1;omega)),(xW.step hd H hm),n46,n47,E32,E,M0,(cL Ab Vk (by rw[jP];rfl))⟩;obtain⟨Av,Ao,rfl,L2,-⟩:=dt ho;have M7:=H.cnt;refine I ?_;refine ab (eO (l:=(body l).take m) (m:=m) U9 Z Va ?_);refine I ?_;refine clb mP (hc:=ec (aa3 ho) Z L2 U) (hk:=?_);rintro _ _ As ⟨Ap,rfl,B2,M1⟩;have⟨E,G⟩:=iZ As.2 E G;have ho:=aD As.2 ho;have E32:=xt E32 As.2;refine I ?_;refine SO G (λ_ Af Ay=>?_);have E:=pb Af E;have ho:=dT Af n27 ho;have E32:=eK Af E32;have M5:=dX Af;refine I ?_;refine SA E (λ_ kk D2=>?_);have Ay:=pb kk Ay
 have ho:=dT kk n26 ho;have E32:=eK kk E32;have M6:=dX kk;refine I ?_;refine aK (v:=.agg #[.bool (neg l),.slice Av Ap Ao]) (cn  rfl ?_) E32 ⟨Av,Ap,Ao,rfl,sT (aa3 ho) H.lt (H.all hm) B2 U U⟩;refine ah (t:=2) (cs:=[.bool (neg l),.slice Av Ap Ao]) (b:=w.heap.size) (o:=0) iH Z jC ?_ ?_;exact Z;exact aa0 D2 (i:=0) Z
set_option maxRecDepth 100000
def ef {p:Prop}(h:p:=by assumption):p:=h
def bv (ng:Bool)(a:Nat):Int:=if ng then -(a:Int)else(a:Int)
def vW (h:(0:Int)<=aw (a:Int) (b:Int)):b<=a:=by
 rcases Nat.lt_or_ge a b with h1|h1
 · rw[bZ U]at h;omega
 · exact h1
def s4 (h:¬(0:Int)<=aw (a:Int) (b:Int)):a<=b:=by
 rcases Nat.lt_or_ge a b with h1|h1
 · omega
 · rcases Nat.eq_or_lt_of_le h1 with h2|h2
   · omega
   · rw[bM U]at h;omega
def ep (h:(nx==ny)=true):bv nx (a+b)=bv nx a+bv ny b:=by
 have:nx=ny:=by simpa using h
 subst this
 unfold bv;split <;>omega
def fP (h:(nx==ny)=false)(hle:b<=a):bv nx (a-b)=bv nx a+bv ny b:=by
 cases nx <;>cases ny <;>simp_all [bv] <;>omega
def fQ (h:(nx==ny)=false)(hle:a<=b):bv ny (b-a)=bv nx a+bv ny b:=by
 cases nx <;>cases ny <;>simp_all [bv] <;>omega
def s5 (h1:dm w lo1 A1 n1 c1 a)(s1:n1<=9000)(h2:dm w lo2 A2 n2 c2 b)(s2:n2<=9000):
 CL 112 #[.agg #[.bool nx,.slice A1 n1 c1],.agg #[.bool ny,.slice A2 n2 c2]] w (aH w λv w'=>∃ng r A n c,v=.agg #[.bool ng,.slice A n c]/\dm w' w.heap.size A n c r/\bv ng r=bv nx a+bv ny b):=by
 have M8:=h1.hi;have M9:=h2.hi;refine aC func112 Z (I ?_);refine bx (λ_ Aw H=>?_);have h1:=aa1 Aw.2 h1;have h2:=aa1 Aw.2 h2;have E63:=Aw.2;refine bx (λAv As O=>?_);have h1:=aa1 As.2 h1;have h2:=aa1 As.2 h2;have⟨H,E63⟩:=bn As.2 H E63;refine al bo (λM1 Am kd=>?_);have h1:=aa1 Am.2 h1;have h2:=aa1 Am.2 h2;have⟨H,O,E63⟩:=aP Am.2 H O E63;refine I ?_;refine ab (x9 (a:=nx) (b:=ny) (q:=(nx==ny)) U4 Z Z Z ?_);refine I ?_;rcases qa4 (nx==ny)with h70|h70;refine I ?_;obtain⟨L,hL⟩:∃L,L=M1.heap.size:=⟨_,rfl⟩;refine bB 7 ?_;refine sf ?_;refine da (λv w=>df L (a+b) v w) (hs:=λ_ _ _ k h=>h.ext k) (λ_ _ hR97 _=>?_) ?_;have h1:=aa1 hR97 h1;have h2:=aa1 hR97 h2;refine clb sw (hc:=ln h1 U h2 U) (hk:=?_);rintro _ _ Kp ⟨Ar,G,E,rfl,hr⟩;have D2:=Kp.2;have hr:=hr.mono (lo':=L) (by have:=bz hR97;omega);refine I ?_;exact fs ⟨D2,⟨Ar,G,E,rfl,hr⟩⟩;refine sf ?_;intro _ _ E9 E7;have⟨H,O,kd,E63⟩:=br E9.2 H O kd E63;obtain⟨Ar,G,E,E1,hr⟩:=(E7 6 17 Z Z);refine ab (aS (vs:=[(0,.bool nx),(1,.slice Ar G E)]) (cells:=#[.bool nx,.slice Ar G E]) (pl:=[(0,1),(1,1)]) iH bo q0 (db Z (db E1 Z)) q0 ?_)
 refine SA kd (λ_ Ab B1=>?_);have⟨H,O⟩:=vO Ab H O;have hr:=ab0 Ab U hr;have E63:=eK Ab E63;have M5:=dX Ab;refine I ?_;refine aK (v:=.agg #[.bool nx,.slice Ar G E]) (cn  rfl ?_) E63 ⟨_,_,_,_,_,rfl,hr.mono U,by first|exact ep ef|exact fP ef kk|exact fQ ef kk⟩;refine ah (t:=4) (cs:=[.bool nx,.slice Ar G E]) (b:=Av.heap.size) (o:=0) iH Z jC ?_ ?_;exact Z;exact aa0 B1 (i:=0) Z;refine I ?_;refine clb sx (hc:=g5 h1 U h2) (hk:=?_);rintro _ Ay Aq rfl;have h1:=aa1 Aq.2 h1;have h2:=aa1 Aq.2 h2;have⟨H,O,kd,E63⟩:=br Aq.2 H O kd E63;refine I ?_;by_cases wr:0<=(aw (a:Int) (b:Int));refine I ?_;obtain⟨L,hL⟩:∃L,L=Ay.heap.size:=⟨_,rfl⟩;have kk:=vW ef;have Ax:n2<=n1:=by rw[<-h1.len,<-h2.len];exact dx U kk
 refine bB 7 ?_;refine sf ?_;refine da (λv w=>df L (a-b) v w) (hs:=λ_ _ _ k h=>h.ext k) (λ_ _ Ao _=>?_) ?_;have h1:=aa1 Ao h1;have h2:=aa1 Ao h2;refine clb vu (hc:=lu h1 U h2 U kk Ax) (hk:=?_);rintro _ _ Jx ⟨Ar,G,E,rfl,hr⟩;have E4:=Jx.2;have hr:=hr.mono (lo':=L) (by have:=bz Ao;omega);refine I ?_;exact fs ⟨E4,⟨Ar,G,E,rfl,hr⟩⟩;refine sf ?_;intro _ _ B2 D1;have⟨H,O,kd,E63⟩:=br B2.2 H O kd E63;obtain⟨Ar,G,E,M4,hr⟩:=(D1 6 32 Z Z);refine ab (aS (vs:=[(0,.bool nx),(1,.slice Ar G E)]) (cells:=#[.bool nx,.slice Ar G E]) (pl:=[(0,1),(1,1)]) iH bo q0 (db Z (db M4 Z)) q0 ?_);refine SA kd (λ_ Af M2=>?_);have⟨H,O⟩:=vO Af H O;have hr:=ab0 Af U hr;have E63:=eK Af E63;have M7:=dX Af;refine I ?_;refine aK (v:=.agg #[.bool nx,.slice Ar G E]) (cn  rfl ?_) E63 ⟨_,_,_,_,_,rfl,hr.mono U,by first|exact ep ef|exact fP ef kk|exact fQ ef kk⟩;refine ah (t:=4) (cs:=[.bool nx,.slice Ar G E]) (b:=Av.heap.size) (o:=0) iH Z jC ?_ ?_;exact Z;exact aa0 M2 (i:=0) Z;refine I ?_;obtain⟨L,hL⟩:∃L,L=Ay.heap.size:=⟨_,rfl⟩;have kk:=s4 ef;have Ax:n1<=n2:=by rw[<-h1.len,<-h2.len];exact dx U kk
 refine bB 7 ?_;refine sf ?_;refine da (λv w=>df L (b-a) v w) (hs:=λ_ _ _ k h=>h.ext k) (λ_ _ Ap _=>?_) ?_;have h1:=aa1 Ap h1;have h2:=aa1 Ap h2;refine clb vu (hc:=lu h2 U h1 U kk Ax) (hk:=?_);rintro _ _ M0 ⟨Ar,G,E,rfl,hr⟩;have Ix:=M0.2;have hr:=hr.mono (lo':=L) (by have:=bz Ap;omega);refine I ?_;exact fs ⟨Ix,⟨Ar,G,E,rfl,hr⟩⟩;refine sf ?_;intro _ _ EW K2;have⟨H,O,kd,E63⟩:=br EW.2 H O kd E63;obtain⟨Ar,G,E,M3,hr⟩:=(K2 6 40 Z Z);refine ab (aS (vs:=[(0,.bool ny),(1,.slice Ar G E)]) (cells:=#[.bool ny,.slice Ar G E]) (pl:=[(0,1),(1,1)]) iH bo q0 (db Z (db M3 Z)) q0 ?_);refine SA kd (λ_ Ad L2=>?_);have⟨H,O⟩:=vO Ad H O;have hr:=ab0 Ad U hr;have E63:=eK Ad E63;have M6:=dX Ad;refine I ?_;refine aK (v:=.agg #[.bool ny,.slice Ar G E]) (cn  rfl ?_) E63 ⟨_,_,_,_,_,rfl,hr.mono U,by first|exact ep ef|exact fP ef kk|exact fQ ef kk⟩;refine ah (t:=4) (cs:=[.bool ny,.slice Ar G E]) (b:=Av.heap.size) (o:=0) iH Z jC ?_ ?_;exact Z;exact aa0 L2 (i:=0) Z
def jh (a b:List UInt8)(w:World)(ha:isInt a=true)(hb:isInt b=true):
 CL 59 #[S a,S b] w (aH w λv w'=>∃A1 n1 c1 A2 n2 c2,v=.tuple #[.agg #[.bool (neg a),.slice A1 n1 c1],.agg #[.bool (neg b),.slice A2 n2 c2],.bool true]/\dm w' w.heap.size A1 n1 c1 (au (body a))/\dm w' w.heap.size A2 n2 c2 (au (body b))):=by
 refine aC func59 Z (I ?_);refine al bo (λAq Am H=>?_);have E:=Am.2;refine al bo (λ_ Ar G=>?_);have⟨H,E⟩:=bn Ar.2 H E;refine I ?_;refine cl p0 (fO a _) ?_;rintro _ _ Ap rfl;have⟨H,G,E⟩:=aP Ap.2 H G E;refine I ?_;refine cl p0 (fO b _) ?_;rintro _ _ Af rfl;have⟨H,G,E⟩:=aP Af.2 H G E;refine I ?_;refine cl Es (s3 _ _ ha) ?_;rintro _ _ Ao ⟨A1,n1,c1,rfl,h1⟩;have⟨H,G,E⟩:=aP Ao.2 H G E;refine I ?_;refine cl Es (s3 _ _ hb) ?_;rintro _ _ Ab ⟨A2,n2,c2,rfl,kk⟩;have⟨H,G⟩:=iZ Ab.2 H G;have h1:=aa1 Ab.2 h1;have E:=xt E Ab.2;refine SA H (λ_ O Ad=>?_);have G:=pb O G;have h1:=ab0 O U h1;have kk:=ab0 O U kk;have E:=eK O E;have Av:=dX O;refine SA G (λ_ kd As=>?_);have Ad:=pb kd Ad;have h1:=ab0 kd U h1;have kk:=ab0 kd U kk;have E:=eK kd E;have Aw:=dX kd;refine I ?_;refine aK (v:=.tuple #[.agg #[.bool (neg a),.slice A1 n1 c1],.agg #[.bool (neg b),.slice A2 n2 c2],.bool true]) (BY (r1:=.cell 4 78) (r2:=.cell 5 78) (r3:=.tmp 6) Z ?_ ?_ ?_) E ⟨_,_,_,_,_,_,rfl,h1.mono U,kk.mono U⟩;refine ah (t:=4) (cs:=[.bool (neg a),.slice A1 n1 c1]) (b:=w.heap.size) (o:=0) iH Z jC ?_ ?_;exact Z;exact aa0 Ad (i:=0) Z
 refine ah (t:=5) (cs:=[.bool (neg b),.slice A2 n2 c2]) (b:=Aq.heap.size) (o:=0) iH Z jC ?_ ?_;exact Z;exact aa0 As (i:=0) Z;exact aE (t:=6) Ve _
def ke (a b:List UInt8)(w:World)(hno:(isInt a&&isInt b)=false):
 CL 59 #[S a,S b] w (aH w λv w'=>v=.tuple #[.agg #[.bool false,.slice none 0 0],.agg #[.bool false,.slice none 0 0],.bool false]):=by
 refine aC func59 Z (I ?_);refine al bo (λkd Ao H=>?_);have E:=Ao.2;refine al bo (λ_ Af G=>?_);have⟨H,E⟩:=bn Af.2 H E;refine I ?_;rcases qa4 (isInt a)with cw|cw;refine I ?_;refine cl p0 (fO a _) ?_;rintro _ _ Ad rfl;have⟨H,G,E⟩:=aP Ad.2 H G E;refine I ?_;refine cl p0 (fO b _) ?_;rintro _ _ Aq rfl;have⟨H,G,E⟩:=aP Aq.2 H G E;refine I ?_;rcases qa4 (isInt b)with np|np;exact absurd hno (by simp[*]);refine I ?_;refine SA H (λ_ Ab kk=>?_);have⟨G,E,_⟩:=dE Ab G E;refine SA G (λ_ Ar Ap=>?_);have⟨kk,E,_⟩:=dE Ar kk E;refine I ?_;refine aK (v:=.tuple #[.agg #[.bool false,.slice none 0 0],.agg #[.bool false,.slice none 0 0],.bool false]) (BY (r1:=.cell 4 78) (r2:=.cell 5 78) (r3:=.tmp 6) Z ?_ ?_ ?_) E Z;refine ah (t:=4) (cs:=[.bool false,.slice none 0 0]) (b:=w.heap.size) (o:=0) iH Z jC ?_ ?_;exact Z;exact aa0 kk (i:=0) Z;refine ah (t:=5) (cs:=[.bool false,.slice none 0 0]) (b:=kd.heap.size) (o:=0) iH Z jC ?_ ?_;exact Z;exact aa0 Ap (i:=0) Z
 exact aE (t:=6) Ve _;refine I ?_;refine cl p0 (fO a _) ?_;rintro _ _ Av rfl;have⟨H,G,E⟩:=aP Av.2 H G E;refine I ?_;refine SA H (λ_ Aw O=>?_);have⟨G,E,_⟩:=dE Aw G E;refine SA G (λ_ As Am=>?_);have⟨O,E,_⟩:=dE As O E;refine I ?_;refine aK (v:=.tuple #[.agg #[.bool false,.slice none 0 0],.agg #[.bool false,.slice none 0 0],.bool false]) (BY (r1:=.cell 4 78) (r2:=.cell 5 78) (r3:=.tmp 6) Z ?_ ?_ ?_) E Z;refine ah (t:=4) (cs:=[.bool false,.slice none 0 0]) (b:=w.heap.size) (o:=0) iH Z jC ?_ ?_;exact Z;exact aa0 O (i:=0) Z;refine ah (t:=5) (cs:=[.bool false,.slice none 0 0]) (b:=kd.heap.size) (o:=0) iH Z jC ?_ ?_;exact Z;exact aa0 Am (i:=0) Z;exact aE (t:=6) Ve _
def fR (l:List UInt8)(w:World):
 CL 64 #[S l] w (aH w λv w'=>v=.bool (isInt l)):=by
 refine aC func64 Z (I ?_);refine cl p0 (fO l _) ?_;rintro _ _ G rfl;have E:=G.2;refine I ?_;exact an (t:=2) (v:=.bool (isInt l)) Z E Z Z
end
end Go.Proofs.YtgcfffdpcefifaaGreatDoor
