/- Part of the proof of a statement about an adjustment. -/
import Derived.Test.YtlmihmlnpjkblaaGreatDoorAj14ToCardCL
set_option linter.all false
namespace Go.Proofs.YtlmihmlnpjkblaaGreatDoor
open Go Go.Eng Go.RowKit Proofs.Tryz
variable {a b x0 x1:Int}{xs:List Int}{k x i n lo CX C CR lo5 lo4 pl:Nat}{X A kd:Option Addr}{w:World}
section
attribute [local irreducible] wpListIn Code.wpIn Oper.wpIn Exit.then Exit.inBlock Exit.noGoto
set_option maxHeartbeats 40000000
def FG (xs:List Int)(i k:Nat):R:=br (aV (kv xs (7*i+k)) 7-3) 1
def fm (xs:List Int)(n i:Nat):List R:=(List.range n).map (FG xs i)
def A8 (xs:List Int)(i k:Nat):R:=if i=k then br (2+aV (kv xs (5*i+1)) 4) 1 else if i+k=1 then br (aV (kv xs 2) 3-1) 1 else z0
def g8 (xs:List Int)(m i:Nat):List R:=(List.range m).map (A8 xs i)
def yE (xs:List Int)(i:Nat):R:=br (aV (kv xs (3*i+2)) 41-20) 2
def yA (xs:List Int)(m:Nat):List R:=(List.range m).map (yE xs)
def ve {f:Nat->R}{l:List R}{q:R}(h:l=(List.range k).map f)(hq:q=f k):l++[q]=(List.range (k+1)).map f:=by
 subst h hq;simp[List.range_succ]
def Mc {m:Nat}:(yA xs m).length=m:=by simp[yA]
structure qQ (lo hi:Nat)(w:World)(A:Option Addr)(C:Nat)(Y:Option Addr)(CY:Nat)(B:Option Addr)(CB:Nat)(m:Nat)(H G:Nat->Value)(L V:Rows)(ys:List R):Prop where
 yl:ys.length=m
 oM:w.ownsRow lo 28 1 (.slice A m C) m ((List.range m).map H)
 uM:∀g,(Value.slice A m C).ownBlock=some g->g<hi
 wM:Wr w lo hi m H L
 oY:w.ownsRow lo 33 2 (.slice Y m CY) m (ag ys)
 uY:∀g,(Value.slice Y m CY).ownBlock=some g->g<hi
 oV:w.ownsRow lo 28 1 (.slice B m CB) m ((List.range m).map G)
 uV:∀g,(Value.slice B m CB).ownBlock=some g->g<hi
 wV:Wr w lo hi m G V
 nMY:az (.slice A m C) (.slice Y m CY)
 nMV:az (.slice A m C) (.slice B m CB)
 nVY:az (.slice B m CB) (.slice Y m CY)
 nMH:∀z,z<m->az (.slice A m C) (H z)
 nMG:∀z,z<m->az (.slice A m C) (G z)
 nVH:∀z,z<m->az (.slice B m CB) (H z)
 nVG:∀z,z<m->az (.slice B m CB) (G z)
 nYH:∀z,z<m->az (.slice Y m CY) (H z)
 nYG:∀z,z<m->az (.slice Y m CY) (G z)
 nHG:∀z,z<m->∀z',z'<m->az (H z) (G z')
section
variable {lo' hi hi' m:Nat}{w':World}{Y:Option Addr}{CY:Nat}{B:Option Addr}{CB:Nat}{H G:Nat->Value}{L V:Rows}{ys:List R}
def qQ.ext (k:aO w w')(h:qQ lo hi w A C Y CY B CB m H G L V ys):qQ lo hi w' A C Y CY B CB m H G L V ys:=
 ⟨h.yl,ab k h.oM,h.uM,h.wM.ext k,ab k h.oY,h.uY,ab k h.oV,h.uV,h.wV.ext k,h.nMY,h.nMV,h.nVY,h.nMH,h.nMG,h.nVH,h.nVG,h.nYH,h.nYG,h.nHG⟩
def qQ.put (k:eE w w' x)(hx:x<lo\/hi<=x)(h:qQ lo hi w A C Y CY B CB m H G L V ys):qQ lo hi w' A C Y CY B CB m H G L V ys:=by
 have hM:(Value.slice A m C).ownBlock≠some x:=λe=>by have h1:=h.uM x e;have h2:=aU h.oM x e;omega
 have hY:(Value.slice Y m CY).ownBlock≠some x:=λe=>by have h1:=h.uY x e;have h2:=aU h.oY x e;omega
 have hV:(Value.slice B m CB).ownBlock≠some x:=λe=>by have h1:=h.uV x e;have h2:=aU h.oV x e;omega
 exact⟨h.yl,ax k hM h.oM,h.uM,h.wM.put k hx,ax k hY h.oY,h.uY,ax k hV h.oV,h.uV,h.wV.put k hx,h.nMY,h.nMV,h.nVY,h.nMH,h.nMG,h.nVH,h.nVG,h.nYH,h.nYG,h.nHG⟩
def qQ.des (h:qQ lo hi w A C Y CY B CB m H G L V ys):gl lo w A C Y CY B CB L V ys:=by
 obtain rfl:=h.yl
 exact⟨⟨_,h.wM.mt (gi h.oM)⟩,gi h.oY,⟨_,h.wV.mt (gi h.oV)⟩,m0 h.oV⟩
end
def Md {H G:Nat->Value}{a b:Value}(h:∀z,z<i->∀z',z'<i->az (H z) (G z'))(ha:∀z,z<i->az a (G z))(hb:∀z,z<i->az b (H z))(hab:az a b):
 ∀z,z<i+1->∀z',z'<i+1->az (bT H i a z) (bT G i b z'):=λz O z' E=>by
 by_cases e:z=i
 · subst e;rw[bg]
   by_cases e':z'=z
   · subst e';rw[bg];exact hab
   · rw[bh _ _ e'];exact ha _ U
 · rw[bh _ _ e]
   by_cases e':z'=i
   · subst e';rw[bg];exact(hb _ U).symm
   · rw[bh _ _ e'];exact h _ U _ U
set_option maxRecDepth 100000 in
def Hr :
 CL 81 #[] w (aG w λv w'=>v=.agg #[S z0.1,S z0.2]):=by
 refine aC func81 Z (I ?_);refine al aS (λ_ A0 W=>?_);have E:=A0.2;refine I ?_;refine SA W (λ_ O A1=>?_);have E:=bi O E;refine I ?_;refine aX (v:=.agg #[S [48],S [49]]) (bY  rfl ?_) E Z;refine ak (t:=0) (cs:=[S [48],S [49]]) (b:=w.heap.size) (o:=0) iK Z bX ?_ ?_;exact Z;exact aa0 A1 (i:=0) Z
set_option maxHeartbeats 4000000 in
set_option maxRecDepth 100000 in
def Hs {m:Nat}(hx0:In64 x0)(hx1:In64 x1)(hm:2+aV x0 4=(m:Int))(hn:1+aV x1 2=(n:Int))(hx:Rw w lo X (nk xs)):
 CL 33 #[.int .i64 x0,.int .i64 x1,.slice X xs.length CX] w (aG w λv w'=>∃A C Y CY B CB H G lo hi,w.heap.size<=lo/\hi<=w'.heap.size/\v=.agg #[.slice A m C,.slice Y m CY,.slice B m CB]/\qQ lo hi w' A C Y CY B CB m H G (fm xs n) (g8 xs m) (yA xs m)):=by
 refine aC func33 Z (I ?_);refine al ee (λ_ h5 E=>?_);have Q0:=h5.2;refine I ?_;refine clb qk (hc:=jw x0 4 _ hx0 U) (hk:=?_);rintro _ _ hM rfl;have⟨E,Q0⟩:=bn hM.2 E Q0;have i2:=du x0 4 U;refine gP (I ?_);refine clb qk (hc:=jw x1 2 _ hx1 U) (hk:=?_);rintro _ Cr fG rfl;have⟨E,Q0⟩:=bn fG.2 E Q0;have i1:=du x1 2 U;refine gP (I ?_);refine al ee (λ_ fb h8=>?_);have⟨E,Q0⟩:=bn fb.2 E Q0;refine aa (bF (b:=Cr.heap.size) (o:=0) (vs:=[.slice none 0 0,.slice none 0 0,.slice none 0 0]) bj Z Z KK h8 (qa3 Z) (λAp ed A2=>?_));have⟨E,Q0,_⟩:=kt ed E Q0;refine I ?_;have hX:2<=m/\m<=5:=by have:=du x0 4 dc;omega
 have hh:1<=n/\n<=2:=by have:=du x1 2 dc;omega
 rw[hm];rw[hn];have hI:World.ownsRow Ap Ap.heap.size 28 1 (.slice none 0 0) 0 []:=bK;have er:Wr Ap Ap.heap.size Ap.heap.size 0 (λ_=>.nilIface) (fm xs n):=Wr.nil;have g2:World.ownsRow Ap Ap.heap.size 28 1 (.slice none 0 0) 0 []:=bK;have eX:Wr Ap Ap.heap.size Ap.heap.size 0 (λ_=>.nilIface) (g8 xs m):=Wr.nil;have hR:World.ownsRow Ap Ap.heap.size 33 2 (.slice none 0 0) 0 (ag []):=bK
 refine cg [(10,19),(27,117)] (λW2 e W=>∃i:Nat,∃H2:Nat->Value,∃As:Value,∃H3:Nat->Value,∃vc:Value,∃acY:List R,∃Ar:Value,(m-i=W2)/\(e 10=.int .i64 i)/\(i<=m)/\(∀zz,zz<i->az As (H2 zz))/\(∀zz,zz<i->az As (H3 zz))/\(∀zz,zz<i->az vc (H2 zz))/\(∀zz,zz<i->az vc (H3 zz))/\(∀zz,zz<i->az Ar (H2 zz))/\(∀zz,zz<i->az Ar (H3 zz))/\(∀z,z<i->∀z',z'<i->az (H2 z) (H3 z'))/\(acY.length=i)/\(acY=(List.range i).map (yE xs))/\(Ap.heap.size<=W.heap.size)/\((As).ownBlock≠some w.heap.size)/\((As).ownBlock≠some Cr.heap.size)/\((vc).ownBlock≠some w.heap.size)/\((vc).ownBlock≠some Cr.heap.size)/\((Ar).ownBlock≠some w.heap.size)/\((Ar).ownBlock≠some Cr.heap.size)/\(az As vc)/\(az As Ar)/\(az vc Ar)/\(aO w W)/\(ap W w.heap.size 30 #[.slice none 0 0,.slice none 0 0,.slice none 0 0])/\(W.ownsRow Ap.heap.size 28 1 As i ((List.range i).map H2))/\(Wr W Ap.heap.size W.heap.size i H2 (fm xs n))/\(W.ownsRow Ap.heap.size 28 1 vc i ((List.range i).map H3))/\(Wr W Ap.heap.size W.heap.size i H3 (g8 xs m))/\(W.ownsRow Ap.heap.size 33 2 Ar acY.length (ag acY))/\(ap W Cr.heap.size 30 #[As,Ar,vc])) (m-0) ⟨0,(λ_=>.nilIface),.slice none 0 0,(λ_=>.nilIface),.slice none 0 0,[],.slice none 0 0,rfl,rfl,(qa7 _),(λj Aw=>by omega),(λj Aw=>by omega),(λj Aw=>by omega),(λj Aw=>by omega),(λj Aw=>by omega),(λj Aw=>by omega),(λj Aw=>by omega),rfl,rfl,(qa0 _),(λe=>by cases e),(λe=>by cases e),(λe=>by cases e),(λe=>by cases e),(λe=>by cases e),(λe=>by cases e),(aa6 ac6),(aa6 ac6),(aa6 ac6),Q0,E,hI,er,g2,eX,hR,A2⟩ ?_
 rintro _ _ C1 ⟨i,H2,As,H3,vc,acY,Ar,rfl,hT,hz,cr,c9,cT,bv,cq,ct,cx,halY,hacY,hZ,e6,e4,eB,X2,d0,bW,cp,co,cm,WV,E,Ab,A1,O,A0,hyrow,A2⟩;have j0:=bz WV;by_cases hlo:i<m;refine I ?_;have et:World.ownsRow C1 C1.heap.size 33 2 (.slice none 0 0) 0 (ag []):=bK
 refine cg [(11,11),(13,15),(32,52)] (λW2 e W=>∃k:Nat,∃E5:List R,∃vline:Value,(n-k=W2)/\(e 13=.int .i64 k)/\(e 11=vline)/\(k<=n)/\(E5.length=k)/\(E5=(List.range k).map (FG xs i))/\(C1.heap.size<=W.heap.size)/\((vline).ownBlock≠some w.heap.size)/\((vline).ownBlock≠some Cr.heap.size)/\(az As vline)/\(az vc vline)/\(az Ar vline)/\(aO w W)/\(ap W w.heap.size 30 #[.slice none 0 0,.slice none 0 0,.slice none 0 0])/\(W.ownsRow Ap.heap.size 28 1 As i ((List.range i).map H2))/\(Wr W Ap.heap.size C1.heap.size i H2 (fm xs n))/\(W.ownsRow Ap.heap.size 28 1 vc i ((List.range i).map H3))/\(Wr W Ap.heap.size C1.heap.size i H3 (g8 xs m))/\(W.ownsRow Ap.heap.size 33 2 Ar acY.length (ag acY))/\(ap W Cr.heap.size 30 #[As,Ar,vc])/\(W.ownsRow C1.heap.size 33 2 vline E5.length (ag E5))) (n-0) ⟨0,[],.slice none 0 0,rfl,rfl,rfl,(qa7 _),rfl,rfl,(qa0 _),(λe=>by cases e),(λe=>by cases e),(aa6 ac6),(aa6 ac6),(aa6 ac6),WV,E,Ab,A1,O,A0,hyrow,A2,et⟩ ?_;rintro _ _ VW ⟨k,E5,vline,rfl,ha,d4,hi_k,hal_acl,cv,hg,d5,Wa,a0,a6,ad,Ax,E,Ab,A1,O,A0,hyrow,A2,hline⟩;have i4:=bz Ax;by_cases hlk:k<n;refine I ?_;refine aa (qX (a:=7) (b:=(i:Int)) (c:=((7*i:Nat):Int)) Z Z JT Z ?_)
 refine I ?_;refine aa (ci (a:=((7*i:Nat):Int)) (b:=(k:Int)) (c:=((7*i+k:Nat):Int)) Z Z JT Z ?_);refine clb xw (hc:=sX (i:=(7*i+k)) (xs:=xs) U (hx.ext Ax)) (hk:=?_);rintro _ _ Ne rfl;have E:=be Ne.2 E;have Ab:=ab Ne.2 Ab;have A1:=aa2 Ne.2 A1;have O:=ab Ne.2 O;have A0:=aa2 Ne.2 A0;have hyrow:=ab Ne.2 hyrow;have A2:=be Ne.2 A2;have hline:=ab Ne.2 hline;have Ax:=xt Ax Ne.2;refine clb qk (hc:=jw (kv xs (7*i+k)) 7 _ (sU U) U) (hk:=?_);rintro _ _ P0 rfl;have E:=be P0.2 E;have Ab:=ab P0.2 Ab;have A1:=aa2 P0.2 A1;have O:=ab P0.2 O;have A0:=aa2 P0.2 A0;have hyrow:=ab P0.2 hyrow;have A2:=be P0.2 A2;have hline:=ab P0.2 hline;have Ax:=xt Ax P0.2;have i3:=du (kv xs (7*i+k)) 7 U;refine oE ?_;refine clb H9 (hc:=Aj ((aV (kv xs (7*i+k)) 7)-3) 1 _ U U) (hk:=?_);rintro _ _ Lk rfl;have E:=be Lk.2 E;have Ab:=ab Lk.2 Ab;have A1:=aa2 Lk.2 A1;have O:=ab Lk.2 O;have A0:=aa2 Lk.2 A0;have hyrow:=ab Lk.2 hyrow;have A2:=be Lk.2 A2;have hline:=ab Lk.2 hline;have Ax:=xt Ax Lk.2;refine I ?_;refine al aS (λ_ Lj hF=>?_);have g3:=bc Ab;have fu:=bc O;have fi:=bc hyrow
 have fa:=bc hline;have E:=be Lj.2 E;have Ab:=ab Lj.2 Ab;have A1:=aa2 Lj.2 A1;have O:=ab Lj.2 O;have A0:=aa2 Lj.2 A0;have hyrow:=ab Lj.2 hyrow;have A2:=be Lj.2 A2;have hline:=ab Lj.2 hline;have Ax:=xt Ax Lj.2;refine SA hF (λ_ L2 eP=>?_);have E:=pb L2 E;have Ab:=ax L2 g3 Ab;have A1:=ab8 L2 U A1;have O:=ax L2 fu O;have A0:=ab8 L2 U A0;have hyrow:=ax L2 fi hyrow;have A2:=pb L2 A2;have hline:=ax L2 fa hline;have Ax:=bi L2 Ax;have jx:=iM L2;refine I ?_;refine aa (aW (v:=vline) d4 ?_);refine I ?_;refine BS (λ_ nm _ fc=>?_);have E:=be nm E;have Ab:=ab nm Ab;have A1:=aa2 nm A1;have O:=ab nm O;have A0:=aa2 nm A0;have hyrow:=ab nm hyrow;have A2:=be nm A2;have hline:=ab nm hline;have⟨eP,Ax⟩:=bn nm eP Ax;refine AP hline (aa8 fc) (λdL _ gb P2 W3=>?_);have hD:=aQ W3 d5 (bt E);have fD:=aQ W3 Wa (bt A2);have E:=aa3 P2 (λe=>d5 e.symm) E;have eg:=aa9 W3 (aa6 a0) Ab;have Ab:=ab3 (aa6 a0) P2 Ab;have A1:=Wr.gr P2 (λg e=>Or.inr (qa8 U (aU hline g e))) A1;have hK:=aa9 W3 (aa6 a6) O;have O:=ab3 (aa6 a6) P2 O
 have A0:=Wr.gr P2 (λg e=>Or.inr (qa8 U (aU hline g e))) A0;have fT:=aa9 W3 (aa6 ad) hyrow;have hyrow:=ab3 (aa6 ad) P2 hyrow;have A2:=aa3 P2 (λe=>Wa e.symm) A2;have Ax:=bm hline U U Ax P2;have hY:=P2.size;refine aa (aK (v:=dL) Z ?_);refine I ?_;refine gP (I ?_);exact bI ⟨k+1,E5++[(FG xs i k)],dL,rfl,rfl,rfl,U,q4,(ve cv Z),U,hD,fD,(aa6 eg),(aa6 hK),(aa6 fT),Ax,E,Ab,A1,O,A0,hyrow,A2,(aM gb Wf (dl _ (FG xs i k)))⟩;have fx:E5=fm xs n i:=by have:=cv;rw[show k=n by omega]at this;exact this
 refine I ?_;have gn:World.ownsRow VW VW.heap.size 33 2 (.slice none 0 0) 0 (ag []):=bK;refine cg [(12,12),(16,17),(53,88)] (λW2 e W=>∃k:Nat,∃acc:List R,∃Av:Value,(m-k=W2)/\(e 16=.int .i64 k)/\(e 12=Av)/\(k<=m)/\(acc.length=k)/\(acc=(List.range k).map (A8 xs i))/\(VW.heap.size<=W.heap.size)/\((Av).ownBlock≠some w.heap.size)/\((Av).ownBlock≠some Cr.heap.size)/\(az As Av)/\(az vc Av)/\(az Ar Av)/\(az vline Av)/\(aO w W)/\(ap W w.heap.size 30 #[.slice none 0 0,.slice none 0 0,.slice none 0 0])/\(W.ownsRow Ap.heap.size 28 1 As i ((List.range i).map H2))/\(Wr W Ap.heap.size C1.heap.size i H2 (fm xs n))/\(W.ownsRow Ap.heap.size 28 1 vc i ((List.range i).map H3))/\(Wr W Ap.heap.size C1.heap.size i H3 (g8 xs m))/\(W.ownsRow Ap.heap.size 33 2 Ar acY.length (ag acY))/\(ap W Cr.heap.size 30 #[As,Ar,vc])/\(W.ownsRow C1.heap.size 33 2 vline E5.length (ag E5))/\(W.ownsRow VW.heap.size 33 2 Av acc.length (ag acc))) (m-0) ⟨0,[],.slice none 0 0,rfl,rfl,rfl,(qa7 _),rfl,rfl,(qa0 _),(λe=>by cases e),(λe=>by cases e),(aa6 ac6),(aa6 ac6),(aa6 ac6),(aa6 ac6),Ax,E,Ab,A1,O,A0,hyrow,A2,hline,gn⟩ ?_
 rintro _ _ _ ⟨k,acc,Av,rfl,ib,d6,hi_k,hal_acc,cw,hW,e5,W1,b0,a5,a2,bd,Am,E,Ab,A1,O,A0,hyrow,A2,hline,Af⟩;have j1:=bz Am;by_cases hlk:k<m;refine I ?_;refine cl VN Hr ?_;rintro _ eW GC rfl;have E:=be GC.2 E;have Ab:=ab GC.2 Ab;have A1:=aa2 GC.2 A1;have O:=ab GC.2 O;have A0:=aa2 GC.2 A0;have hyrow:=ab GC.2 hyrow;have A2:=be GC.2 A2;have hline:=ab GC.2 hline;have Af:=ab GC.2 Af;have Am:=xt Am GC.2;refine al aS (λ_ La hS=>?_);have cf:=bc Ab;have bb:=bc O;have bq:=bc hyrow;have bZ:=bc hline;have ch:=bc Af;have E:=be La.2 E;have Ab:=ab La.2 Ab;have A1:=aa2 La.2 A1;have O:=ab La.2 O;have A0:=aa2 La.2 A0;have hyrow:=ab La.2 hyrow;have A2:=be La.2 A2;have hline:=ab La.2 hline;have Af:=ab La.2 Af;have Am:=xt Am La.2;refine SA hS (λh7 E4 E1=>?_);have E:=pb E4 E;have Ab:=ax E4 cf Ab;have A1:=ab8 E4 U A1;have O:=ax E4 bb O;have A0:=ab8 E4 U A0;have hyrow:=ax E4 bq hyrow;have A2:=pb E4 A2;have hline:=ax E4 bZ hline;have Af:=ax E4 ch Af;have Am:=bi E4 Am;have at2:=iM E4;refine I ?_
 refine Tx [(62,84)] (λe W=>∃q:R,(q=A8 xs i k)/\(aO w W)/\(h7.heap.size<=W.heap.size)/\(ap W w.heap.size 30 #[.slice none 0 0,.slice none 0 0,.slice none 0 0])/\(W.ownsRow Ap.heap.size 28 1 As i ((List.range i).map H2))/\(Wr W Ap.heap.size C1.heap.size i H2 (fm xs n))/\(W.ownsRow Ap.heap.size 28 1 vc i ((List.range i).map H3))/\(Wr W Ap.heap.size C1.heap.size i H3 (g8 xs m))/\(W.ownsRow Ap.heap.size 33 2 Ar acY.length (ag acY))/\(ap W Cr.heap.size 30 #[As,Ar,vc])/\(W.ownsRow C1.heap.size 33 2 vline E5.length (ag E5))/\(W.ownsRow VW.heap.size 33 2 Av acc.length (ag acc))/\(ap W eW.heap.size 33 #[S q.1,S q.2])) ?_ ?_;by_cases aqo:(i:Int)=(k:Int);refine I ?_;refine aa (qX (a:=5) (b:=(i:Int)) (c:=((5*i:Nat):Int)) Z Z JT Z ?_);refine aa (ci (a:=((5*i:Nat):Int)) (b:=1) (c:=((5*i+1:Nat):Int)) Z Z JT Z ?_);refine clb xw (hc:=sX (i:=(5*i+1)) (xs:=xs) U (hx.ext Am)) (hk:=?_);rintro _ _ H4 rfl;have E:=be H4.2 E;have Ab:=ab H4.2 Ab;have A1:=aa2 H4.2 A1;have O:=ab H4.2 O;have A0:=aa2 H4.2 A0;have hyrow:=ab H4.2 hyrow;have A2:=be H4.2 A2;have hline:=ab H4.2 hline;have Af:=ab H4.2 Af;have⟨E1,Am⟩:=bn H4.2 E1 Am;refine clb qk (hc:=jw (kv xs (5*i+1)) 4 _ (sU U) U) (hk:=?_)
 rintro _ _ Ix rfl;have E:=be Ix.2 E;have Ab:=ab Ix.2 Ab;have A1:=aa2 Ix.2 A1;have O:=ab Ix.2 O;have A0:=aa2 Ix.2 A0;have hyrow:=ab Ix.2 hyrow;have A2:=be Ix.2 A2;have hline:=ab Ix.2 hline;have Af:=ab Ix.2 Af;have⟨E1,Am⟩:=bn Ix.2 E1 Am;have at8:=du (kv xs (5*i+1)) 4 U;refine gP ?_;refine clb H9 (hc:=Aj (2+(aV (kv xs (5*i+1)) 4)) 1 _ U U) (hk:=?_);rintro _ _ Li rfl;have E:=be Li.2 E;have Ab:=ab Li.2 Ab;have A1:=aa2 Li.2 A1;have O:=ab Li.2 O;have A0:=aa2 Li.2 A0;have hyrow:=ab Li.2 hyrow;have A2:=be Li.2 A2;have hline:=ab Li.2 hline;have Af:=ab Li.2 Af;have⟨E1,Am⟩:=bn Li.2 E1 Am;refine I ?_;refine SA E1 (λ_ ny ea=>?_);have E:=pb ny E;have Ab:=ax ny cf Ab;have A1:=ab8 ny U A1;have O:=ax ny bb O;have A0:=ab8 ny U A0;have hyrow:=ax ny bq hyrow;have A2:=pb ny A2;have hline:=ax ny bZ hline;have Af:=ax ny ch Af;have Am:=bi ny Am;have i5:=iM ny;refine I ?_;exact Ct ⟨br (2+(aV (kv xs (5*i+1)) 4)) 1,DQ,Am,U,E,Ab,A1,O,A0,hyrow,A2,hline,Af,ea⟩;refine I ?_;refine gP (I ?_);by_cases aqp:((i:Int)+(k:Int))=1;refine I ?_
 refine clb xw (hc:=sX (i:=2) (xs:=xs) U (hx.ext Am)) (hk:=?_);rintro _ _ od rfl;have E:=be od.2 E;have Ab:=ab od.2 Ab;have A1:=aa2 od.2 A1;have O:=ab od.2 O;have A0:=aa2 od.2 A0;have hyrow:=ab od.2 hyrow;have A2:=be od.2 A2;have hline:=ab od.2 hline;have Af:=ab od.2 Af;have⟨E1,Am⟩:=bn od.2 E1 Am;refine clb qk (hc:=jw (kv xs 2) 3 _ (sU U) U) (hk:=?_);rintro _ _ K3 rfl;have E:=be K3.2 E;have Ab:=ab K3.2 Ab;have A1:=aa2 K3.2 A1;have O:=ab K3.2 O;have A0:=aa2 K3.2 A0;have hyrow:=ab K3.2 hyrow;have A2:=be K3.2 A2;have hline:=ab K3.2 hline;have Af:=ab K3.2 Af;have⟨E1,Am⟩:=bn K3.2 E1 Am;have hp:=du (kv xs 2) 3 U;refine oE ?_;refine clb H9 (hc:=Aj ((aV (kv xs 2) 3)-1) 1 _ U U) (hk:=?_);rintro _ _ FR rfl;have E:=be FR.2 E;have Ab:=ab FR.2 Ab;have A1:=aa2 FR.2 A1;have O:=ab FR.2 O;have A0:=aa2 FR.2 A0;have hyrow:=ab FR.2 hyrow;have A2:=be FR.2 A2;have hline:=ab FR.2 hline;have Af:=ab FR.2 Af;have⟨E1,Am⟩:=bn FR.2 E1 Am;refine I ?_;refine SA E1 (λ_ E7 hQ=>?_);have E:=pb E7 E;have Ab:=ax E7 cf Ab;have A1:=ab8 E7 U A1;have O:=ax E7 bb O;have A0:=ab8 E7 U A0;have hyrow:=ax E7 bq hyrow;have A2:=pb E7 A2
 have hline:=ax E7 bZ hline;have Af:=ax E7 ch Af;have Am:=bi E7 Am;have ih:=iM E7;refine I ?_;exact Ct ⟨br ((aV (kv xs 2) 3)-1) 1,DQ,Am,U,E,Ab,A1,O,A0,hyrow,A2,hline,Af,hQ⟩;refine I ?_;exact Ct ⟨z0,DQ,Am,U,E,Ab,A1,O,A0,hyrow,A2,hline,Af,E1⟩;rintro _ _ ⟨q,hq,X0,hU,E,Ab,A1,O,A0,hyrow,A2,hline,Af,dC⟩;refine I ?_;refine aa (aW (v:=Av) d6 ?_);refine I ?_;refine BS (λ_ KC _ f7=>?_);have E:=be KC E;have Ab:=ab KC Ab;have A1:=aa2 KC A1;have O:=ab KC O;have A0:=aa2 KC A0;have hyrow:=ab KC hyrow;have A2:=be KC A2;have hline:=ab KC hline;have Af:=ab KC Af;have⟨dC,X0⟩:=bn KC dC X0;refine AP Af (aa8 f7) (λd3 _ g1 G0 Vm=>?_);have arr:=aQ Vm e5 (bt E);have f0:=aQ Vm W1 (bt A2);have E:=aa3 G0 (λe=>e5 e.symm) E;have f9:=aa9 Vm (aa6 b0) Ab;have Ab:=ab3 (aa6 b0) G0 Ab;have A1:=Wr.gr G0 (λg e=>Or.inr (qa8 U (aU Af g e))) A1;have h9:=aa9 Vm (aa6 a5) O;have O:=ab3 (aa6 a5) G0 O
 have A0:=Wr.gr G0 (λg e=>Or.inr (qa8 U (aU Af g e))) A0;have gW:=aa9 Vm (aa6 a2) hyrow;have hyrow:=ab3 (aa6 a2) G0 hyrow;have A2:=aa3 G0 (λe=>W1 e.symm) A2;have fR:=aa9 Vm (aa6 bd) hline;have hline:=ab3 (aa6 bd) G0 hline;have X0:=bm Af U U X0 G0;have i9:=G0.size;refine aa (aK (v:=d3) Z ?_);refine I ?_;refine gP (I ?_);exact bI ⟨k+1,acc++[q],d3,rfl,rfl,rfl,U,q4,(ve cw hq),U,arr,f0,(aa6 f9),(aa6 h9),(aa6 gW),(aa6 fR),X0,E,Ab,A1,O,A0,hyrow,A2,hline,(aM g1 Wf (dl _ q))⟩;have hG:acc=g8 xs m i:=by have:=cw;rw[show k=m by omega]at this;exact this
 refine I ?_;refine aa (qX (a:=3) (b:=(i:Int)) (c:=((3*i:Nat):Int)) Z Z JT Z ?_);refine aa (ci (a:=((3*i:Nat):Int)) (b:=2) (c:=((3*i+2:Nat):Int)) Z Z JT Z ?_);refine clb xw (hc:=sX (i:=(3*i+2)) (xs:=xs) U (hx.ext Am)) (hk:=?_);rintro _ _ L1 rfl;have E:=be L1.2 E;have Ab:=ab L1.2 Ab;have A1:=aa2 L1.2 A1;have O:=ab L1.2 O;have A0:=aa2 L1.2 A0;have hyrow:=ab L1.2 hyrow;have A2:=be L1.2 A2;have hline:=ab L1.2 hline;have Af:=ab L1.2 Af;have Am:=xt Am L1.2;refine clb qk (hc:=jw (kv xs (3*i+2)) 41 _ (sU U) U) (hk:=?_);rintro _ _ L4 rfl;have E:=be L4.2 E;have Ab:=ab L4.2 Ab;have A1:=aa2 L4.2 A1;have O:=ab L4.2 O;have A0:=aa2 L4.2 A0;have hyrow:=ab L4.2 hyrow;have A2:=be L4.2 A2;have hline:=ab L4.2 hline;have Af:=ab L4.2 Af;have Am:=xt Am L4.2;have hV:=du (kv xs (3*i+2)) 41 U;refine oE ?_;refine clb H9 (hc:=Aj ((aV (kv xs (3*i+2)) 41)-20) 2 _ U U) (hk:=?_);rintro _ _ KM rfl;have E:=be KM.2 E;have Ab:=ab KM.2 Ab;have A1:=aa2 KM.2 A1;have O:=ab KM.2 O;have A0:=aa2 KM.2 A0;have hyrow:=ab KM.2 hyrow;have A2:=be KM.2 A2;have hline:=ab KM.2 hline
 have Af:=ab KM.2 Af;have Am:=xt Am KM.2;refine I ?_;refine al aS (λ_ K2 eS=>?_);have dq:=bc Ab;have e3:=bc O;have eD:=bc hyrow;have fW:=bc hline;have g4:=bc Af;have E:=be K2.2 E;have Ab:=ab K2.2 Ab;have A1:=aa2 K2.2 A1;have O:=ab K2.2 O;have A0:=aa2 K2.2 A0;have hyrow:=ab K2.2 hyrow;have A2:=be K2.2 A2;have hline:=ab K2.2 hline;have Af:=ab K2.2 Af;have Am:=xt Am K2.2;refine SA eS (λ_ EW Ay=>?_);have E:=pb EW E;have Ab:=ax EW dq Ab;have A1:=ab8 EW U A1;have O:=ax EW e3 O;have A0:=ab8 EW U A0;have hyrow:=ax EW eD hyrow;have A2:=pb EW A2;have hline:=ax EW fW hline;have Af:=ax EW g4 Af;have Am:=bi EW Am;have k1:=iM EW;refine I ?_;refine aa (aW (v:=vline) d4 ?_);refine aa (cH (vs:=[(0,vline)]) (cells:=#[vline]) R7 jB Z dc dc (jO _ (bQ hline)) Z dc (λ_ KY _ hL=>?_));have E:=be KY E;have Ab:=ab KY Ab;have A1:=aa2 KY A1;have O:=ab KY O;have A0:=aa2 KY A0;have hyrow:=ab KY hyrow;have A2:=be KY A2;have hline:=ab KY hline;have Af:=ab KY Af;have⟨Ay,Am⟩:=bn KY Ay Am;refine AP Ab (aa8 hL) (λa8 _ Az wr Rm=>?_) (h1:=Ty (bQ hline))
 have fP:=aQ Rm e6 (bt E);have an:=aQ Rm e4 (bt A2);have fy:∀Aq,Aq<i->az a8 (H2 Aq):=λAq hi=>aa9 Rm (cr Aq hi) (Wr.own A1 Aq hi);have fB:∀Aq,Aq<i->az a8 (H3 Aq):=λAq hi=>aa9 Rm (c9 Aq hi) (Wr.own A0 Aq hi);have E:=aa3 wr (λe=>e6 e.symm) E;have A1:=ac8 wr cr A1;have e1:=aa9 Rm cp O;have O:=ab3 cp wr O;have A0:=ac8 wr c9 A0;have cy:=aa9 Rm co hyrow;have hyrow:=ab3 co wr hyrow;have A2:=aa3 wr (λe=>e4 e.symm) A2;have hC:=aa9 Rm a0 hline;have hline:=ab3 a0 wr hline;have h0:=aa9 Rm b0 Af;have Af:=ab3 b0 wr Af;have Ay:=aa3 wr (λe=>dq e.symm) Ay;have Am:=bm Ab U U Am wr;have hw:=wr.size;refine I ?_;refine aa (cC (b:=Cr.heap.size) (o:=0) (v:=a8) y0 Z Z (bQ Az) A2 (qa3 Z) (λ_ P1 T2=>?_));have E:=pb P1 E;have Az:=ax P1 an Az
 have A1:=ab8 P1 U A1;have O:=ax P1 X2 O;have A0:=ab8 P1 U A0;have hyrow:=ax P1 bW hyrow;have hline:=ax P1 Wa hline;have Af:=ax P1 W1 Af;have⟨Ay,Am,_⟩:=kt P1 Ay Am;refine I ?_;refine BS (λ_ L3 _ hO=>?_);have E:=be L3 E;have Az:=ab L3 Az;have A1:=aa2 L3 A1;have O:=ab L3 O;have A0:=aa2 L3 A0;have hyrow:=ab L3 hyrow;have T2:=be L3 T2;have hline:=ab L3 hline;have Af:=ab L3 Af;have⟨Ay,Am⟩:=bn L3 Ay Am;refine AP hyrow (aa8 hO) (λac _ ES E9 S0=>?_);have fz:=aQ S0 d0 (bt E);have cb:=aQ S0 bW (bt T2);have f3:∀Aq,Aq<i->az ac (H2 Aq):=λAq hi=>aa9 S0 (cq Aq hi) (Wr.own A1 Aq hi);have eZ:∀Aq,Aq<i->az ac (H3 Aq):=λAq hi=>aa9 S0 (ct Aq hi) (Wr.own A0 Aq hi);have E:=aa3 E9 (λe=>d0 e.symm) E;have g0:=aa9 S0 (aa6 cy) Az;have Az:=ab3 (aa6 cy) E9 Az;have A1:=ac8 E9 cq A1;have cz:=aa9 S0 (aa6 cm) O;have O:=ab3 (aa6 cm) E9 O
 have A0:=ac8 E9 ct A0;have T2:=aa3 E9 (λe=>bW e.symm) T2;have fN:=aa9 S0 ad hline;have hline:=ab3 ad E9 hline;have fC:=aa9 S0 a2 Af;have Af:=ab3 a2 E9 Af;have Ay:=aa3 E9 (λe=>eD e.symm) Ay;have Am:=bm hyrow U U Am E9;have i0:=E9.size;refine I ?_;refine aa (cC (b:=Cr.heap.size) (o:=1) (v:=ac) lU Z Z (bQ ES) T2 (qa3 Z) (λ_ N0 T3=>?_));have E:=pb N0 E;have Az:=ax N0 an Az;have A1:=ab8 N0 U A1;have O:=ax N0 X2 O;have A0:=ab8 N0 U A0;have ES:=ax N0 cb ES;have hline:=ax N0 Wa hline;have Af:=ax N0 W1 Af;have⟨Ay,Am,_⟩:=kt N0 Ay Am;refine I ?_;refine aa (aW (v:=Av) d6 ?_);refine aa (cH (vs:=[(0,Av)]) (cells:=#[Av]) R7 jB Z dc dc (jO _ (bQ Af)) Z dc (λ_ Kp _ eb=>?_));have E:=be Kp E;have Az:=ab Kp Az;have A1:=aa2 Kp A1;have O:=ab Kp O;have A0:=aa2 Kp A0;have ES:=ab Kp ES;have T3:=be Kp T3;have hline:=ab Kp hline;have Af:=ab Kp Af;have⟨Ay,Am⟩:=bn Kp Ay Am;refine AP O (aa8 eb) (λa4 _ a9 E6 S9=>?_) (h1:=Ty (bQ Af));have gs:=aQ S9 eB (bt E);have eC:=aQ S9 X2 (bt T3)
 have hB:∀Aq,Aq<i->az a4 (H2 Aq):=λAq hi=>aa9 S9 (cT Aq hi) (Wr.own A1 Aq hi);have fQ:∀Aq,Aq<i->az a4 (H3 Aq):=λAq hi=>aa9 S9 (bv Aq hi) (Wr.own A0 Aq hi);have E:=aa3 E6 (λe=>eB e.symm) E;have ga:=aa9 S9 (aa6 e1) Az;have Az:=ab3 (aa6 e1) E6 Az;have A1:=ac8 E6 cT A1;have A0:=ac8 E6 bv A0;have ft:=aa9 S9 (aa6 cz) ES;have ES:=ab3 (aa6 cz) E6 ES;have T3:=aa3 E6 (λe=>X2 e.symm) T3;have hA:=aa9 S9 a6 hline;have hline:=ab3 a6 E6 hline;have ask:=aa9 S9 a5 Af;have Af:=ab3 a5 E6 Af;have Ay:=aa3 E6 (λe=>e3 e.symm) Ay;have Am:=bm O U U Am E6;have hj:=E6.size;refine I ?_;refine aa (cC (b:=Cr.heap.size) (o:=2) (v:=a4) y0 Z Z (bQ a9) T3 (qa3 Z) (λd1 No h6=>?_));have E:=pb No E;have Az:=ax No an Az;have A1:=ab8 No U A1;have a9:=ax No eC a9;have A0:=ab8 No U A0
 have ES:=ax No cb ES;have hline:=ax No Wa hline;have Af:=ax No W1 Af;have⟨Ay,Am,_⟩:=kt No Ay Am;refine I ?_;refine gP (I ?_);have ej:World.ownsRow d1 C1.heap.size 33 2 vline ((fm xs n) i).length (ag ((fm xs n) i)):=by have h:=hline;rw[fx]at h;exact h
 have fS:=ck (lo':=Ap.heap.size) U ej;have eQ:∀j,j<i->az vline (H2 j):=Wr.far A1 hline U;have hE:World.ownsRow d1 VW.heap.size 33 2 Av ((g8 xs m) i).length (ag ((g8 xs m) i)):=by have h:=Af;rw[hG]at h;exact h
 have fl:=ck (lo':=Ap.heap.size) U hE;have gv:∀j,j<i->az Av (H3 j):=Wr.far A0 Af U;have fX:∀j,j<i->az vline (H3 j):=Wr.far A0 hline U;have hN:∀j,j<i->az Av (H2 j):=Wr.far A1 Af U;refine I ?_;exact bI ⟨i+1,bT H2 i vline,a8,bT H3 i Av,a4,acY++[yE xs i],ac,rfl,rfl,U,(λj Aw=>dW fy hC j Aw),(λj Aw=>dW fB h0 j Aw),(λj Aw=>dW hB hA j Aw),(λj Aw=>dW fQ ask j Aw),(λj Aw=>dW f3 fN j Aw),(λj Aw=>dW eZ fC j Aw),(Md cx fX hN bd),q4,(ve hacY Z),U,fP,an,gs,eC,fz,cb,(aa6 ga),(aa6 g0),ft,Am,E,(aM Az Z (eL H2 i vline).symm),(by have h:=Wr.push A1 fS eQ;rwa [kP]at h),(aM a9 Z (eL H3 i Av).symm),(by have h:=Wr.push A0 fl gv;rwa [kP]at h),(aM ES Wf (dl _ (yE xs i))),h6⟩;have E0:i=m:=J
 have eq:acY=yA xs m:=by rw[hacY,E0];rfl
 have CG:=dj (by have Ao:=Ab;rw[E0]at Ao;exact Ao);have B2:=dj (by have Ao:=O;rw[E0]at Ao;exact Ao);have ce:=aM hyrow (halY.trans E0) (qb2 ag eq);have B1:=dj ce;have bp:ap C1 Cr.heap.size 30 #[.slice (sA As) m (sC As),.slice (sA Ar) m (sC Ar),.slice (sA vc) m (sC vc)]:=by rw[<-CG,<-B1,<-B2];exact A2
 clear A2;have eG:=(by have Ao:=Ab;rw[E0]at Ao;exact Ao);have dd:=(by have Ao:=O;rw[E0]at Ao;exact Ao);have cc:qQ Ap.heap.size C1.heap.size C1 (sA As) (sC As) (sA Ar) (sC Ar) (sA vc) (sC vc) m H2 H3 (fm xs n) (g8 xs m) (yA xs m):=⟨Mc,(by simp only[<-CG,<-B1,<-B2];exact eG),(by simp only[<-CG,<-B1,<-B2];exact(dI eG)),Wr.top (by have Ao:=A1;rw[E0]at Ao;exact Ao),(by simp only[<-CG,<-B1,<-B2];exact ce),(by simp only[<-CG,<-B1,<-B2];exact(dI ce)),(by simp only[<-CG,<-B1,<-B2];exact dd),(by simp only[<-CG,<-B1,<-B2];exact(dI dd)),Wr.top (by have Ao:=A0;rw[E0]at Ao;exact Ao),(by simp only[<-CG,<-B1,<-B2];exact co),(by simp only[<-CG,<-B1,<-B2];exact cp),(by simp only[<-CG,<-B1,<-B2];exact cm),(by simp only[<-CG,<-B1,<-B2];exact(by have Ao:=cr;rw[E0]at Ao;exact Ao)),(by simp only[<-CG,<-B1,<-B2];exact(by have Ao:=c9;rw[E0]at Ao;exact Ao)),(by simp only[<-CG,<-B1,<-B2];exact(by have Ao:=cT;rw[E0]at Ao;exact Ao)),(by simp only[<-CG,<-B1,<-B2];exact(by have Ao:=bv;rw[E0]at Ao;exact Ao)),(by simp only[<-CG,<-B1,<-B2];exact(by have Ao:=cq;rw[E0]at Ao;exact Ao)),(by simp only[<-CG,<-B1,<-B2];exact(by have Ao:=ct;rw[E0]at Ao;exact Ao)),(by have Ao:=cx;rw[E0]at Ao;exact Ao)⟩;refine I ?_
 (try refine aa (aP (cs:=[.slice (sA As) m (sC As),.slice (sA Ar) m (sC Ar),.slice (sA vc) m (sC vc)]) (b:=Cr.heap.size) (o:=0) da Z bj Z (aa0 bp (i:=0) Z) ?_));refine aa (bF (b:=w.heap.size) (o:=0) (vs:=[.slice (sA As) m (sC As),.slice (sA Ar) m (sC Ar),.slice (sA vc) m (sC vc)]) bj Z Z KK E (qa3 Z) (λ_ a3 hP=>?_));have bp:=pb a3 bp;have cc:=qQ.put a3 U cc;have WV:=bi a3 WV;have he:=iM a3;refine I ?_;refine aX (v:=.agg #[.slice (sA As) m (sC As),.slice (sA Ar) m (sC Ar),.slice (sA vc) m (sC vc)]) (bY  rfl ?_) WV ⟨_,_,_,_,_,_,_,_,_,_,U,U,rfl,cc⟩;refine ak (t:=6) (cs:=[.slice (sA As) m (sC As),.slice (sA Ar) m (sC Ar),.slice (sA vc) m (sC vc)]) (b:=w.heap.size) (o:=0) da Z bj ?_ ?_;exact Z;exact aa0 hP (i:=0) Z
set_option maxRecDepth 100000
def vC:List R:=[br 10 1,br 11 1,br 15 1]
def kY:Rows:=bA [br 1 1,br 1 1,br 1 1]
def p9:Rows:=λi=>uR i 3
def Rw.take40 (h:Rw w lo X (nk xs)):Rw w lo X (nk (xs.take 40)):=by
 have:=Rw.take 40 h
 rwa [show(nk xs).take 40=nk (xs.take 40)by simp[nk,List.map_take]]at this
def kf {b:List R}(hb:Rw w lo A (ag b))(hbl:b.length*32<=140737488355328):
 CL 30 #[.slice A b.length C] w (aG w λv w'=>dy w.heap.size w' v b.length (bA b)):=by
 refine aC func30 Z (I ?_);have E1:World.ownsRow w w.heap.size 28 1 (.slice none 0 0) 0 []:=bK;have Az:Wr w w.heap.size w.heap.size 0 (λ_=>.nilIface) (bA b):=Wr.nil;have E5:=aa4 w;refine cg [(3,18)] (λE4 e W=>∃i:Nat,∃H2:Nat->Value,∃A2:Value,(b.length-i=E4)/\(e 4=.int .i64 i)/\(e 3=A2)/\(i<=b.length)/\(∀zz,zz<i->az A2 (H2 zz))/\(w.heap.size<=W.heap.size)/\(aO w W)/\(W.ownsRow w.heap.size 28 1 A2 i ((List.range i).map H2))/\(Wr W w.heap.size W.heap.size i H2 (bA b))) (b.length-0) ⟨0,(λ_=>.nilIface),.slice none 0 0,rfl,rfl,rfl,(qa7 _),(λj Ax=>by omega),(qa0 _),E5,E1,Az⟩ ?_;rintro _ _ A0 ⟨i,H2,A2,rfl,E7,Ar,hi_i,Aw,wr,O,A1,E⟩;have E9:=bz O;by_cases hli:i<b.length;refine I ?_;refine aa (aW (v:=A2) Ar ?_);have E0:=bD (hb.ext O) (k:=(i)) U;refine I ?_;refine mu E0 (I ?_);have Av:=dI A1;refine BS (λCG Ap _ nm=>?_);have ES:=bc A1;have A1:=ab Ap A1;have E:=aa2 Ap E;have O:=xt O Ap;have Ab:World.ownsRow CG A0.heap.size 33 2 (.slice (some ⟨A0.heap.size,0,none⟩) 1 1) [ar b i].length (ag [ar b i]):=aM nm Z Z;refine BS (λ_ Am _ Ay=>?_);have A1:=ab Am A1;have E:=aa2 Am E;have Ab:=ab Am Ab;have O:=xt O Am;refine AP A1 (aa8 Ay) (λAq B1 E6 Ao As=>?_)
 have ny:∀Af,Af<i->az Aq (H2 Af):=λAf hi=>aa9 As (Aw Af hi) (Wr.own E Af hi);have E:=ac8 Ao Aw E;have od:=aa9 As (aa6 (λg h1 h2=>by cases h1;have h3:A0.heap.size<_:=Av _ h2;omega)) Ab;have Ab:=ab3 (aa6 (λg h1 h2=>by cases h1;have h3:A0.heap.size<_:=Av _ h2;omega)) Ao Ab;have O:=bm A1 U U O Ao;have EW:=Ao.size;refine aa (aK (v:=Aq) Z ?_);refine I ?_;refine gP (I ?_);have C1:World.ownsRow B1 A0.heap.size 33 2 (.slice (some ⟨A0.heap.size,0,none⟩) 1 1) ((bA b) i).length (ag ((bA b) i)):=aM Ab Z Z;have B2:=ck (lo':=w.heap.size) U C1;have Cr:∀zz,zz<i->az (.slice (some ⟨A0.heap.size,0,none⟩) 1 1) (H2 zz):=Wr.far E Ab U;refine I ?_;exact bI ⟨i+1,bT H2 i (.slice (some ⟨A0.heap.size,0,none⟩) 1 1),Aq,rfl,rfl,rfl,U,(λj Ax=>dW ny od j Ax),U,O,(aM E6 Z (eL H2 i (.slice (some ⟨A0.heap.size,0,none⟩) 1 1)).symm),(by have h:=Wr.push E B2 Cr;rwa [pF]at h)⟩;refine I ?_;refine aa (aW (v:=A2) Ar ?_);refine aa (aK (v:=A2) Z ?_);refine I ?_;exact am (t:=2) (v:=A2) Z O (by have h:=pH A1 E;rw[show i=b.length by omega]at h;exact h.mono U) Z
def PQ {m:Nat}(hx0:In64 x0)(hx1:In64 x1)(hm:2+aV x0 4=(m:Int))(hn:1+aV x1 2=(n:Int))(hx:Rw w lo X (nk xs))(hxc:xs.length<=CX):
 CL 10 #[.agg #[.int .i64 x0,.int .i64 x1,.slice X xs.length CX]] w (aG w λv w'=>∃A C Y CY B CB H G lo hi,w.heap.size<=lo/\hi<=w'.heap.size/\v=.agg #[.slice A m C,.slice Y m CY,.slice B m CB]/\qQ lo hi w' A C Y CY B CB m H G (fm (xs.take 40) n) (g8 (xs.take 40) m) (yA (xs.take 40) m)):=by
 refine aC func10 Z (I ?_);refine bx (λAq Av O=>?_);have E:=Av.2;refine al ee (λ_ Aw W=>?_);have⟨O,E⟩:=bn Aw.2 O E;refine I ?_;refine bL 11 ?_;refine aA (λ_ _ _ _=>by refine aa (iR (b:=w.heap.size) (o:=0) (off:=0) (oo:=0) v8 Z Z iT Z Z ?_);refine I ?_;exact aH) ?_;refine sf ?_;refine aA (λ_ _ _ _=>by refine aa (iR (b:=w.heap.size) (o:=0) (off:=1) (oo:=1) v8 Z Z iT Z Z ?_);refine I ?_;exact aH) ?_;refine sf ?_;refine aA (λ_ _ _ _=>by refine aa (iR (b:=w.heap.size) (o:=0) (off:=2) (oo:=2) v8 Z Z BD Z Z ?_);refine I ?_;exact aH) ?_;refine sf ?_;refine aA (λ_ _ _ _=>by refine aa (iR (b:=w.heap.size) (o:=0) (off:=2) (oo:=2) v8 Z Z BD Z Z ?_);refine I ?_;exact aH) ?_;refine sf ?_;refine aA (λ_ _ _ _=>by refine aa (Xx (a:=((xs.length:Nat):Int)) (b:=40) (m:=(((xs.take 40).length:Nat):Int)) Z Z (by rw[List.length_take];split <;>omega) ?_);refine I ?_;exact aH) ?_;refine aA (λ_ _ _ _=>by refine aa (oL (A:=X) (m:=xs.length) (c:=CX) (j:=(xs.take 40).length) ks iT Z Z (by rw[List.length_take];omega) ?_);refine I ?_;exact aH) ?_;refine sf ?_;intro _ _ Ar _;have⟨O,W,E⟩:=cj Ar.2 O W E
 refine cl SC (Hs (xs:=xs.take 40) hx0 hx1 hm hn (Rw.take40 (hx.ext E))) ?_;rintro _ _ As ⟨Am,Ap,Ab,Af,Ao,A2,B2,Ay,CG,Az,B1,Ax,rfl,A1⟩;have⟨O,W,E⟩:=cj As.2 O W E;refine aa (bF (b:=Aq.heap.size) (o:=0) (vs:=[.slice Am m Ap,.slice Ab m Af,.slice Ao m A2]) bj Z Z KK W (qa3 Z) (λ_ A0 wr=>?_));have O:=pb A0 O;have A1:=qQ.put A0 U A1;have E:=bi A0 E;have C1:=iM A0;refine I ?_;refine aX (v:=.agg #[.slice Am m Ap,.slice Ab m Af,.slice Ao m A2]) (bY  rfl ?_) E ⟨_,_,_,_,_,_,_,_,_,_,U,U,rfl,A1⟩;refine ak (t:=2) (cs:=[.slice Am m Ap,.slice Ab m Af,.slice Ao m A2]) (b:=Aq.heap.size) (o:=0) da Z bj ?_ ?_;exact Z;exact aa0 wr (i:=0) Z
def Dn :
 CL 31 #[] w (aG w λv w'=>∃A C Y CY B CB,v=.agg #[.slice A 3 C,.slice Y 3 CY,.slice B 3 CB]/\gl w.heap.size w' A C Y CY B CB kY p9 vC):=by
 refine aC func31 Z (I ?_);refine al ee (λ_ E0 O=>?_);have E:=E0.2;refine I ?_;refine clb eF (hc:=cZ 1 1 U U) (hk:=?_);rintro _ _ ny rfl;have⟨O,E⟩:=bn ny.2 O E;refine clb eF (hc:=cZ 1 1 U U) (hk:=?_);rintro _ _ od rfl;have⟨O,E⟩:=bn od.2 O E;refine clb eF (hc:=cZ 1 1 U U) (hk:=?_);rintro _ Ay Cr rfl;have⟨O,E⟩:=bn Cr.2 O E;refine aa (cH (vs:=[(0,.agg #[S ((br 1 1).1),S ((br 1 1).2)]),(1,.agg #[S ((br 1 1).1),S ((br 1 1).2)]),(2,.agg #[S ((br 1 1).1),S ((br 1 1).2)])]) (cells:=#[S ((br 1 1).1),S ((br 1 1).2),S ((br 1 1).1),S ((br 1 1).2),S ((br 1 1).1),S ((br 1 1).2)]) tc aS Z dc dc q0 Z dc (λAw B1 _ E6=>?_));have⟨O,E⟩:=bn B1 O E;have C1:m6 Aw Ay.heap.size Aw.heap.size (some ⟨Ay.heap.size,0,none⟩) (ag [br 1 1,br 1 1,br 1 1]):=ab6 (aa8 E6);refine clb xr (hc:=kf (b:=[br 1 1,br 1 1,br 1 1]) (C1).rw (by first|decide|omega)) (hk:=?_);rintro _ _ B2 wr;have⟨O,E⟩:=bn B2.2 O E;obtain⟨Af,Am,_,rfl,_,E1⟩:=wr;have W:=ab2 E1;refine clb eF (hc:=cZ 10 1 U U) (hk:=?_);rintro _ _ As rfl;have O:=be As.2 O;have W:=aa1 As.2 W;have E:=xt E As.2;refine clb eF (hc:=cZ 11 1 U U) (hk:=?_);rintro _ _ Ar rfl;have O:=be Ar.2 O;have W:=aa1 Ar.2 W;have E:=xt E Ar.2
 refine clb eF (hc:=cZ 15 1 U U) (hk:=?_);rintro _ A0 nm rfl;have O:=be nm.2 O;have W:=aa1 nm.2 W;have E:=xt E nm.2;refine aa (cH (vs:=[(0,.agg #[S ((br 10 1).1),S ((br 10 1).2)]),(1,.agg #[S ((br 11 1).1),S ((br 11 1).2)]),(2,.agg #[S ((br 15 1).1),S ((br 15 1).2)])]) (cells:=#[S ((br 10 1).1),S ((br 10 1).2),S ((br 11 1).1),S ((br 11 1).2),S ((br 15 1).1),S ((br 15 1).2)]) tc aS Z dc dc q0 Z dc (λAx Aq _ E5=>?_));have O:=be Aq O;have W:=aa1 Aq W;have E:=xt E Aq;have A2:m6 Ax A0.heap.size Ax.heap.size (some ⟨A0.heap.size,0,none⟩) (ag [br 10 1,br 11 1,br 15 1]):=ab6 (aa8 E5);refine clb YL (hc:=OM (n:=3) dc) (hk:=?_);rintro _ _ Ap CG;have O:=be Ap.2 O;have W:=aa1 Ap.2 W;have A2:=aa5 Ap.2 A2;have E:=xt E Ap.2;obtain⟨Ab,A1,_,rfl,E7,E4⟩:=CG;have Av:=ab2 E4;refine aa (bU (vs:=[(0,.slice Af (([br 1 1,br 1 1,br 1 1]).length) Am),(1,.slice (some ⟨A0.heap.size,0,none⟩) 3 3),(2,.slice Ab 3 A1)]) (cells:=#[.slice Af (([br 1 1,br 1 1,br 1 1]).length) Am,.slice (some ⟨A0.heap.size,0,none⟩) 3 3,.slice Ab 3 A1]) (pl:=[(0,1),(1,1),(2,1)]) da ee q0 Z q0 ?_)
 refine aa (bF (b:=w.heap.size) (o:=0) (vs:=[.slice Af (([br 1 1,br 1 1,br 1 1]).length) Am,.slice (some ⟨A0.heap.size,0,none⟩) 3 3,.slice Ab 3 A1]) bj Z Z KK O (qa3 Z) (λ_ Ao Az=>?_));have W:=ac1 Ao U W;have A2:=ab9 Ao U A2;have Av:=ac1 Ao U Av;have E:=bi Ao E;refine I ?_;refine aX (v:=.agg #[.slice Af (([br 1 1,br 1 1,br 1 1]).length) Am,.slice (some ⟨A0.heap.size,0,none⟩) 3 3,.slice Ab 3 A1]) (bY  rfl ?_) E ⟨_,_,_,_,_,_,rfl,⟨⟨_,((W).mt).mono U⟩,((A2).rw).mono U,⟨_,((Av).mt).mono U⟩,E7⟩⟩;refine ak (t:=0) (cs:=[.slice Af (([br 1 1,br 1 1,br 1 1]).length) Am,.slice (some ⟨A0.heap.size,0,none⟩) 3 3,.slice Ab 3 A1]) (b:=w.heap.size) (o:=0) da Z bj ?_ ?_;exact Z;exact aa0 Az (i:=0) Z
end
section
set_option maxRecDepth 100000
def Ht (m:Nat)(V:Rows):Rows:=oR (ep m V)
def vU (m k:Nat)(L V:Rows):Rows:=oR (c6 k (λj=>kX L m j) m (Ht m V))
def HQ (m k:Nat)(L V:Rows):Rows:=oR (c6 k (vU m k L V) m L)
def xc (m k:Nat)(L V:Rows):Rows:=oR (ep k (HQ m k L V))
def X7 (m k:Nat)(L V:Rows)(ys:List R):Rows:=oR (c6 k (vU m k L V) m (bA ys))
def PR (m k:Nat)(L V:Rows)(ys:List R):Rows:=oR (c6 k (xc m k L V) k (X7 m k L V ys))
def RD (m k:Nat)(L V:Rows)(ys:List R):Rows:=oR (c6 m L k (PR m k L V ys))
def rU (P:Rows)(ys:List R)(i:Nat):R:=(rN (dn (ar ys i) (ar (P i) 0)),rD (dn (ar ys i) (ar (P i) 0)))
def oC (m k:Nat)(L V:Rows)(ys:List R):List R:=(List.range m).map (rU (RD m k L V ys) ys)
def X8 (m k:Nat)(L V:Rows)(ys:List R):Rows:=oR (c6 1 (λj=>kX (bA (oC m k L V ys)) m j) m (Ht m V))
def HR (m k:Nat)(L V:Rows)(ys:List R):Rows:=oR (c6 1 (X8 m k L V ys) m (bA (oC m k L V ys)))
def sY (m k:Nat)(L V:Rows)(ys:List R):List R:=(List.range k).map λi=>ar (PR m k L V ys i) 0
def Do (m k:Nat)(L V:Rows)(ys:List R):Bool:=
 (ep m V).isSome&&(c6 k (λj=>kX L m j) m (Ht m V)).isSome&&(c6 k (vU m k L V) m L).isSome&&(ep k (HQ m k L V)).isSome&&(c6 k (vU m k L V) m (bA ys)).isSome&&(c6 k (xc m k L V) k (X7 m k L V ys)).isSome&&(c6 m L k (PR m k L V ys)).isSome&&
 (List.range m).all (λi=>decide (0<(RD m k L V ys i).length)&&(dn (ar ys i) (ar (RD m k L V ys i) 0)).isSome)&&vM m (bA (oC m k L V ys))&&(c6 1 (λj=>kX (bA (oC m k L V ys)) m j) m (Ht m V)).isSome&&(c6 1 (X8 m k L V ys) m (bA (oC m k L V ys))).isSome&&(List.range k).all (λi=>decide (0<(PR m k L V ys i).length))&&decide (0<(HR m k L V ys 0).length)
def iP {o:Option Rows}(h:o.isSome=true):o=some (oR o):=by cases o;cases h;rfl
def gC {f:Nat->R}(h:i<n):ar ((List.range n).map f) i=f i:=by unfold ar;simp[List.getD,h]
def A9 {a b:R}(h:(dn a b).isSome=true):dn a b=some (rN (dn a b),rD (dn a b)):=by
 cases e:dn a b with
 |none=>rw[e]at h;cases h
 |some q=>rfl
def Dp {m:Nat}{L V:Rows}{ys:List R}(h:Do m k L V ys=true):
 Pg m k L V ys (Ht m V) (vU m k L V) (HQ m k L V) (xc m k L V) (X7 m k L V ys) (PR m k L V ys) (RD m k L V ys) (oC m k L V ys) (sY m k L V ys) (X8 m k L V ys) (HR m k L V ys):=by
 unfold Do at h
 simp only[Bool.and_eq_true]at h
 obtain⟨⟨⟨⟨⟨⟨⟨⟨⟨⟨⟨⟨h1,h2⟩,h3⟩,h4⟩,Ao⟩,A1⟩,Am⟩,A2⟩,A0⟩,Af⟩,O⟩,Ab⟩,W⟩:=h
 have E:∀i,i<m->0<(RD m k L V ys i).length/\(dn (ar ys i) (ar (RD m k L V ys i) 0)).isSome=true:=λi hi=>by
  have:=List.all_eq_true.1 A2 i (List.mem_range.2 hi)
  simpa only[Bool.and_eq_true,decide_eq_true_eq]using this
 exact⟨iP h1,iP h2,iP h3,iP h4,iP Ao,iP A1,iP Am,λi hi=>(E i hi).1,by simp[oC],λi hi=>by rw[oC,gC hi];exact A9 (E i hi).2,A0,iP Af,iP O,
  λi hi=>by simpa using List.all_eq_true.1 Ab i (List.mem_range.2 hi),by simp[sY],λi hi=>by rw[sY,gC hi],by simpa using W⟩
def RE (ha:fits a=true)(hb:fits b=true)(h0:b≠0):qJ (ae a) (ae b)=some (qR a b):=by
 unfold qJ
 rw[bf ha,bf hb,Bool.and_self,if_pos Z,aI,aI,sR h0]
def FH (ha:-1000<=a/\a<=1000)(hb:-1000<=b/\b<=1000)(h0:b≠0):br a b=qR a b:=by
 unfold br;rw[RE (iG ha) (iG hb) h0];rfl
def r4:Rows:=λi=>(p9 i).take 2
def r5:List R:=vC.take 2
def qS:eT kY p9 vC:=⟨by decide +kernel,by decide +kernel,by decide +kernel,by decide +kernel,by decide +kernel,by decide +kernel⟩
def Me:eT kY r4 r5:=⟨by decide +kernel,by decide +kernel,by decide +kernel,by decide +kernel,by decide +kernel,by decide +kernel⟩
def exE:Do 3 1 kY p9 vC=true:=by decide +kernel
def ZM:Do 2 1 kY r4 r5=true:=by decide +kernel
def exX:sY 3 1 kY p9 vC=[br 12 1]:=by decide +kernel
def ZN:(xc 3 1 kY p9 0).length=1/\ar (xc 3 1 kY p9 0) 0=br 1 3:=by decide +kernel
def exS:ar (HR 3 1 kY p9 vC 0) 0=qR 14 1:=by decide +kernel
def ZO:ar (HR 2 1 kY r4 r5 0) 0=qR 1 2:=by decide +kernel
def ZP:pY kY p9 vC [0,1,2] kY p9 vC:=
 ⟨by decide +kernel,λj E=>by match j,E with|0,_=>decide|1,_=>decide,by decide,λi hi=>by match i,hi with|0,_=>rfl|1,_=>rfl|2,_=>rfl,by decide +kernel,by decide +kernel,rfl,by decide +kernel⟩
def X9:pY kY p9 vC [0,1] kY r4 r5:=
 ⟨by decide +kernel,λj E=>by match j,E with|0,_=>decide,by decide,λi hi=>by match i,hi with|0,_=>rfl|1,_=>rfl,by decide +kernel,by decide +kernel,rfl,by decide +kernel⟩
section
variable {Y B:Option Addr}{CY CB:Nat}
def Ba (hD:ey w A C Y CY B CB kY p9 vC)(ht:Tb w):
 CL 14 #[.agg #[.slice A 3 C,.slice Y 3 CY,.slice B 3 CB]] w (aG w λv w'=>∃u,v=.tuple #[u,.int .i64 0]/\ow w.heap.size w' u 1 [br 12 1] (xc 3 1 kY p9) (qR 14 1) 2):=by
 have h:=yz hD qS (k:=1) Z (Dp exE) ht
 rw[show sY vC.length 1 kY p9 vC=[br 12 1]from exX,show ar (HR vC.length 1 kY p9 vC 0) 0=qR 14 1 from exS]at h
 exact h
def Hu (hD:ey w A C Y CY B CB kY r4 r5)(ht:Tb w):
 CL 14 #[.agg #[.slice A 2 C,.slice Y 2 CY,.slice B 2 CB]] w (aG w λv w'=>∃u,v=.tuple #[u,.int .i64 0]/\ow w.heap.size w' u 1 (sY 2 1 kY r4 r5) (xc 2 1 kY r4) (qR 1 2) 1):=by
 have h:=yz hD Me (k:=1) Z (Dp ZM) ht
 rw[show ar (HR r5.length 1 kY r4 r5 0) 0=qR 1 2 from ZO]at h
 exact h
def Mf (hD:ey w A C Y CY B CB kY p9 vC)(hR:Rw w lo5 kd (ints [0,1]))(ht:Tb w):
 CL 22 #[.agg #[.slice A 3 C,.slice Y 3 CY,.slice B 3 CB],.slice kd 2 CR] w (aG w λv w'=>∃u,v=.tuple #[u,.int .i64 0]/\∃A C Y CY B CB,u=.agg #[.slice A 2 C,.slice Y 2 CY,.slice B 2 CB]/\gl w.heap.size w' A C Y CY B CB kY r4 r5):=
 yK hD qS hR X9 Me ht
def Mg (hD:ey w A C Y CY B CB kY p9 vC)(hz:Rw w lo4 X (ag [br 12 1]))(ht:Tb w):
 CL 24 #[.agg #[.slice A 3 C,.slice Y 3 CY,.slice B 3 CB],.slice X 1 CX] w (aG w λv w'=>∃u,v=.tuple #[u,.int .i64 0]/\yx w.heap.size w' u [br (-2) 1,br (-1) 1,br 3 1]):=by
 exact Fu hD qS (zs:=[br 12 1]) (CX:=CX) hz (P:=oR (c6 3 kY 1 (bA [br 12 1]))) (rs:=[br (-2) 1,br (-1) 1,br 3 1]) Hx (iP Hx) Hx Z Hx ht
def Mh (hD:ey w A C Y CY B CB kY p9 vC)(ht:Tb w):
 CL 32 #[.agg #[.slice A 3 C,.slice Y 3 CY,.slice B 3 CB]] w (aG w λv w'=>v=.bool true):=by
 obtain⟨⟨_,_,hM⟩,⟨_,hy⟩,⟨_,_,hV⟩,hc⟩:=hD
 exact iH (ys:=vC) (L:=kY) (V:=p9) hM (dM qS.hv) hy hV (dM qS.hv3) hc qS.hv qS.hv3 qS.hVl qS.hLl qS.hyo qS.hp ht
def Dq (hD:ey w A C Y CY B CB kY p9 vC)(h12:pl<=12)(hC3:∀A C Y CY B CB W,ey W A C Y CY B CB kY p9 vC->Tb W->CL 19 #[.agg #[.slice A 3 C,.slice Y 3 CY,.slice B 3 CB],.agg #[S (br 1 20).1,S (br 1 20).2],.int .i64 pl] W (aG W λv _=>v=.tuple #[.int .i64 2,.int .i64 0]))(hC2:∀A C Y CY B CB W,ey W A C Y CY B CB kY r4 r5->Tb W->CL 19 #[.agg #[.slice A 2 C,.slice Y 2 CY,.slice B 2 CB],.agg #[S (br 1 20).1,S (br 1 20).2],.int .i64 pl] W (aG W λv _=>v=.tuple #[.int .i64 1,.int .i64 0]))(ht:Tb w):
 CL 21 #[.agg #[.slice A 3 C,.slice Y 3 CY,.slice B 3 CB],.agg #[S (br 1 20).1,S (br 1 20).2],.int .i64 pl] w (aG w λv w'=>∃u,v=.tuple #[u,.int .i64 0]/\w'.ownsRow w.heap.size 3 1 u 2 (ints [0,1])):=by
 rw[FH dc dc dc]at hC3 hC2 ⊢
 exact L6 hD qS Z ⟨by decide,by decide,by decide⟩ h12 dc dc ZP qS X9 Me hC3 hC2 ht
end
end
section
attribute [local irreducible] wpListIn Code.wpIn Oper.wpIn Exit.then Exit.inBlock Exit.noGoto
set_option maxHeartbeats 40000000
def PS {u:Value}{cs:List Value}{t:TypeId}(h:w.ownsRow lo t 1 u k cs):∃P cp,u=.slice P k cp/\m6 w lo w.heap.size P cs:=⟨sA u,sC u,dj h,ab6 (gi h)⟩
structure mM (hi:Nat)(w:World)(A:Option Addr)(C:Nat)(Y:Option Addr)(CY:Nat)(B:Option Addr)(CB:Nat)(L V:Rows)(ys:List R):Prop where
 m:∃H,lS w 0 hi A ys.length H L
 y:m6 w 0 hi Y (ag ys)
 v:∃G,lS w 0 hi B ys.length G V
 c:ys.length<=CB
section
variable {hi:Nat}{w':World}{Y:Option Addr}{CY:Nat}{B:Option Addr}{CB:Nat}{L V:Rows}{ys:List R}
def mM.ext (k:aO w w')(h:mM hi w A C Y CY B CB L V ys):mM hi w' A C Y CY B CB L V ys:=by
 obtain⟨⟨b,c⟩,e,⟨g,i⟩,j⟩:=h
 exact⟨⟨b,c.ext k⟩,e.ext k,⟨g,i.ext k⟩,j⟩
def ab7:=@mM.ext
def mM.put (k:eE w w' x)(hx:x<0\/hi<=x)(h:mM hi w A C Y CY B CB L V ys):mM hi w' A C Y CY B CB L V ys:=by
 obtain⟨⟨b,c⟩,e,⟨g,i⟩,j⟩:=h
 exact⟨⟨b,c.put k hx⟩,e.put k hx,⟨g,i.put k hx⟩,j⟩
def ad8:=@mM.put
def mM.of (h:gl lo w A C Y CY B CB L V ys):mM w.heap.size w A C Y CY B CB L V ys:=by
 obtain⟨⟨b,c⟩,e,⟨g,i⟩,j⟩:=h
 exact⟨⟨b,ab2 (c.mono (qa7 _))⟩,ab6 (e.mono (qa7 _)),⟨g,ab2 (i.mono (qa7 _))⟩,j⟩
def mM.des (h:mM hi w A C Y CY B CB L V ys):ey w A C Y CY B CB L V ys:=by
 obtain⟨⟨b,c⟩,e,⟨g,i⟩,j⟩:=h
 exact⟨⟨_,b,c.mt⟩,⟨_,e.rw⟩,⟨_,g,i.mt⟩,j⟩
end
set_option maxHeartbeats 4000000 in
set_option maxRecDepth 100000 in
def Hw {a:Addr}(hE:Er w a)(hC3:∀A C Y CY B CB W,ey W A C Y CY B CB kY p9 vC->Tb W->CL 19 #[.agg #[.slice A 3 C,.slice Y 3 CY,.slice B 3 CB],.agg #[S (br 1 20).1,S (br 1 20).2],.int .i64 6] W (aG W λv _=>v=.tuple #[.int .i64 2,.int .i64 0]))(hC2:∀A C Y CY B CB W,ey W A C Y CY B CB kY r4 r5->Tb W->CL 19 #[.agg #[.slice A 2 C,.slice Y 2 CY,.slice B 2 CB],.agg #[S (br 1 20).1,S (br 1 20).2],.int .i64 6] W (aG W λv _=>v=.tuple #[.int .i64 1,.int .i64 0]))(ht:Tb w):
 CL 9 #[] w (aG w λv w'=>v=.bool true):=by
 refine aC func9 Z (I ?_);refine cl SB Dn ?_;rintro _ CG dq ⟨Cr,nm,Az,B2,C1,E4,rfl,arr⟩;have E:=dq.2;have A0:=mM.of arr;refine al ee (λ_ Li a6=>?_);have A0:=ab7 Li.2 A0;have E:=xt E Li.2;refine aa (bF (b:=CG.heap.size) (o:=0) (vs:=[.slice Cr 3 nm,.slice Az 3 B2,.slice C1 3 E4]) bj Z Z KK a6 (qa3 Z) (λ_ H2 A1=>?_));have A0:=ad8 H2 U A0;have E:=bi H2 E;have hA:=iM H2;refine I ?_;(try refine aa (aP (cs:=[.slice Cr 3 nm,.slice Az 3 B2,.slice C1 3 E4]) (b:=CG.heap.size) (o:=0) da Z bj Z (aa0 A1 (i:=0) Z) ?_));refine cl tl (Ba (A0).des (ht.ext E)) ?_;rintro _ fl L1 ⟨ga,rfl,od,d1,ce,fS,ny,rfl,gs,an,gr,fB⟩;have A0:=ab7 L1.2 A0;have⟨A1,E⟩:=bn L1.2 A1 E;have Ab:=ab6 an;have A2:=ab2 fB;refine I ?_;refine al dN (λ_ E6 eC=>?_);have A0:=ab7 E6.2 A0;have A1:=be E6.2 A1;have Ab:=aa5 E6.2 Ab;have A2:=aa1 E6.2 A2;have E:=xt E E6.2;refine aa (bF (b:=fl.heap.size) (o:=0) (vs:=[.slice od 1 d1,.slice ce 1 fS,S (qR 14 1).1,S (qR 14 1).2,.int .i64 2]) dG Z Z KK eC (qa3 Z) (λ_ E5 Af=>?_))
 have A0:=ad8 E5 U A0;have A1:=pb E5 A1;have Ab:=ab9 E5 U Ab;have A2:=ac1 E5 U A2;have E:=bi E5 E;have g2:=iM E5;refine I ?_;refine bL 8 ?_;refine aA (λ_ _ No _=>by have A1:=be No A1;(try refine aa (aP (cs:=[.slice Cr 3 nm,.slice Az 3 B2,.slice C1 3 E4]) (b:=CG.heap.size) (o:=0) da Z bj Z (aa0 A1 (i:=0) Z) ?_));refine I ?_;exact aH) ?_;refine aR (V:=.agg #[S ((br 1 20).1),S ((br 1 20).2)]) (λ_ _ _ _=>?_) ?_;refine clb eF (hc:=cZ 1 20 U U) (hk:=?_);rintro _ _ eX rfl;refine I ?_;exact fs ⟨eX.2,rfl⟩;refine aR (V:=.tuple #[.int .i64 2,.int .i64 0]) (λ_ _ K2 _=>?_) ?_;have A0:=ab7 K2 A0;refine cl xq (hC3 _ _ _ _ _ _ _ (A0).des (ht.ext (xt E K2))) ?_;rintro _ _ e5 rfl;refine I ?_;exact fs ⟨e5.2,rfl⟩;refine sf ?_;intro _ _ E9 _;have A0:=ab7 E9.2 A0;have A1:=be E9.2 A1;have Ab:=aa5 E9.2 Ab;have A2:=aa1 E9.2 A2;have⟨Af,E⟩:=bn E9.2 Af E;refine I ?_;refine bL 8 ?_;refine aA (λ_ _ cx _=>by have A1:=be cx A1;(try refine aa (aP (cs:=[.slice Cr 3 nm,.slice Az 3 B2,.slice C1 3 E4]) (b:=CG.heap.size) (o:=0) da Z bj Z (aa0 A1 (i:=0) Z) ?_));refine I ?_;exact aH) ?_;refine aR (V:=.agg #[S ((br 1 20).1),S ((br 1 20).2)]) (λ_ _ _ _=>?_) ?_
 refine clb eF (hc:=cZ 1 20 U U) (hk:=?_);rintro _ _ ej rfl;refine I ?_;exact fs ⟨ej.2,rfl⟩;refine bR (fun(v:Value) (W:World)=>∃P O,v=Value.tuple #[Value.slice P 2 O,.int .i64 0]/\Rw W 0 P (ints [0,1])) (hs:=λ_ _ _ k h=>by obtain⟨P,O,e,r⟩:=h;exact⟨P,O,e,r.ext k⟩) (λ_ _ L3 _=>?_) ?_;have A0:=ab7 L3 A0;refine clb Sz (hc:=Dq (A0).des dc hC3 hC2 (ht.ext (xt E L3))) (hk:=?_);rintro _ _ Vm ⟨gv,rfl,ct⟩;obtain⟨_,_,rfl,P2⟩:=PS ct;refine I ?_;exact fs ⟨Vm.2,⟨_,_,rfl,((P2).rw).mono (Nat.zero_le _)⟩⟩;refine bR (fun(v:Value) (W:World)=>∃P O,v=Value.tuple #[Value.slice P 2 O,.int .i64 0]/\Rw W 0 P (ints [0,1])) (hs:=λ_ _ _ k h=>by obtain⟨P,O,e,r⟩:=h;exact⟨P,O,e,r.ext k⟩) (λd0 e4 _ fi=>?_) ?_;have cm:∃P O,d0 32=Value.tuple #[Value.slice P 2 O,.int .i64 0]/\Rw e4 0 P (ints [0,1]):=(fi 2 32 Z Z);(with_reducible obtain⟨_,_,_,eW⟩:=cm);have fu:=ab6 eW;refine I ?_;exact fs ⟨aa4 _,⟨_,_,rfl,((fu).rw).mono (Nat.zero_le _)⟩⟩;refine bR (fun(v:Value) (W:World)=>∃P O,v=Value.slice P 2 O/\Rw W 0 P (ints [0,1])) (hs:=λ_ _ _ k h=>by obtain⟨P,O,e,r⟩:=h;exact⟨P,O,e,r.ext k⟩) (λd6 ac _ VW=>?_) ?_;have dC:∃P O,d6 29=Value.tuple #[Value.slice P 2 O,.int .i64 0]/\Rw ac 0 P (ints [0,1]):=(VW 3 29 Z Z)
 (with_reducible obtain⟨ch,bp,W2,eS⟩:=dC);have fN:=ab6 eS;refine aa (cN (v:=.slice ch 2 bp) (by exact W2) Z ?_);refine I ?_;exact fs ⟨aa4 _,⟨_,_,rfl,((fN).rw).mono (Nat.zero_le _)⟩⟩;refine aA (λcp eP _ d3=>by have f9:∃P O,cp 29=Value.tuple #[Value.slice P 2 O,.int .i64 0]/\Rw eP 0 P (ints [0,1]):=(d3 3 29 Z Z);(with_reducible obtain⟨_,_,ask,eg⟩:=f9);have g3:=ab6 eg;refine aa (cN (v:=.int .i64 0) (by exact ask) Z ?_);refine I ?_;exact aH) ?_;refine bR (fun(v:Value) (W:World)=>∃P O,v=Value.slice P 2 O/\Rw W 0 P (ints [0,1])) (hs:=λ_ _ _ k h=>by obtain⟨P,O,e,r⟩:=h;exact⟨P,O,e,r.ext k⟩) (λW3 cw _ Ne=>?_) ?_;have fR:∃P O,W3 33=Value.slice P 2 O/\Rw cw 0 P (ints [0,1]):=(Ne 4 33 Z Z);(with_reducible obtain⟨_,_,_,fx⟩:=fR);have fz:=ab6 fx;refine I ?_;exact fs ⟨aa4 _,⟨_,_,rfl,((fz).rw).mono (Nat.zero_le _)⟩⟩;refine sf ?_;intro bW cy E7 cb;have A0:=ab7 E7.2 A0;have A1:=be E7.2 A1;have Ab:=aa5 E7.2 Ab;have A2:=aa1 E7.2 A2;have⟨Af,E⟩:=bn E7.2 Af E;have fD:∃P O,bW 6=Value.slice P 2 O/\Rw cy 0 P (ints [0,1]):=(cb 6 6 Z Z);(with_reducible obtain⟨_,_,_,eB⟩:=fD);have Am:=ab6 eB;refine I ?_
 (try refine aa (aP (cs:=[.slice Cr 3 nm,.slice Az 3 B2,.slice C1 3 E4]) (b:=CG.heap.size) (o:=0) da Z bj Z (aa0 A1 (i:=0) Z) ?_));refine Q6 (λ_ Ax _ f0=>?_);have A0:=ab7 Ax A0;have A1:=be Ax A1;have Ab:=aa5 Ax Ab;have A2:=aa1 Ax A2;have Af:=be Ax Af;have Am:=aa5 Ax Am;have E:=xt E Ax;refine cl BP (Mf (A0).des (aa8 f0) (ht.ext E)) ?_;rintro _ L2 B1 ⟨h8,rfl,Lk,H4,La,Kp,KY,KM,rfl,e3⟩;have A0:=ab7 B1.2 A0;have A1:=be B1.2 A1;have Ab:=aa5 B1.2 Ab;have A2:=aa1 B1.2 A2;have Af:=be B1.2 Af;have Am:=aa5 B1.2 Am;have E:=xt E B1.2;have E1:=mM.of e3;refine I ?_;refine al ee (λ_ Aw W1=>?_);have A0:=ab7 Aw.2 A0;have A1:=be Aw.2 A1;have Ab:=aa5 Aw.2 Ab;have A2:=aa1 Aw.2 A2;have Af:=be Aw.2 Af;have Am:=aa5 Aw.2 Am;have E1:=ab7 Aw.2 E1;have E:=xt E Aw.2;refine aa (bF (b:=L2.heap.size) (o:=0) (vs:=[.slice Lk 2 H4,.slice La 2 Kp,.slice KY 2 KM]) bj Z Z KK W1 (qa3 Z) (λ_ Av Ap=>?_));have A0:=ad8 Av U A0;have A1:=pb Av A1;have Ab:=ab9 Av U Ab;have A2:=ac1 Av U A2;have Af:=pb Av Af;have Am:=ab9 Av U Am;have E1:=ad8 Av U E1;have E:=bi Av E;have gn:=iM Av
 refine I ?_;refine bL 8 ?_;refine aA (λ_ _ f3 _=>by have Ap:=be f3 Ap;(try refine aa (aP (cs:=[.slice Lk 2 H4,.slice La 2 Kp,.slice KY 2 KM]) (b:=L2.heap.size) (o:=0) da Z bj Z (aa0 Ap (i:=0) Z) ?_));refine I ?_;exact aH) ?_;refine aR (V:=.agg #[S ((br 1 20).1),S ((br 1 20).2)]) (λ_ _ _ _=>?_) ?_;refine clb eF (hc:=cZ 1 20 U U) (hk:=?_);rintro _ _ ft rfl;refine I ?_;exact fs ⟨ft.2,rfl⟩;refine aR (V:=.tuple #[.int .i64 1,.int .i64 0]) (λ_ _ KC _=>?_) ?_;have E1:=ab7 KC E1;refine cl xq (hC2 _ _ _ _ _ _ _ (E1).des (ht.ext (xt E KC))) ?_;rintro _ _ eq rfl;refine I ?_;exact fs ⟨eq.2,rfl⟩;refine sf ?_;intro _ _ E0 _;have A0:=ab7 E0.2 A0;have A1:=be E0.2 A1;have Ab:=aa5 E0.2 Ab;have A2:=aa1 E0.2 A2;have Af:=be E0.2 Af;have Am:=aa5 E0.2 Am;have⟨Ap,E⟩:=bn E0.2 Ap E;refine I ?_;refine bL 9 ?_;refine aA (λ_ _ P0 _=>by have A1:=be P0 A1;(try refine aa (aP (cs:=[.slice Cr 3 nm,.slice Az 3 B2,.slice C1 3 E4]) (b:=CG.heap.size) (o:=0) da Z bj Z (aa0 A1 (i:=0) Z) ?_));refine I ?_;exact aH) ?_;refine aR (V:=.agg #[S ((br 12 1).1),S ((br 12 1).2)]) (λ_ _ _ _=>?_) ?_;refine clb eF (hc:=cZ 12 1 U U) (hk:=?_);rintro _ _ fQ rfl;refine I ?_;exact fs ⟨fQ.2,rfl⟩
 refine bR (fun(v:Value) (W:World)=>∃P O,v=Value.slice P 1 O/\Rw W 0 P (ag [br 12 1])) (hs:=λ_ _ _ k h=>by obtain⟨P,O,e,r⟩:=h;exact⟨P,O,e,r.ext k⟩) (λ_ N0 _ _=>?_) ?_;refine BS (λL4 fX _ S9=>?_);have Rm:m6 L4 N0.heap.size L4.heap.size (some ⟨N0.heap.size,0,none⟩) (ag [br 12 1]):=ab6 (aa8 S9);refine I ?_;exact fs ⟨fX,⟨_,_,rfl,((Rm).rw).mono (Nat.zero_le _)⟩⟩;refine bR (fun(v:Value) (W:World)=>∃P O,v=Value.tuple #[Value.slice P 3 O,.int .i64 0]/\Rw W 0 P (ag [br (-2) 1,br (-1) 1,br 3 1])) (hs:=λ_ _ _ k h=>by obtain⟨P,O,e,r⟩:=h;exact⟨P,O,e,r.ext k⟩) (λa5 ad K3 fa=>?_) ?_;have A0:=ab7 K3 A0;have dL:∃P O,a5 50=Value.slice P 1 O/\Rw ad 0 P (ag [br 12 1]):=(fa 2 50 Z Z);(with_reducible obtain⟨_,_,eZ,cc⟩:=dL);have c9:=ab6 cc;refine cl BQ (Mg (A0).des (c9).rw (ht.ext (xt E K3))) ?_ (av Z (av (by exact eZ) Z));rintro _ _ T3 ⟨h7,rfl,g4,h5,rfl,h6,bq⟩;have fP:=ab6 bq;refine I ?_;exact fs ⟨T3.2,⟨_,_,rfl,((fP).rw).mono (Nat.zero_le _)⟩⟩;refine bR (fun(v:Value) (W:World)=>∃P O,v=Value.tuple #[Value.slice P 3 O,.int .i64 0]/\Rw W 0 P (ag [br (-2) 1,br (-1) 1,br 3 1])) (hs:=λ_ _ _ k h=>by obtain⟨P,O,e,r⟩:=h;exact⟨P,O,e,r.ext k⟩) (λcq eQ _ bb=>?_) ?_
 have eD:∃P O,cq 51=Value.tuple #[Value.slice P 3 O,.int .i64 0]/\Rw eQ 0 P (ag [br (-2) 1,br (-1) 1,br 3 1]):=(bb 3 51 Z Z);(with_reducible obtain⟨_,_,_,fC⟩:=eD);have g1:=ab6 fC;refine I ?_;exact fs ⟨aa4 _,⟨_,_,rfl,((g1).rw).mono (Nat.zero_le _)⟩⟩;refine bR (fun(v:Value) (W:World)=>∃P O,v=Value.slice P 3 O/\Rw W 0 P (ag [br (-2) 1,br (-1) 1,br 3 1])) (hs:=λ_ _ _ k h=>by obtain⟨P,O,e,r⟩:=h;exact⟨P,O,e,r.ext k⟩) (λX2 cT _ Wa=>?_) ?_;have a8:∃P O,X2 47=Value.tuple #[Value.slice P 3 O,.int .i64 0]/\Rw cT 0 P (ag [br (-2) 1,br (-1) 1,br 3 1]):=(Wa 4 47 Z Z);(with_reducible obtain⟨d4,fT,a9,dd⟩:=a8);have eG:=ab6 dd;refine aa (cN (v:=.slice d4 3 fT) (by exact a9) Z ?_);refine I ?_;exact fs ⟨aa4 _,⟨_,_,rfl,((eG).rw).mono (Nat.zero_le _)⟩⟩;refine aA (λfG a0 _ fb=>by have co:∃P O,fG 47=Value.tuple #[Value.slice P 3 O,.int .i64 0]/\Rw a0 0 P (ag [br (-2) 1,br (-1) 1,br 3 1]):=(fb 4 47 Z Z);(with_reducible obtain⟨_,_,ea,at2⟩:=co);have h0:=ab6 at2;refine aa (cN (v:=.int .i64 0) (by exact ea) Z ?_);refine I ?_;exact aH) ?_
 refine bR (fun(v:Value) (W:World)=>∃P O,v=Value.slice P 3 O/\Rw W 0 P (ag [br (-2) 1,br (-1) 1,br 3 1])) (hs:=λ_ _ _ k h=>by obtain⟨P,O,e,r⟩:=h;exact⟨P,O,e,r.ext k⟩) (λat3 at4 _ fy=>?_) ?_;have b0:∃P O,at3 52=Value.slice P 3 O/\Rw at4 0 P (ag [br (-2) 1,br (-1) 1,br 3 1]):=(fy 5 52 Z Z);(with_reducible obtain⟨_,_,_,et⟩:=b0);have eb:=ab6 et;refine I ?_;exact fs ⟨aa4 _,⟨_,_,rfl,((eb).rw).mono (Nat.zero_le _)⟩⟩;refine sf ?_;intro ed a3 Ay er;have A0:=ab7 Ay.2 A0;have A1:=be Ay.2 A1;have Ab:=aa5 Ay.2 Ab;have A2:=aa1 Ay.2 A2;have Af:=be Ay.2 Af;have Am:=aa5 Ay.2 Am;have⟨Ap,E⟩:=bn Ay.2 Ap E;have f7:∃P O,ed 12=Value.slice P 3 O/\Rw a3 0 P (ag [br (-2) 1,br (-1) 1,br 3 1]):=(er 7 12 Z Z);(with_reducible obtain⟨_,_,_,WV⟩:=f7);have Ao:=ab6 WV;refine I ?_;refine cl tl (Lv (Er.ext E hE) (ht.ext E)) ?_;rintro _ cz As rfl;have A0:=ab7 As.2 A0;have A1:=be As.2 A1;have Ab:=aa5 As.2 Ab;have A2:=aa1 As.2 A2;have Af:=be As.2 Af;have Am:=aa5 As.2 Am;have Ap:=be As.2 Ap;have Ao:=aa5 As.2 Ao;have E:=xt E As.2;refine I ?_;refine al dN (λ_ Ar Q0=>?_);have A0:=ab7 Ar.2 A0;have A1:=be Ar.2 A1;have Ab:=aa5 Ar.2 Ab;have A2:=aa1 Ar.2 A2;have Af:=be Ar.2 Af;have Am:=aa5 Ar.2 Am
 have Ap:=be Ar.2 Ap;have Ao:=aa5 Ar.2 Ao;have E:=xt E Ar.2;refine aa (bF (b:=cz.heap.size) (o:=0) (vs:=[.slice none 0 0,.slice none 0 0,S [],S [],.int .i64 0]) dG Z Z KK Q0 (qa3 Z) (λ_ Aq _=>?_));have A0:=ad8 Aq U A0;have A1:=pb Aq A1;have Ab:=ab9 Aq U Ab;have A2:=ac1 Aq U A2;have Af:=pb Aq Af;have Am:=ab9 Aq U Am;have Ap:=pb Aq Ap;have Ao:=ab9 Aq U Ao;have E:=bi Aq E;have e6:=ab1 (A2).mt (i:=0) U;refine I ?_;refine gN e6 ?_ (i:=0);refine I ?_;refine bL 31 ?_;refine sf ?_;refine aA (λ_ _ cr _=>by have Ab:=aa5 cr Ab;have X0:=bD (Ab).rw (k:=0) (show 0<1 by decide);refine I ?_;refine mu X0 ?_ (i:=0) (hlt:=(show 0<1 by decide));refine I ?_;exact aH) ?_;refine aA (λ_ _ T2 _=>by have Ab:=aa5 T2 Ab;have gW:=bD (Ab).rw (k:=0) (show 0<1 by decide);refine I ?_;exact aH) ?_;refine aR (V:=.agg #[S ((br 12 1).1),S ((br 12 1).2)]) (λ_ _ _ _=>?_) ?_;refine clb eF (hc:=cZ 12 1 U U) (hk:=?_);rintro _ _ bd rfl;refine I ?_;exact fs ⟨bd.2,rfl⟩;refine aA (λ_ _ _ _=>by refine aa (CO (a:=ar [br 12 1] 0) (b:=br 12 1) (q:=decide ((ar [br 12 1] 0)=(br 12 1))) Z Z Z ?_);refine I ?_;exact aH) ?_;refine sf ?_
 refine aA (λ_ _ cf _=>by have A2:=aa1 cf A2;have fc:=ab1 (A2).mt (i:=0) U;refine I ?_;refine gN fc ?_ (i:=0);refine I ?_;exact aH) ?_;refine aA (λ_ _ P1 _=>by have A2:=aa1 P1 A2;have gb:=ab1 (A2).mt (i:=0) U;refine I ?_;exact aH) ?_;refine aA (λ_ _ a4 _=>by have A2:=aa1 a4 A2;have bZ:=ad3 (A2).mt (i:=0) (k:=0) U (show 0<(xc 3 1 kY p9 0).length by rw[ZN.1];decide);refine I ?_;refine mu bZ ?_ (i:=0) (hlt:=(show 0<(xc 3 1 kY p9 0).length by rw[ZN.1];decide));refine I ?_;exact aH) ?_;refine aA (λ_ _ bv _=>by have A2:=aa1 bv A2;have h9:=ad3 (A2).mt (i:=0) (k:=0) U (show 0<(xc 3 1 kY p9 0).length by rw[ZN.1];decide);refine I ?_;exact aH) ?_;refine aR (V:=.agg #[S ((br 1 3).1),S ((br 1 3).2)]) (λ_ _ _ _=>?_) ?_;refine I ?_;refine clb eF (hc:=cZ 1 3 U U) (hk:=?_);rintro _ _ S0 rfl;refine I ?_;exact fs ⟨S0.2,rfl⟩;refine aA (λ_ _ _ _=>by refine I ?_;refine aa (CO (a:=ar ((xc 3 1 kY p9) 0) 0) (b:=br 1 3) (q:=decide ((ar ((xc 3 1 kY p9) 0) 0)=(br 1 3))) Z Z Z ?_);refine I ?_;exact aH) ?_;refine sf ?_;refine aR (V:=.agg #[S ((br 14 1).1),S ((br 14 1).2)]) (λ_ _ _ _=>?_) ?_;refine I ?_;refine clb eF (hc:=cZ 14 1 U U) (hk:=?_);rintro _ _ e1 rfl;refine I ?_
 exact fs ⟨e1.2,rfl⟩;refine aA (λ_ _ _ _=>by refine I ?_;refine aa (CO (a:=qR 14 1) (b:=br 14 1) (q:=decide ((qR 14 1)=(br 14 1))) Z Z Z ?_);refine I ?_;exact aH) ?_;refine sf ?_;intro _ _ ES _;have A0:=ab7 ES.2 A0;have A1:=be ES.2 A1;have Am:=aa5 ES.2 Am;have Ao:=aa5 ES.2 Ao;have E:=xt E ES.2;have g0:=pI (Am).rw (i:=0) (show 0<2 by decide);refine I ?_;refine gN g0 ?_ (i:=0) (hlt:=(show 0<2 by decide));have cv:=pI (Am).rw (i:=1) (show 1<2 by decide);refine I ?_;refine gN cv ?_ (i:=1) (hlt:=(show 1<2 by decide));refine I ?_;refine clb eF (hc:=cZ (-2) 1 U U) (hk:=?_);rintro _ _ G0 rfl;have A0:=ab7 G0.2 A0;have A1:=be G0.2 A1;have Ao:=aa5 G0.2 Ao;have E:=xt E G0.2;refine I ?_;refine clb eF (hc:=cZ (-1) 1 U U) (hk:=?_);rintro _ _ GC rfl;have A0:=ab7 GC.2 A0;have A1:=be GC.2 A1;have Ao:=aa5 GC.2 Ao;have E:=xt E GC.2;refine I ?_;refine clb eF (hc:=cZ 3 1 U U) (hk:=?_);rintro _ H3 FR rfl;have A0:=ab7 FR.2 A0;have A1:=be FR.2 A1;have Ao:=aa5 FR.2 Ao;have E:=xt E FR.2;refine I ?_
 refine aa (cH (vs:=[(0,.agg #[S ((br (-2) 1).1),S ((br (-2) 1).2)]),(1,.agg #[S ((br (-1) 1).1),S ((br (-1) 1).2)]),(2,.agg #[S ((br 3 1).1),S ((br 3 1).2)])]) (cells:=#[S ((br (-2) 1).1),S ((br (-2) 1).2),S ((br (-1) 1).1),S ((br (-1) 1).2),S ((br 3 1).1),S ((br 3 1).2)]) tc aS Z dc dc q0 Z dc (λIx EW _ fW=>?_));have A0:=ab7 EW A0;have A1:=be EW A1;have Ao:=aa5 EW Ao;have E:=xt E EW;have a2:m6 Ix H3.heap.size Ix.heap.size (some ⟨H3.heap.size,0,none⟩) (ag [br (-2) 1,br (-1) 1,br 3 1]):=ab6 (aa8 fW);refine I ?_;refine clb YK (hc:=G9 (xs:=[br (-2) 1,br (-1) 1,br 3 1]) (Ao).rw (a2).rw dc) (hk:=?_);rintro _ _ Lj rfl;have A0:=ab7 Lj.2 A0;have⟨A1,E⟩:=bn Lj.2 A1 E;refine I ?_;(try refine aa (aP (cs:=[.slice Cr 3 nm,.slice Az 3 B2,.slice C1 3 E4]) (b:=CG.heap.size) (o:=0) da Z bj Z (aa0 A1 (i:=0) Z) ?_));refine I ?_;refine cl lc (Mh (A0).des (ht.ext E)) ?_;rintro _ _ wr rfl;have E:=xt E wr.2;refine I ?_;refine cl lc (uX (ht.ext E)) ?_;rintro _ _ d5 rfl;have E:=xt E d5.2;refine I ?_;exact am (t:=0) (v:=.bool true) Z E Z Z
end
section
def Dr (m:Nat)(L:Rows)(zs:List R):Rows:=oR (c6 m L zs.length (bA zs))
def qT (m:Nat)(L:Rows)(ys zs:List R):List R:=(List.range m).map (rU (Dr m L zs) ys)
structure PT (m:Nat)(L:Rows)(ys zs:List R):Prop where
 zv:vM zs.length (bA zs)=true
 eP:c6 m L zs.length (bA zs)=some (Dr m L zs)
 pl:∀i,i<m->0<(Dr m L zs i).length
 sub:∀i,i<m->(dn (ar ys i) (ar (Dr m L zs i) 0)).isSome=true
def kV {m:Nat}{L:Rows}{ys zs:List R}:(qT m L ys zs).length=m:=by simp[qT]
def Vu (V:Rows)(rs:List R):Rows:=oR (c6 1 (λj=>kX (bA rs) rs.length j) rs.length (Ht rs.length V))
def vE (V:Rows)(rs:List R):Rows:=oR (c6 1 (Vu V rs) rs.length (bA rs))
structure YC (V:Rows)(rs:List R):Prop where
 rv:vM rs.length (bA rs)=true
 vv:vM rs.length V=true
 eW:ep rs.length V=some (Ht rs.length V)
 eQ:c6 1 (λj=>kX (bA rs) rs.length j) rs.length (Ht rs.length V)=some (Vu V rs)
 eS:c6 1 (Vu V rs) rs.length (bA rs)=some (vE V rs)
 sl:(vE V rs 0).length=1
section
variable {Y B:Option Addr}{CY CB m:Nat}{L V:Rows}{ys:List R}
def PU (hD:ey w A C Y CY B CB L V ys)(ok:eT L V ys)(hm:ys.length=m){zs:List R}(hz:Rw w lo4 X (ag zs))(h:PT m L ys zs)(ht:Tb w):
 CL 24 #[.agg #[.slice A m C,.slice Y m CY,.slice B m CB],.slice X zs.length CX] w (aG w λv w'=>∃u,v=.tuple #[u,.int .i64 0]/\yx w.heap.size w' u (qT m L ys zs)):=by
 subst hm
 exact Fu hD ok (CX:=CX) hz (P:=Dr ys.length L zs) (rs:=qT ys.length L ys zs) h.zv h.eP h.pl kV (λi hi=>by rw[qT,gC hi];exact A9 (h.sub i hi)) ht
def PV (hD:ey w A C Y CY B CB L V ys)(ok:eT L V ys)(hm:ys.length=m)(hk:(L 0).length=k)(h:Do m k L V ys=true)(ht:Tb w):
 CL 14 #[.agg #[.slice A m C,.slice Y m CY,.slice B m CB]] w (aG w λv w'=>∃u,v=.tuple #[u,.int .i64 0]/\ow w.heap.size w' u k (sY m k L V ys) (xc m k L V) (ar (HR m k L V ys 0) 0) (((m:Nat):Int)-(k:Int))):=by
 subst hm
 exact yz hD ok hk (Dp h) ht
def PW (hD:ey w A C Y CY B CB L V ys)(ok:eT L V ys)(hm:ys.length=m){a:Addr}(hk:(L 0).length=k)(hE:Er w a)(eW:ep m V=some (Ht m V))(eB:c6 k (λj=>kX L m j) m (Ht m V)=some (vU m k L V))(eG:c6 k (vU m k L V) m L=some (HQ m k L V))(eC:ep k (HQ m k L V)=none)(ht:Tb w):
 CL 14 #[.agg #[.slice A m C,.slice Y m CY,.slice B m CB]] w (aG w λv w'=>v=.tuple #[.agg #[.slice none 0 0,.slice none 0 0,S [],S [],.int .i64 0],.int .i64 140]):=by
 subst hm
 exact Lu hD ok hk hE eW eB eG eC ht
end
end
end Go.Proofs.YtlmihmlnpjkblaaGreatDoor
namespace La
variable {i n cols j:Nat}{p:Nat->Nat}{f:Rat}
inductive RO (n m:Nat) (A:Mx):Mx->Rat->Prop
 |refl:RO n m A A 1
 |eq {B B':Mx} {f:Rat}:RO n m A B f->jV n m B B'->RO n m A B' f
 |swap {B:Mx} {f:Rat} {p r:Nat}:RO n m A B f->p<n->r<n->p≠r->RO n m A (λi j=>B (sx p r i) j) (- f)
 |scale {B:Mx} {f c:Rat} {r:Nat}:RO n m A B f->r<n->c≠0->RO n m A (ur B r (λj=>B r j/c)) (f*c)
 |add {B:Mx} {f c:Rat} {i r:Nat}:RO n m A B f->i<n->r<n->i≠r->RO n m A (ur B i (λj=>B i j+c*B r j)) f
def Mi {p r:Nat}(hp:p<n)(hr:r<n)(hi:i<n):sx p r i<n:=by unfold sx;split <;>(try split) <;>omega
def Ya (p r i:Nat):sx p r (sx p r i)=i:=by unfold sx;grind
def RO.ne {m:Nat}{A B:Mx}(h:RO n m A B f):f≠0:=by
 induction h with
 |refl=>simp
 |eq _ _ ih=>exact ih
 |swap _ _ _ _ ih=>grind
 |scale _ _ hc ih=>intro e;rcases Rat.mul_eq_zero.1 e with e|e <;>contradiction
 |add _ _ _ _ ih=>exact ih
def RO.ker {m:Nat}{A B:Mx}(h:RO n m A B f)(x:Nat->Rat):(∀i,i<n->sm m (λj=>A i j*x j)=0)↔(∀i,i<n->sm m (λj=>B i j*x j)=0):=by
 induction h with
 |refl=>exact Iff.rfl
 | eq _ he ih=>
   rw[ih]
   exact⟨λh i hi=>by rw[<-h i hi];exact au λj E=>by rw[he i hi j E],λh i hi=>by rw[<-h i hi];exact au λj E=>by rw[he i hi j E]⟩
 | swap _ hp hr _ ih=>
   rw[ih]
   exact⟨λh i hi=>h _ (Mi hp hr hi),λh i hi=>by have:=h _ (Mi hp hr hi);simp only[Ya]at this;exact this⟩
 | @scale B f c r _ hr hc ih=>
   rw[ih]
   have key:sm m (λj=>ur B r (λj=>B r j/c) r j*x j)=(1/c)*sm m (λj=>B r j*x j):=by
    rw[<-dm];exact au λj _=>by unfold ur;rw[if_pos Z];grind
   refine⟨λh i hi=>?_,λh i hi=>?_⟩
   · by_cases e:i=r
     · subst e;rw[key,h i hi];grind
     · rw[<-h i hi];exact au λj _=>by unfold ur;rw[if_neg e]
   · by_cases e:i=r
     · subst e;have:=h i hi;rw[key]at this;grind
     · rw[<-h i hi];exact au λj _=>by unfold ur;rw[if_neg e]
 | @add B f c i r _ hi hr hne ih=>
   rw[ih]
   have key:sm m (λj=>ur B i (λj=>B i j+c*B r j) i j*x j)=sm m (λj=>B i j*x j)+c*sm m (λj=>B r j*x j):=by
    rw[<-dm,<-lH];exact au λj _=>by unfold ur;rw[if_pos Z];grind
   have O:∀k,k≠i->sm m (λj=>ur B i (λj=>B i j+c*B r j) k j*x j)=sm m (λj=>B k j*x j):=λk hk=>au λj _=>by unfold ur;rw[if_neg hk]
   refine⟨λh k hk=>?_,λh k hk=>?_⟩
   · by_cases e:k=i
     · subst e;rw[key,h k hk,h r hr];grind
     · rw[O k e];exact h k hk
   · by_cases e:k=i
     · subst e
       have h1:=h k hk
       have h2:=h r hr
       rw[key]at h1;rw[O r (λe=>hne e.symm)]at h2;rw[h2]at h1;grind
     · rw[<-O k e];exact h k hk
def Bb (k:Nat)(B X:Mx)(p r:Nat):mul k (λi j=>B (sx p r i) j) X=λi j=>mul k B X (sx p r i) j:=rfl
def Mj (k:Nat)(B X:Mx)(r:Nat)(u:Nat->Rat):mul k (ur B r u) X=ur (mul k B X) r (λj=>sm k (λl=>u l*X l j)):=by
 funext i j;unfold mul ur
 by_cases e:i=r
 · simp only[if_pos e]
 · simp only[if_neg e]
def xd (k:Nat)(B X:Mx)(r:Nat)(c:Rat):mul k (ur B r (λj=>B r j/c)) X=ur (mul k B X) r (λj=>mul k B X r j/c):=by
 rw[Mj];congr 1;funext j
 unfold mul
 rw[show sm k (λl=>B r l*X l j)/c=(1/c)*sm k (λl=>B r l*X l j)by grind,<-dm]
 exact au λl _=>by grind
def mul_add (k:Nat)(B X:Mx)(i r:Nat)(c:Rat):mul k (ur B i (λj=>B i j+c*B r j)) X=ur (mul k B X) i (λj=>mul k B X i j+c*mul k B X r j):=by
 rw[Mj];congr 1;funext j
 unfold mul
 rw[<-dm,<-lH]
 exact au λl _=>by grind
def RO.mat {m:Nat}{A B:Mx}(h:RO n m A B f):∃E:Mx,jV n m B (mul n E A):=by
 induction h with
 |refl=>exact⟨one,λi hi j _=>(one_mul hi).symm⟩
 |eq _ he ih=>obtain⟨E,h⟩:=ih;exact⟨E,λi hi j O=>by rw[<-he i hi j O,h i hi j O]⟩
 | @swap B f p r _ hp hr _ ih=>obtain⟨E,h⟩:=ih;exact⟨λi j=>E (sx p r i) j,λi hi j O=>by rw[Bb];exact h _ (Mi hp hr hi) j O⟩
 | @scale B f c r _ hr hc ih=>
   obtain⟨E,h⟩:=ih
   refine⟨ur E r (λj=>E r j/c),λi hi j O=>?_⟩
   rw[xd];unfold ur
   split
   · show B r j/c=mul n E A r j/c
     rw[h r hr j O]
   · exact h i hi j O
 | @add B f c i r _ hi hr hne ih=>
   obtain⟨E,h⟩:=ih
   refine⟨ur E i (λj=>E i j+c*E r j),λk hk j O=>?_⟩
   rw[mul_add];unfold ur
   split
   · show B i j+c*B r j=mul n E A i j+c*mul n E A r j
     rw[h i hi j O,h r hr j O]
   · exact h k hk j O
def RO.det {m:Nat}{A B:Mx}(h:RO n m A B f)(hn:n<=m)(X:Mx):det n (mul n A X)=f*La.det n (mul n B X):=by
 induction h with
 |refl=>grind
 |eq _ he ih=>rw[ih];congr 1;exact e8 λi hi j _=>eu (λl _=>he i hi l J) (λ_ _=>rfl)
 |swap _ hp hr hne ih=>rw[ih,Bb,AJ hp hr hne];grind
 | @scale B f c r _ hr hc ih=>
   rw[ih,xd,show(λj=>mul n B X r j/c)=λj=>(1/c)*mul n B X r j by funext j;grind,wR _ _ hr,sP];grind
 |add _ hi hr hne ih=>rw[ih,mul_add,Dh _ hi hr hne]
structure RF (n cols r:Nat)(p:Nat->Nat)(B:Mx):Prop where
 rn:r<=n
 inc:∀a b,a<b->b<r->p a<p b
 lt:∀a,a<r->p a<cols
 unit:∀i,i<n->∀l,l<r->B i (p l)=if i=l then 1 else 0
 zero:∀i,r<=i->i<n->∀j,j<cols->B i j=0
def PX {m r:Nat}(hp:∀l,l<r->p l<m)(a c:Nat->Rat):
 sm m (λt=>a t*sm r (λl=>if t=p l then c l else 0))=sm r (λl=>a (p l)*c l):=by
 rw[au (g:=λt=>sm r (λl=>a t*(if t=p l then c l else 0))) (λt _=>by rw[dm]),iO]
 refine au λl hl=>?_
 rw[iF (hp l hl) (λt _ ht=>by rw[if_neg ht];grind),if_pos Z]
def RF.comb {m r:Nat}{A B:Mx}(hr:RO n m A B f)(h:RF n cols r p B)(hc:cols<=m)(hi:i<n)(hj:j<m)(hz:∀k,r<=k->k<n->B k j=0):
 A i j=sm r (λl=>A i (p l)*B l j):=by
 let x:Nat->Rat:=λt=>(if t=j then 1 else 0)-sm r (λl=>if t=p l then B l j else 0)
 have hx:∀D:Mx,∀i,sm m (λt=>D i t*x t)=D i j-sm r (λl=>D i (p l)*B l j):=by
  intro D i
  rw[<-PX (m:=m) (λl hl=>Nat.lt_of_lt_of_le (h.lt l hl) hc) (D i) (λl=>B l j)]
  rw[au (g:=λt=>D i t*(if t=j then 1 else 0)-D i t*sm r (λl=>if t=p l then B l j else 0)) (λt _=>by show D i t*(_-_)=_;grind),ot]
  rw[iF (k:=j) hj (λt _ ht=>by rw[if_neg ht];grind),if_pos Z];grind
 have h1:=(hr.ker x).2 (λk hk=>by
  rw[hx B k]
  by_cases e:k<r
  · rw[iF e (λl hl E=>by rw[h.unit k hk l hl,if_neg (λe=>E e.symm)];grind),h.unit k hk k e,if_pos Z];grind
  · rw[hz k J hk,dO (λl hl=>by rw[h.unit k hk l hl,if_neg J];grind)];grind) i hi
 rw[hx A i]at h1
 grind
def RF.rank {m r:Nat}{A B:Mx}(hr:RO n m A B f)(h:RF n cols r p B)(hc:cols<=m):Rk n cols r A:=by
 obtain⟨E,hE⟩:=hr.mat
 refine⟨λi l=>A i (p l),B,E,λj l=>if j=p l then 1 else 0,⟨λi hi j O=>?_,λi hi j O=>?_,λi hi j O=>?_⟩⟩
 · exact h.comb hr hc hi J (λk h1 h2=>h.zero k h1 h2 j O)
 · have:=hE i kb5 (p j) (qb1 (h.lt j O) hc)
   rw[h.unit i kb5 j O]at this
   exact this.symm
 · show sm cols (λt=>B i t*(if t=p j then 1 else 0))=_
   rw[iF (h.lt j O) (λt _ ht=>by rw[if_neg ht];grind),if_pos Z,h.unit i kb5 j O]
   unfold one;grind
def RF.full {B:Mx}(h:RF n n n p B):jV n n B one:=by
 have h1:∀l,l<n->l<=p l:=by
  intro l
  induction l with
  |zero=>intro _;omega
  |succ l ih=>intro hl;have:=ih J;have:=h.inc l (l+1) J hl;omega
 have h2:∀d l,l+d+1=n->p l<=l:=by
  intro d
  induction d with
  |zero=>intro l hl;have:=h.lt l J;omega
  |succ d ih=>intro l hl;have:=ih (l+1) J;have:=h.inc l (l+1) J J;omega
 intro i hi j E
 have:=h.unit i hi j E
 rw[show p j=j from Nat.le_antisymm (h2 (n-j-1) j J) (h1 j E)]at this
 exact this
def RF.det_full {m:Nat}{A B:Mx}(hr:RO n m A B f)(h:RF n n n p B)(hn:n<=m)(X:Mx):det n (mul n A X)=f*det n X:=by
 rw[hr.det hn];congr 1;exact e8 λi hi j _=>by rw[eu (A':=one) (B':=X) (λl hl=>h.full i hi l hl) (λ_ _=>rfl),one_mul hi]
def RF.det_less {m r:Nat}{A B:Mx}(hr:RO n m A B f)(h:RF n n r p B)(hn:n<=m)(hlt:r<n)(X:Mx):det n (mul n A X)=0:=by
 rw[hr.det hn,AI (k:=n-1) J (λj _=>dO λl hl=>by rw[h.zero (n-1) J J l hl];grind)];grind
def kg (n:Nat)(A:Mx):det n (mul n A one)=det n A:=e8 λ_ _ _ E=>mul_one E
def RF.det_mul {m r:Nat}{A B:Mx}(hr:RO n m A B f)(h:RF n n r p B)(hn:n<=m)(X:Mx):det n (mul n A X)=det n A*det n X:=by
 by_cases e:r=n
 · subst e
   rw[h.det_full hr hn,<-kg r A,h.det_full hr hn,yv];grind
 · have:=h.rn
   rw[h.det_less hr hn J,<-kg n A,h.det_less hr hn J];grind
def RF.det_iff {m r:Nat}{A B:Mx}(hr:RO n m A B f)(h:RF n n r p B)(hn:n<=m):(r=n->det n A=f)/\(r<n->det n A=0):=
 ⟨λe=>by subst e;rw[<-kg,h.det_full hr hn,yv];grind,λe=>by rw[<-kg,h.det_less hr hn e]⟩
end La
namespace Go.Proofs.YtlmihmlnpjkblaaGreatDoor
open Go Go.Eng Go.RowKit La Proofs.Tryz
def Q (L:Rows):Mx:=λi j=>qv (ar (L i) j)
def RO.clear {n m:Nat}{A B:Mx}{f:Rat}{r c:Nat}(h:RO n m A B f)(hr:r<n):∀k,k<=n->RO n m A (λi j=>if i=r then B i j else if i<k then B i j-B i c*B r j else B i j) f
 |0,_=>h.eq λi _ j _=>by simp
 | k + 1,hk=>by
   have ih:=RO.clear (c:=c) h hr k J
   by_cases e:k=r
   · refine ih.eq λi _ j _=>?_
     by_cases h1:i=r
     · simp[h1]
     · simp only[if_neg h1,show(i<k+1)=(i<k)from propext ⟨λ_=>by omega,λ_=>by omega⟩]
   · refine(ih.add (c:= -B k c) (i:=k) (r:=r) J hr e).eq λi _ j _=>?_
     unfold ur
     by_cases h1:i=k
     · subst h1
       simp only[if_neg e,Nat.lt_irrefl,if_false,show i<i+1 from Nat.lt_succ_self i,if_true];grind
     · rw[if_neg h1]
       by_cases h2:i=r
       · simp[h2]
       · simp only[if_neg h2,show(i<k+1)=(i<k)from propext ⟨λ_=>by omega,λ_=>by omega⟩]
section steps
variable {n m r i c:Nat}
def FI (hr:r<n)(pv:R)(y:Rat):∀(f k:Nat) (L:Rows),k+f=m->qt n m L->(∀j,k<=j->j<m->∃q,mB (ar (L r) j) pv=some q/\bJ q=true/\qv q=qv (ar (L r) j)/y)->
 ∃L2,mD r pv f k L=some L2/\qt n m L2/\(∀i,i≠r->L2 i=L i)/\(∀j,j<k->ar (L2 r) j=ar (L r) j)/\∀j,k<=j->j<m->qv (ar (L2 r) j)=qv (ar (L r) j)/y
 |0,k,L,_,hok,_=>⟨L,rfl,hok,λ_ _=>rfl,λ_ _=>rfl,λj h1 h2=>by omega⟩
 | f +1,k,L,hk,hok,h=>by
   obtain⟨q,h1,h2,h3⟩:=h k (qa0 _) J
   have hl:k<(L r).length:=by rw[(hok r hr).1];omega
   have E:∀j,ar ((L r).set k q) j=if j=k then q else ar (L r) j:=λj=>sF hl
   obtain⟨L2,e,A0,o1,O,W⟩:=FI hr pv y f (k+1) (bT L r ((L r).set k q)) J (hok.set J hr h2) (λj h1 h2=>by
    rw[bg,E,if_neg J];exact h j J h2)
   refine⟨L2,by rw[mD,h1];exact e,A0,λi hi=>by rw[o1 i hi,bh _ _ hi],λj _=>by rw[O j J,bg,E,if_neg J],λj _ A1=>?_⟩
   by_cases e2:j=k
   · subst e2;rw[O j J,bg,E,if_pos Z,h3]
   · rw[W j J A1,bg,E,if_neg e2]
def FJ (hi:i<n)(hne:i≠r)(by_:R)(y:Rat):∀(f k:Nat) (L:Rows),k+f=m->qt n m L->
 (∀j,k<=j->j<m->∃p,qr by_ (ar (L r) j)=some p/\∃d,dn (ar (L i) j) p=some d/\bJ d=true/\qv d=qv (ar (L i) j)-y*qv (ar (L r) j))->
 ∃L2,lX r i by_ f k L=some L2/\qt n m L2/\(∀i',i'≠i->L2 i'=L i')/\(∀j,j<k->ar (L2 i) j=ar (L i) j)/\∀j,k<=j->j<m->qv (ar (L2 i) j)=qv (ar (L i) j)-y*qv (ar (L r) j)
 |0,k,L,_,hok,_=>⟨L,rfl,hok,λ_ _=>rfl,λ_ _=>rfl,λj h1 h2=>by omega⟩
 | f +1,k,L,hk,hok,h=>by
   obtain⟨p,h0,q,h1,h2,h3⟩:=h k (qa0 _) J
   have hl:k<(L i).length:=by rw[(hok i hi).1];omega
   have E:∀j,ar ((L i).set k q) j=if j=k then q else ar (L i) j:=λj=>sF hl
   obtain⟨L2,e,A0,o1,O,W⟩:=FJ hi hne by_ y f (k+1) (bT L i ((L i).set k q)) J (hok.set J hi h2) (λj h1 h2=>by
    rw[bg,bh _ _ (λe=>hne e.symm),E,if_neg J];exact h j J h2)
   refine⟨L2,by rw[lX,h0];show(match dn (ar (L i) k) p with|none=>none|some d=>_)=_;rw[h1];exact e,A0,λi' hi=>by rw[o1 i' hi,bh _ _ hi],λj _=>by rw[O j J,bg,E,if_neg J],λj _ A1=>?_⟩
   by_cases e2:j=k
   · subst e2;rw[O j J,bg,E,if_pos Z,h3]
   · rw[W j J A1,bg,E,if_neg e2,bh _ _ (λe=>hne e.symm)]
def yN (hc:c<m):∀(f k:Nat) (L:Rows),k+f=n->qt n m L->
 (∀i,k<=i->i<n->i≠r->∀j,c<=j->j<m->∃p,qr (ar (L i) c) (ar (L r) j)=some p/\∃d,dn (ar (L i) j) p=some d/\bJ d=true/\qv d=qv (ar (L i) j)-qv (ar (L i) c)*qv (ar (L r) j))->
 ∃L2,ko m r c f k L=some L2/\qt n m L2/\L2 r=L r/\(∀i,i<k->L2 i=L i)/\∀i,k<=i->i<n->i≠r->(∀j,j<c->ar (L2 i) j=ar (L i) j)/\∀j,c<=j->j<m->qv (ar (L2 i) j)=qv (ar (L i) j)-qv (ar (L i) c)*qv (ar (L r) j)
 |0,k,L,_,hok,_=>⟨L,rfl,hok,rfl,λ_ _=>rfl,λi h1 h2=>by omega⟩
 | f + 1,k,L,hk,hok,h=>by
   by_cases hs:k=r\/ar (L k) c=z0
   · obtain⟨L2,e,ok2,o1,o2,o3⟩:=yN hc f (k+1) L J hok (λi h1 h2=>h i J h2)
     refine⟨L2,by rw[ko,if_pos hs];exact e,ok2,o1,λi hi=>o2 i J,λi h1 h2 h3=>?_⟩
     by_cases e2:i=k
     · subst e2
       rw[o2 i J]
       refine⟨λ_ _=>rfl,λj _ _=>?_⟩
       rcases hs with hs|hs
       · exact absurd hs h3
       · rw[hs,mJ];grind
     · exact o3 i J h2 h3
   · have O:k≠r:=λe=>hs (.inl e)
     obtain⟨L1,A0,A1,E,p2,p3⟩:=FJ (r:=r) (by omega:k<n) O (ar (L k) c) (qv (ar (L k) c)) (m-c) c L J hok (λj h1 h2=>h k (qa0 _) J O j h1 h2)
     have W:L1 r=L r:=E r (λe=>O e.symm)
     obtain⟨L2,e,ok2,o1,o2,o3⟩:=yN hc f (k+1) L1 J A1 (λi h1 h2 h3 j h4 A2=>by
      rw[E i J,W];exact h i J h2 h3 j h4 A2)
     refine⟨L2,by rw[ko,if_neg hs,A0];exact e,ok2,by rw[o1,W],λi hi=>by rw[o2 i J,E i J],λi h1 h2 h3=>?_⟩
     by_cases e2:i=k
     · subst e2
       rw[o2 i J]
       exact⟨p2,p3⟩
     · have:=o3 i J h2 h3
       rw[E i e2,W]at this
       exact this
def xe (c:Nat)(L:Rows):∀(f p:Nat),(∀i,p<=i->i<iD c L f p->ar (L i) c=z0)/\(iD c L f p<p+f->¬ar (L (iD c L f p)) c=z0)
 |0,p=>⟨λi h1 h2=>by unfold iD at h2;omega,λh=>by unfold iD at h;omega⟩
 | f +1,p=>by
   unfold iD
   by_cases e:ar (L p) c=z0
   · rw[if_pos e]
     have ih:=xe c L f (p+1)
     refine⟨λi h1 h2=>?_,λh=>ih.2 J⟩
     by_cases e2:i=p
     · rw[e2];exact e
     · exact ih.1 i J h2
   · rw[if_neg e]
     exact⟨λi h1 h2=>by omega,λ_=>e⟩
end steps
end Go.Proofs.YtlmihmlnpjkblaaGreatDoor
