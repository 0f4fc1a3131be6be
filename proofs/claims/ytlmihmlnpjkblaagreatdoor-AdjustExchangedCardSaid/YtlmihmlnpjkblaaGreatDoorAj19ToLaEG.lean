/- Part of the proof of a statement about an adjustment. -/
import Derived.Test.YtlmihmlnpjkblaaGreatDoorAj14ToCardCG
set_option linter.all false
namespace Go.Proofs.YtlmihmlnpjkblaaGreatDoor
open Go Go.Eng Go.RowKit Proofs.Tryz
variable {a b x0 x1:Int}{xs:List Int}{k i n lo CX C CR lo5 lo4 pl:Nat}{X A kd:Option Addr}{w:World}
section
attribute [local irreducible] wpListIn Code.wpIn Oper.wpIn Exit.then Exit.inBlock Exit.noGoto
set_option maxHeartbeats 40000000
def FN (xs:List Int)(i k:Nat):R:=bM (bL (kD xs (7*i+k)) 7-3) 1
def eH (xs:List Int)(n i:Nat):List R:=(List.range n).map (FN xs i)
def Bj (xs:List Int)(i k:Nat):R:=if i=k then bM (2+bL (kD xs (5*i+1)) 4) 1 else if i+k=1 then bM (bL (kD xs 2) 3-1) 1 else z0
def fA (xs:List Int)(m i:Nat):List R:=(List.range m).map (Bj xs i)
def yE (xs:List Int)(i:Nat):R:=bM (bL (kD xs (3*i+2)) 41-20) 2
def yA (xs:List Int)(m:Nat):List R:=(List.range m).map (yE xs)
def vg {f:Nat->R}{l:List R}{q:R}(h:l=(List.range k).map f)(hq:q=f k):l++[q]=(List.range (k+1)).map f:=by
 subst h hq;simp[List.range_succ]
def Mg {m:Nat}:(yA xs m).length=m:=by simp[yA]
structure fq (lo hi:Nat)(w:World)(A:Option Addr)(C:Nat)(Y:Option Addr)(CY:Nat)(B:Option Addr)(CB:Nat)(m:Nat)(H G:Nat->Value)(L V:Rows)(ys:List R):Prop where
 yl:ys.length=m
 oM:w.ownsRow lo 28 1 (.slice A m C) m ((List.range m).map H)
 uM:∀g,(Value.slice A m C).ownBlock=some g->g<hi
 wM:Wr w lo hi m H L
 oY:w.ownsRow lo 33 2 (.slice Y m CY) m (ag ys)
 uY:∀g,(Value.slice Y m CY).ownBlock=some g->g<hi
 oV:w.ownsRow lo 28 1 (.slice B m CB) m ((List.range m).map G)
 uV:∀g,(Value.slice B m CB).ownBlock=some g->g<hi
 wV:Wr w lo hi m G V
 nMY:ay (.slice A m C) (.slice Y m CY)
 nMV:ay (.slice A m C) (.slice B m CB)
 nVY:ay (.slice B m CB) (.slice Y m CY)
 nMH:∀z,z<m->ay (.slice A m C) (H z)
 nMG:∀z,z<m->ay (.slice A m C) (G z)
 nVH:∀z,z<m->ay (.slice B m CB) (H z)
 nVG:∀z,z<m->ay (.slice B m CB) (G z)
 nYH:∀z,z<m->ay (.slice Y m CY) (H z)
 nYG:∀z,z<m->ay (.slice Y m CY) (G z)
 nHG:∀z,z<m->∀z',z'<m->ay (H z) (G z')
section
variable {lo' hi hi' m:Nat}{w':World}{Y:Option Addr}{CY:Nat}{B:Option Addr}{CB:Nat}{H G:Nat->Value}{L V:Rows}{ys:List R}
def fq.ext (k:aN w w')(h:fq lo hi w A C Y CY B CB m H G L V ys):fq lo hi w' A C Y CY B CB m H G L V ys:=
 ⟨h.yl,ab k h.oM,h.uM,h.wM.ext k,ab k h.oY,h.uY,ab k h.oV,h.uV,h.wV.ext k,h.nMY,h.nMV,h.nVY,h.nMH,h.nMG,h.nVH,h.nVG,h.nYH,h.nYG,h.nHG⟩
def ac4:=@fq.ext
def fq.put {x:Nat}(k:dP w w' x)(hx:x<lo\/hi<=x)(h:fq lo hi w A C Y CY B CB m H G L V ys):fq lo hi w' A C Y CY B CB m H G L V ys:=by
 have hM:(Value.slice A m C).ownBlock≠some x:=λe=>by have h1:=h.uM x e;have h2:=aR h.oM x e;omega
 have hY:(Value.slice Y m CY).ownBlock≠some x:=λe=>by have h1:=h.uY x e;have h2:=aR h.oY x e;omega
 have hV:(Value.slice B m CB).ownBlock≠some x:=λe=>by have h1:=h.uV x e;have h2:=aR h.oV x e;omega
 exact⟨h.yl,av k hM h.oM,h.uM,h.wM.put k hx,av k hY h.oY,h.uY,av k hV h.oV,h.uV,h.wV.put k hx,h.nMY,h.nMV,h.nVY,h.nMH,h.nMG,h.nVH,h.nVG,h.nYH,h.nYG,h.nHG⟩
def ac9:=@fq.put
def fq.des (h:fq lo hi w A C Y CY B CB m H G L V ys):ia lo w A C Y CY B CB L V ys:=by
 obtain rfl:=h.yl
 exact⟨⟨_,h.wM.mt (ek h.oM)⟩,ek h.oY,⟨_,h.wV.mt (ek h.oV)⟩,kj h.oV⟩
end
def Mh {H G:Nat->Value}{a b:Value}(h:∀z,z<i->∀z',z'<i->ay (H z) (G z'))(ha:∀z,z<i->ay a (G z))(hb:∀z,z<i->ay b (H z))(hab:ay a b):
 ∀z,z<i+1->∀z',z'<i+1->ay (bD H i a z) (bD G i b z'):=λz O z' E=>by
 by_cases e:z=i
 · subst e;rw[aX]
   by_cases e':z'=z
   · subst e';rw[aX];exact hab
   · rw[bc _ _ e'];exact ha _ U
 · rw[bc _ _ e]
   by_cases e':z'=i
   · subst e';rw[aX];exact(hb _ U).symm
   · rw[bc _ _ e'];exact h _ U _ U
set_option maxRecDepth 100000 in
def HD :
 CL 81 #[] w (aH w λv w'=>v=.agg #[S z0.1,S z0.2]):=by
 refine aC func81 Z (I ?_);refine al aZ (λ_ W O=>?_);have E:=W.2;refine I ?_;refine SA O (λ_ A1 A0=>?_);have E:=bA A1 E;refine I ?_;refine ba (v:=.agg #[S [48],S [49]]) (cC  rfl ?_) E Z;refine ak (t:=0) (cs:=[S [48],S [49]]) (b:=w.heap.size) (o:=0) iT Z bX ?_ ?_;exact Z;exact aa1 A0 (i:=0) Z
set_option maxHeartbeats 4000000 in
set_option maxRecDepth 100000 in
def HE {m:Nat}(hx0:In64 x0)(hx1:In64 x1)(hm:2+bL x0 4=(m:Int))(hn:1+bL x1 2=(n:Int))(hx:Rw w lo X (nk xs)):
 CL 33 #[.int .i64 x0,.int .i64 x1,.slice X xs.length CX] w (aH w λv w'=>∃A C Y CY B CB H G lo hi,w.heap.size<=lo/\hi<=w'.heap.size/\v=.agg #[.slice A m C,.slice Y m CY,.slice B m CB]/\fq lo hi w' A C Y CY B CB m H G (eH xs n) (fA xs m) (yA xs m)):=by
 refine aC func33 Z (I ?_);refine al dX (λ_ fi E=>?_);have Lk:=fi.2;refine I ?_;refine clb qA (hc:=jG x0 4 _ hx0 U) (hk:=?_);rintro _ _ hI rfl;have⟨E,Lk⟩:=bw hI.2 E Lk;have hV:=dY x0 4 U;refine gR (I ?_);refine clb qA (hc:=jG x1 2 _ hx1 U) (hk:=?_);rintro _ Cr h7 rfl;have⟨E,Lk⟩:=bw h7.2 E Lk;have hZ:=dY x1 2 U;refine gR (I ?_);refine al dX (λ_ h5 eG=>?_);have⟨E,Lk⟩:=bw h5.2 E Lk;refine aa (bo (b:=Cr.heap.size) (o:=0) (vs:=[.slice none 0 0,.slice none 0 0,.slice none 0 0]) bm Z Z zl eG (qa3 Z) (λAp fN A2=>?_));have⟨E,Lk,_⟩:=kC fN E Lk;refine I ?_;have ib:2<=m/\m<=5:=by have:=dY x0 4 dc;omega
 have hY:1<=n/\n<=2:=by have:=dY x1 2 dc;omega
 rw[hm];rw[hn];have hD:World.ownsRow Ap Ap.heap.size 28 1 (.slice none 0 0) 0 []:=bO;have ea:Wr Ap Ap.heap.size Ap.heap.size 0 (λ_=>.nilIface) (eH xs n):=Wr.nil;have fD:World.ownsRow Ap Ap.heap.size 28 1 (.slice none 0 0) 0 []:=bO;have eb:Wr Ap Ap.heap.size Ap.heap.size 0 (λ_=>.nilIface) (fA xs m):=Wr.nil;have fT:World.ownsRow Ap Ap.heap.size 33 2 (.slice none 0 0) 0 (ag []):=bO
 refine ck [(10,19),(27,117)] (λVW e W=>∃i:Nat,∃H2:Nat->Value,∃As:Value,∃H3:Nat->Value,∃vc:Value,∃acY:List R,∃Ar:Value,(m-i=VW)/\(e 10=.int .i64 i)/\(i<=m)/\(∀zz,zz<i->ay As (H2 zz))/\(∀zz,zz<i->ay As (H3 zz))/\(∀zz,zz<i->ay vc (H2 zz))/\(∀zz,zz<i->ay vc (H3 zz))/\(∀zz,zz<i->ay Ar (H2 zz))/\(∀zz,zz<i->ay Ar (H3 zz))/\(∀z,z<i->∀z',z'<i->ay (H2 z) (H3 z'))/\(acY.length=i)/\(acY=(List.range i).map (yE xs))/\(Ap.heap.size<=W.heap.size)/\((As).ownBlock≠some w.heap.size)/\((As).ownBlock≠some Cr.heap.size)/\((vc).ownBlock≠some w.heap.size)/\((vc).ownBlock≠some Cr.heap.size)/\((Ar).ownBlock≠some w.heap.size)/\((Ar).ownBlock≠some Cr.heap.size)/\(ay As vc)/\(ay As Ar)/\(ay vc Ar)/\(aN w W)/\(ar W w.heap.size 30 #[.slice none 0 0,.slice none 0 0,.slice none 0 0])/\(W.ownsRow Ap.heap.size 28 1 As i ((List.range i).map H2))/\(Wr W Ap.heap.size W.heap.size i H2 (eH xs n))/\(W.ownsRow Ap.heap.size 28 1 vc i ((List.range i).map H3))/\(Wr W Ap.heap.size W.heap.size i H3 (fA xs m))/\(W.ownsRow Ap.heap.size 33 2 Ar acY.length (ag acY))/\(ar W Cr.heap.size 30 #[As,Ar,vc])) (m-0) ⟨0,(λ_=>.nilIface),.slice none 0 0,(λ_=>.nilIface),.slice none 0 0,[],.slice none 0 0,rfl,rfl,(qa7 _),(λj Aw=>by omega),(λj Aw=>by omega),(λj Aw=>by omega),(λj Aw=>by omega),(λj Aw=>by omega),(λj Aw=>by omega),(λj Aw=>by omega),rfl,rfl,(qa0 _),(λe=>by cases e),(λe=>by cases e),(λe=>by cases e),(λe=>by cases e),(λe=>by cases e),(λe=>by cases e),(aa4 ad2),(aa4 ad2),(aa4 ad2),Lk,E,hD,ea,fD,eb,fT,A2⟩ ?_
 rintro _ _ B0 ⟨i,H2,As,H3,vc,acY,Ar,rfl,hW,i0,b0,cV,bW,ce,ac,bZ,ct,halY,hacY,hz,cw,e3,cm,WV,dC,cf,cc,cb,cT,Vm,E,Ab,O,A0,A1,hyrow,A2⟩;have hR:=bz Vm;by_cases hlo:i<m;refine I ?_;have fu:World.ownsRow B0 B0.heap.size 33 2 (.slice none 0 0) 0 (ag []):=bO
 refine ck [(11,11),(13,15),(32,52)] (λVW e W=>∃k:Nat,∃E6:List R,∃vline:Value,(n-k=VW)/\(e 13=.int .i64 k)/\(e 11=vline)/\(k<=n)/\(E6.length=k)/\(E6=(List.range k).map (FN xs i))/\(B0.heap.size<=W.heap.size)/\((vline).ownBlock≠some w.heap.size)/\((vline).ownBlock≠some Cr.heap.size)/\(ay As vline)/\(ay vc vline)/\(ay Ar vline)/\(aN w W)/\(ar W w.heap.size 30 #[.slice none 0 0,.slice none 0 0,.slice none 0 0])/\(W.ownsRow Ap.heap.size 28 1 As i ((List.range i).map H2))/\(Wr W Ap.heap.size B0.heap.size i H2 (eH xs n))/\(W.ownsRow Ap.heap.size 28 1 vc i ((List.range i).map H3))/\(Wr W Ap.heap.size B0.heap.size i H3 (fA xs m))/\(W.ownsRow Ap.heap.size 33 2 Ar acY.length (ag acY))/\(ar W Cr.heap.size 30 #[As,Ar,vc])/\(W.ownsRow B0.heap.size 33 2 vline E6.length (ag E6))) (n-0) ⟨0,[],.slice none 0 0,rfl,rfl,rfl,(qa7 _),rfl,rfl,(qa0 _),(λe=>by cases e),(λe=>by cases e),(aa4 ad2),(aa4 ad2),(aa4 ad2),Vm,E,Ab,O,A0,A1,hyrow,A2,fu⟩ ?_;rintro _ _ Rm ⟨k,E6,vline,rfl,hp,cr,hi_k,hal_acl,e5,hh,e4,W1,W2,Wa,X0,Az,E,Ab,O,A0,A1,hyrow,A2,hline⟩;have i3:=bz Az;by_cases hlk:k<n;refine I ?_;refine aa (ra (a:=7) (b:=(i:Int)) (c:=((7*i:Nat):Int)) Z Z j0 Z ?_)
 refine I ?_;refine aa (cG (a:=((7*i:Nat):Int)) (b:=(k:Int)) (c:=((7*i+k:Nat):Int)) Z Z j0 Z ?_);refine clb xy (hc:=s5 (i:=(7*i+k)) (xs:=xs) U (hx.ext Az)) (hk:=?_);rintro _ _ La rfl;have E:=be La.2 E;have Ab:=ab La.2 Ab;have O:=aa2 La.2 O;have A0:=ab La.2 A0;have A1:=aa2 La.2 A1;have hyrow:=ab La.2 hyrow;have A2:=be La.2 A2;have hline:=ab La.2 hline;have Az:=xt Az La.2;refine clb qA (hc:=jG (kD xs (7*i+k)) 7 _ (sZ U) U) (hk:=?_);rintro _ _ No rfl;have E:=be No.2 E;have Ab:=ab No.2 Ab;have O:=aa2 No.2 O;have A0:=ab No.2 A0;have A1:=aa2 No.2 A1;have hyrow:=ab No.2 hyrow;have A2:=be No.2 A2;have hline:=ab No.2 hline;have Az:=xt Az No.2;have hg:=dY (kD xs (7*i+k)) 7 U;refine qF ?_;refine clb If (hc:=AF ((bL (kD xs (7*i+k)) 7)-3) 1 _ U U) (hk:=?_);rintro _ _ Ne rfl;have E:=be Ne.2 E;have Ab:=ab Ne.2 Ab;have O:=aa2 Ne.2 O;have A0:=ab Ne.2 A0;have A1:=aa2 Ne.2 A1;have hyrow:=ab Ne.2 hyrow;have A2:=be Ne.2 A2;have hline:=ab Ne.2 hline;have Az:=xt Az Ne.2;refine I ?_;refine al aZ (λ_ P0 fG=>?_);have fB:=br Ab;have fa:=br A0;have hN:=br hyrow
 have eX:=br hline;have E:=be P0.2 E;have Ab:=ab P0.2 Ab;have O:=aa2 P0.2 O;have A0:=ab P0.2 A0;have A1:=aa2 P0.2 A1;have hyrow:=ab P0.2 hyrow;have A2:=be P0.2 A2;have hline:=ab P0.2 hline;have Az:=xt Az P0.2;refine SA fG (λ_ KC cq=>?_);have E:=pb KC E;have Ab:=av KC fB Ab;have O:=ab8 KC U O;have A0:=av KC fa A0;have A1:=ab8 KC U A1;have hyrow:=av KC hN hyrow;have A2:=pb KC A2;have hline:=av KC eX hline;have Az:=bA KC Az;have ha:=ij KC;refine I ?_;refine aa (aY (v:=vline) cr ?_);refine I ?_;refine BS (λ_ nm _ fP=>?_);have E:=be nm E;have Ab:=ab nm Ab;have O:=aa2 nm O;have A0:=ab nm A0;have A1:=aa2 nm A1;have hyrow:=ab nm hyrow;have A2:=be nm A2;have hline:=ab nm hline;have⟨cq,Az⟩:=bw nm cq Az;refine AP hline (ab0 fP) (λd1 _ h9 N0 T3=>?_);have ga:=aS T3 e4 (bt E);have hK:=aS T3 W1 (bt A2);have E:=aa3 N0 (λe=>e4 e.symm) E;have eB:=ab1 T3 (aa4 W2) Ab;have Ab:=ab5 (aa4 W2) N0 Ab;have O:=Wr.gr N0 (λg e=>Or.inr (qa8 U (aR hline g e))) O;have eg:=ab1 T3 (aa4 Wa) A0;have A0:=ab5 (aa4 Wa) N0 A0
 have A1:=Wr.gr N0 (λg e=>Or.inr (qa8 U (aR hline g e))) A1;have hM:=ab1 T3 (aa4 X0) hyrow;have hyrow:=ab5 (aa4 X0) N0 hyrow;have A2:=aa3 N0 (λe=>W1 e.symm) A2;have Az:=bB hline U U Az N0;have i4:=N0.size;refine aa (aJ (v:=d1) Z ?_);refine I ?_;refine gR (I ?_);exact bJ ⟨k+1,E6++[(FN xs i k)],d1,rfl,rfl,rfl,U,q4,(vg e5 Z),U,ga,hK,(aa4 eB),(aa4 eg),(aa4 hM),Az,E,Ab,O,A0,A1,hyrow,A2,(aP h9 zd (du _ (FN xs i k)))⟩;have fW:E6=eH xs n i:=by have:=e5;rw[show k=n by omega]at this;exact this
 refine I ?_;have f4:World.ownsRow Rm Rm.heap.size 33 2 (.slice none 0 0) 0 (ag []):=bO;refine ck [(12,12),(16,17),(53,88)] (λVW e W=>∃k:Nat,∃acc:List R,∃Av:Value,(m-k=VW)/\(e 16=.int .i64 k)/\(e 12=Av)/\(k<=m)/\(acc.length=k)/\(acc=(List.range k).map (Bj xs i))/\(Rm.heap.size<=W.heap.size)/\((Av).ownBlock≠some w.heap.size)/\((Av).ownBlock≠some Cr.heap.size)/\(ay As Av)/\(ay vc Av)/\(ay Ar Av)/\(ay vline Av)/\(aN w W)/\(ar W w.heap.size 30 #[.slice none 0 0,.slice none 0 0,.slice none 0 0])/\(W.ownsRow Ap.heap.size 28 1 As i ((List.range i).map H2))/\(Wr W Ap.heap.size B0.heap.size i H2 (eH xs n))/\(W.ownsRow Ap.heap.size 28 1 vc i ((List.range i).map H3))/\(Wr W Ap.heap.size B0.heap.size i H3 (fA xs m))/\(W.ownsRow Ap.heap.size 33 2 Ar acY.length (ag acY))/\(ar W Cr.heap.size 30 #[As,Ar,vc])/\(W.ownsRow B0.heap.size 33 2 vline E6.length (ag E6))/\(W.ownsRow Rm.heap.size 33 2 Av acc.length (ag acc))) (m-0) ⟨0,[],.slice none 0 0,rfl,rfl,rfl,(qa7 _),rfl,rfl,(qa0 _),(λe=>by cases e),(λe=>by cases e),(aa4 ad2),(aa4 ad2),(aa4 ad2),(aa4 ad2),Az,E,Ab,O,A0,A1,hyrow,A2,hline,f4⟩ ?_
 rintro _ _ _ ⟨k,acc,Av,rfl,hQ,dq,hi_k,hal_acc,d3,i9,cx,V0,a6,a3,a8,c9,Am,E,Ab,O,A0,A1,hyrow,A2,hline,Af⟩;have i2:=bz Am;by_cases hlk:k<m;refine I ?_;refine cl VF HD ?_;rintro _ fQ L3 rfl;have E:=be L3.2 E;have Ab:=ab L3.2 Ab;have O:=aa2 L3.2 O;have A0:=ab L3.2 A0;have A1:=aa2 L3.2 A1;have hyrow:=ab L3.2 hyrow;have A2:=be L3.2 A2;have hline:=ab L3.2 hline;have Af:=ab L3.2 Af;have Am:=xt Am L3.2;refine al aZ (λ_ E9 h0=>?_);have bp:=br Ab;have bY:=br A0;have a9:=br hyrow;have an:=br hline;have bq:=br Af;have E:=be E9.2 E;have Ab:=ab E9.2 Ab;have O:=aa2 E9.2 O;have A0:=ab E9.2 A0;have A1:=aa2 E9.2 A1;have hyrow:=ab E9.2 hyrow;have A2:=be E9.2 A2;have hline:=ab E9.2 hline;have Af:=ab E9.2 Af;have Am:=xt Am E9.2;refine SA h0 (λfl E0 D1=>?_);have E:=pb E0 E;have Ab:=av E0 bp Ab;have O:=ab8 E0 U O;have A0:=av E0 bY A0;have A1:=ab8 E0 U A1;have hyrow:=av E0 a9 hyrow;have A2:=pb E0 A2;have hline:=av E0 an hline;have Af:=av E0 bq Af;have Am:=bA E0 Am;have at2:=ij E0;refine I ?_
 refine Ts [(62,84)] (λe W=>∃q:R,(q=Bj xs i k)/\(aN w W)/\(fl.heap.size<=W.heap.size)/\(ar W w.heap.size 30 #[.slice none 0 0,.slice none 0 0,.slice none 0 0])/\(W.ownsRow Ap.heap.size 28 1 As i ((List.range i).map H2))/\(Wr W Ap.heap.size B0.heap.size i H2 (eH xs n))/\(W.ownsRow Ap.heap.size 28 1 vc i ((List.range i).map H3))/\(Wr W Ap.heap.size B0.heap.size i H3 (fA xs m))/\(W.ownsRow Ap.heap.size 33 2 Ar acY.length (ag acY))/\(ar W Cr.heap.size 30 #[As,Ar,vc])/\(W.ownsRow B0.heap.size 33 2 vline E6.length (ag E6))/\(W.ownsRow Rm.heap.size 33 2 Av acc.length (ag acc))/\(ar W fQ.heap.size 33 #[S q.1,S q.2])) ?_ ?_;by_cases aqo:(i:Int)=(k:Int);refine I ?_;refine aa (ra (a:=5) (b:=(i:Int)) (c:=((5*i:Nat):Int)) Z Z j0 Z ?_);refine aa (cG (a:=((5*i:Nat):Int)) (b:=1) (c:=((5*i+1:Nat):Int)) Z Z j0 Z ?_);refine clb xy (hc:=s5 (i:=(5*i+1)) (xs:=xs) U (hx.ext Am)) (hk:=?_);rintro _ _ KY rfl;have E:=be KY.2 E;have Ab:=ab KY.2 Ab;have O:=aa2 KY.2 O;have A0:=ab KY.2 A0;have A1:=aa2 KY.2 A1;have hyrow:=ab KY.2 hyrow;have A2:=be KY.2 A2;have hline:=ab KY.2 hline;have Af:=ab KY.2 Af;have⟨D1,Am⟩:=bw KY.2 D1 Am;refine clb qA (hc:=jG (kD xs (5*i+1)) 4 _ (sZ U) U) (hk:=?_)
 rintro _ _ K3 rfl;have E:=be K3.2 E;have Ab:=ab K3.2 Ab;have O:=aa2 K3.2 O;have A0:=ab K3.2 A0;have A1:=aa2 K3.2 A1;have hyrow:=ab K3.2 hyrow;have A2:=be K3.2 A2;have hline:=ab K3.2 hline;have Af:=ab K3.2 Af;have⟨D1,Am⟩:=bw K3.2 D1 Am;have at8:=dY (kD xs (5*i+1)) 4 U;refine gR ?_;refine clb If (hc:=AF (2+(bL (kD xs (5*i+1)) 4)) 1 _ U U) (hk:=?_);rintro _ _ G0 rfl;have E:=be G0.2 E;have Ab:=ab G0.2 Ab;have O:=aa2 G0.2 O;have A0:=ab G0.2 A0;have A1:=aa2 G0.2 A1;have hyrow:=ab G0.2 hyrow;have A2:=be G0.2 A2;have hline:=ab G0.2 hline;have Af:=ab G0.2 Af;have⟨D1,Am⟩:=bw G0.2 D1 Am;refine I ?_;refine SA D1 (λ_ ny ft=>?_);have E:=pb ny E;have Ab:=av ny bp Ab;have O:=ab8 ny U O;have A0:=av ny bY A0;have A1:=ab8 ny U A1;have hyrow:=av ny a9 hyrow;have A2:=pb ny A2;have hline:=av ny an hline;have Af:=av ny bq Af;have Am:=bA ny Am;have hX:=ij ny;refine I ?_;exact CN ⟨bM (2+(bL (kD xs (5*i+1)) 4)) 1,DP,Am,U,E,Ab,O,A0,A1,hyrow,A2,hline,Af,ft⟩;refine I ?_;refine gR (I ?_);by_cases aqp:((i:Int)+(k:Int))=1;refine I ?_
 refine clb xy (hc:=s5 (i:=2) (xs:=xs) U (hx.ext Am)) (hk:=?_);rintro _ _ od rfl;have E:=be od.2 E;have Ab:=ab od.2 Ab;have O:=aa2 od.2 O;have A0:=ab od.2 A0;have A1:=aa2 od.2 A1;have hyrow:=ab od.2 hyrow;have A2:=be od.2 A2;have hline:=ab od.2 hline;have Af:=ab od.2 Af;have⟨D1,Am⟩:=bw od.2 D1 Am;refine clb qA (hc:=jG (kD xs 2) 3 _ (sZ U) U) (hk:=?_);rintro _ _ Ix rfl;have E:=be Ix.2 E;have Ab:=ab Ix.2 Ab;have O:=aa2 Ix.2 O;have A0:=ab Ix.2 A0;have A1:=aa2 Ix.2 A1;have hyrow:=ab Ix.2 hyrow;have A2:=be Ix.2 A2;have hline:=ab Ix.2 hline;have Af:=ab Ix.2 Af;have⟨D1,Am⟩:=bw Ix.2 D1 Am;have hO:=dY (kD xs 2) 3 U;refine qF ?_;refine clb If (hc:=AF ((bL (kD xs 2) 3)-1) 1 _ U U) (hk:=?_);rintro _ _ H4 rfl;have E:=be H4.2 E;have Ab:=ab H4.2 Ab;have O:=aa2 H4.2 O;have A0:=ab H4.2 A0;have A1:=aa2 H4.2 A1;have hyrow:=ab H4.2 hyrow;have A2:=be H4.2 A2;have hline:=ab H4.2 hline;have Af:=ab H4.2 Af;have⟨D1,Am⟩:=bw H4.2 D1 Am;refine I ?_;refine SA D1 (λ_ E5 hL=>?_);have E:=pb E5 E;have Ab:=av E5 bp Ab;have O:=ab8 E5 U O;have A0:=av E5 bY A0;have A1:=ab8 E5 U A1;have hyrow:=av E5 a9 hyrow;have A2:=pb E5 A2
 have hline:=av E5 an hline;have Af:=av E5 bq Af;have Am:=bA E5 Am;have i1:=ij E5;refine I ?_;exact CN ⟨bM ((bL (kD xs 2) 3)-1) 1,DP,Am,U,E,Ab,O,A0,A1,hyrow,A2,hline,Af,hL⟩;refine I ?_;exact CN ⟨z0,DP,Am,U,E,Ab,O,A0,A1,hyrow,A2,hline,Af,D1⟩;rintro _ _ ⟨q,hq,W0,hw,E,Ab,O,A0,A1,hyrow,A2,hline,Af,d4⟩;refine I ?_;refine aa (aY (v:=Av) dq ?_);refine I ?_;refine BS (λ_ EW _ eW=>?_);have E:=be EW E;have Ab:=ab EW Ab;have O:=aa2 EW O;have A0:=ab EW A0;have A1:=aa2 EW A1;have hyrow:=ab EW hyrow;have A2:=be EW A2;have hline:=ab EW hline;have Af:=ab EW Af;have⟨d4,W0⟩:=bw EW d4 W0;refine AP Af (ab0 eW) (λch _ fy FR S0=>?_);have arr:=aS S0 cx (bt E);have eS:=aS S0 V0 (bt A2);have E:=aa3 FR (λe=>cx e.symm) E;have er:=ab1 S0 (aa4 a6) Ab;have Ab:=ab5 (aa4 a6) FR Ab;have O:=Wr.gr FR (λg e=>Or.inr (qa8 U (aR Af g e))) O;have e6:=ab1 S0 (aa4 a3) A0;have A0:=ab5 (aa4 a3) FR A0
 have A1:=Wr.gr FR (λg e=>Or.inr (qa8 U (aR Af g e))) A1;have f3:=ab1 S0 (aa4 a8) hyrow;have hyrow:=ab5 (aa4 a8) FR hyrow;have A2:=aa3 FR (λe=>V0 e.symm) A2;have gW:=ab1 S0 (aa4 c9) hline;have hline:=ab5 (aa4 c9) FR hline;have W0:=bB Af U U W0 FR;have hU:=FR.size;refine aa (aJ (v:=ch) Z ?_);refine I ?_;refine gR (I ?_);exact bJ ⟨k+1,acc++[q],ch,rfl,rfl,rfl,U,q4,(vg d3 hq),U,arr,eS,(aa4 er),(aa4 e6),(aa4 f3),(aa4 gW),W0,E,Ab,O,A0,A1,hyrow,A2,hline,(aP fy zd (du _ q))⟩;have hB:acc=fA xs m i:=by have:=d3;rw[show k=m by omega]at this;exact this
 refine I ?_;refine aa (ra (a:=3) (b:=(i:Int)) (c:=((3*i:Nat):Int)) Z Z j0 Z ?_);refine aa (cG (a:=((3*i:Nat):Int)) (b:=2) (c:=((3*i+2:Nat):Int)) Z Z j0 Z ?_);refine clb xy (hc:=s5 (i:=(3*i+2)) (xs:=xs) U (hx.ext Am)) (hk:=?_);rintro _ _ Kp rfl;have E:=be Kp.2 E;have Ab:=ab Kp.2 Ab;have O:=aa2 Kp.2 O;have A0:=ab Kp.2 A0;have A1:=aa2 Kp.2 A1;have hyrow:=ab Kp.2 hyrow;have A2:=be Kp.2 A2;have hline:=ab Kp.2 hline;have Af:=ab Kp.2 Af;have Am:=xt Am Kp.2;refine clb qA (hc:=jG (kD xs (3*i+2)) 41 _ (sZ U) U) (hk:=?_);rintro _ _ K2 rfl;have E:=be K2.2 E;have Ab:=ab K2.2 Ab;have O:=aa2 K2.2 O;have A0:=ab K2.2 A0;have A1:=aa2 K2.2 A1;have hyrow:=ab K2.2 hyrow;have A2:=be K2.2 A2;have hline:=ab K2.2 hline;have Af:=ab K2.2 Af;have Am:=xt Am K2.2;have he:=dY (kD xs (3*i+2)) 41 U;refine qF ?_;refine clb If (hc:=AF ((bL (kD xs (3*i+2)) 41)-20) 2 _ U U) (hk:=?_);rintro _ _ ES rfl;have E:=be ES.2 E;have Ab:=ab ES.2 Ab;have O:=aa2 ES.2 O;have A0:=ab ES.2 A0;have A1:=aa2 ES.2 A1;have hyrow:=ab ES.2 hyrow;have A2:=be ES.2 A2;have hline:=ab ES.2 hline
 have Af:=ab ES.2 Af;have Am:=xt Am ES.2;refine I ?_;refine al aZ (λ_ L1 g4=>?_);have d0:=br Ab;have d5:=br A0;have dd:=br hyrow;have hG:=br hline;have eq:=br Af;have E:=be L1.2 E;have Ab:=ab L1.2 Ab;have O:=aa2 L1.2 O;have A0:=ab L1.2 A0;have A1:=aa2 L1.2 A1;have hyrow:=ab L1.2 hyrow;have A2:=be L1.2 A2;have hline:=ab L1.2 hline;have Af:=ab L1.2 Af;have Am:=xt Am L1.2;refine SA g4 (λ_ E7 Ax=>?_);have E:=pb E7 E;have Ab:=av E7 d0 Ab;have O:=ab8 E7 U O;have A0:=av E7 d5 A0;have A1:=ab8 E7 U A1;have hyrow:=av E7 dd hyrow;have A2:=pb E7 A2;have hline:=av E7 hG hline;have Af:=av E7 eq Af;have Am:=bA E7 Am;have hS:=ij E7;refine I ?_;refine aa (aY (v:=vline) cr ?_);refine aa (cM (vs:=[(0,vline)]) (cells:=#[vline]) Ic jK Z dc dc (jW _ (bV hline)) Z dc (λ_ L2 _ f9=>?_));have E:=be L2 E;have Ab:=ab L2 Ab;have O:=aa2 L2 O;have A0:=ab L2 A0;have A1:=aa2 L2 A1;have hyrow:=ab L2 hyrow;have A2:=be L2 A2;have hline:=ab L2 hline;have Af:=ab L2 Af;have⟨Ax,Am⟩:=bw L2 Ax Am;refine AP Ab (ab0 f9) (λa2 _ Ay wr P1=>?_) (h1:=Tu (bV hline))
 have fc:=aS P1 cw (bt E);have a0:=aS P1 e3 (bt A2);have fC:∀Aq,Aq<i->ay a2 (H2 Aq):=λAq hi=>ab1 P1 (b0 Aq hi) (Wr.own O Aq hi);have hC:∀Aq,Aq<i->ay a2 (H3 Aq):=λAq hi=>ab1 P1 (cV Aq hi) (Wr.own A1 Aq hi);have E:=aa3 wr (λe=>cw e.symm) E;have O:=ad4 wr b0 O;have d6:=ab1 P1 cc A0;have A0:=ab5 cc wr A0;have A1:=ad4 wr cV A1;have co:=ab1 P1 cb hyrow;have hyrow:=ab5 cb wr hyrow;have A2:=aa3 wr (λe=>e3 e.symm) A2;have f0:=ab1 P1 W2 hline;have hline:=ab5 W2 wr hline;have gb:=ab1 P1 a6 Af;have Af:=ab5 a6 wr Af;have Ax:=aa3 wr (λe=>d0 e.symm) Ax;have Am:=bB Ab U U Am wr;have hj:=wr.size;refine I ?_;refine aa (cI (b:=Cr.heap.size) (o:=0) (v:=a2) zi Z Z (bV Ay) A2 (qa3 Z) (λ_ L4 T2=>?_));have E:=pb L4 E;have Ay:=av L4 a0 Ay
 have O:=ab8 L4 U O;have A0:=av L4 WV A0;have A1:=ab8 L4 U A1;have hyrow:=av L4 cf hyrow;have hline:=av L4 W1 hline;have Af:=av L4 V0 Af;have⟨Ax,Am,_⟩:=kC L4 Ax Am;refine I ?_;refine BS (λ_ KM _ eC=>?_);have E:=be KM E;have Ay:=ab KM Ay;have O:=aa2 KM O;have A0:=ab KM A0;have A1:=aa2 KM A1;have hyrow:=ab KM hyrow;have T2:=be KM T2;have hline:=ab KM hline;have Af:=ab KM Af;have⟨Ax,Am⟩:=bw KM Ax Am;refine AP hyrow (ab0 eC) (λa4 _ D2 E1 Q0=>?_);have eP:=aS Q0 dC (bt E);have bd:=aS Q0 cf (bt T2);have gs:∀Aq,Aq<i->ay a4 (H2 Aq):=λAq hi=>ab1 Q0 (ac Aq hi) (Wr.own O Aq hi);have g3:∀Aq,Aq<i->ay a4 (H3 Aq):=λAq hi=>ab1 Q0 (bZ Aq hi) (Wr.own A1 Aq hi);have E:=aa3 E1 (λe=>dC e.symm) E;have ed:=ab1 Q0 (aa4 co) Ay;have Ay:=ab5 (aa4 co) E1 Ay;have O:=ad4 E1 ac O;have cp:=ab1 Q0 (aa4 cT) A0;have A0:=ab5 (aa4 cT) E1 A0
 have A1:=ad4 E1 bZ A1;have T2:=aa3 E1 (λe=>cf e.symm) T2;have hE:=ab1 Q0 X0 hline;have hline:=ab5 X0 E1 hline;have hA:=ab1 Q0 a8 Af;have Af:=ab5 a8 E1 Af;have Ax:=aa3 E1 (λe=>dd e.symm) Ax;have Am:=bB hyrow U U Am E1;have hT:=E1.size;refine I ?_;refine aa (cI (b:=Cr.heap.size) (o:=1) (v:=a4) iS Z Z (bV D2) T2 (qa3 Z) (λ_ Lj S9=>?_));have E:=pb Lj E;have Ay:=av Lj a0 Ay;have O:=ab8 Lj U O;have A0:=av Lj WV A0;have A1:=ab8 Lj U A1;have D2:=av Lj bd D2;have hline:=av Lj W1 hline;have Af:=av Lj V0 Af;have⟨Ax,Am,_⟩:=kC Lj Ax Am;refine I ?_;refine aa (aY (v:=Av) dq ?_);refine aa (cM (vs:=[(0,Av)]) (cells:=#[Av]) Ic jK Z dc dc (jW _ (bV Af)) Z dc (λ_ GC _ fX=>?_));have E:=be GC E;have Ay:=ab GC Ay;have O:=aa2 GC O;have A0:=ab GC A0;have A1:=aa2 GC A1;have D2:=ab GC D2;have S9:=be GC S9;have hline:=ab GC hline;have Af:=ab GC Af;have⟨Ax,Am⟩:=bw GC Ax Am;refine AP A0 (ab0 fX) (λX2 _ W3 E4 P2=>?_) (h1:=Tu (bV Af));have h6:=aS P2 cm (bt E);have cv:=aS P2 WV (bt S9)
 have et:∀Aq,Aq<i->ay X2 (H2 Aq):=λAq hi=>ab1 P2 (bW Aq hi) (Wr.own O Aq hi);have ej:∀Aq,Aq<i->ay X2 (H3 Aq):=λAq hi=>ab1 P2 (ce Aq hi) (Wr.own A1 Aq hi);have E:=aa3 E4 (λe=>cm e.symm) E;have gv:=ab1 P2 (aa4 d6) Ay;have Ay:=ab5 (aa4 d6) E4 Ay;have O:=ad4 E4 bW O;have A1:=ad4 E4 ce A1;have hF:=ab1 P2 (aa4 cp) D2;have D2:=ab5 (aa4 cp) E4 D2;have S9:=aa3 E4 (λe=>WV e.symm) S9;have g0:=ab1 P2 Wa hline;have hline:=ab5 Wa E4 hline;have ask:=ab1 P2 a3 Af;have Af:=ab5 a3 E4 Af;have Ax:=aa3 E4 (λe=>d5 e.symm) Ax;have Am:=bB A0 U U Am E4;have hP:=E4.size;refine I ?_;refine aa (cI (b:=Cr.heap.size) (o:=2) (v:=X2) zi Z Z (bV W3) S9 (qa3 Z) (λcy Li g2=>?_));have E:=pb Li E;have Ay:=av Li a0 Ay;have O:=ab8 Li U O;have W3:=av Li cv W3;have A1:=ab8 Li U A1
 have D2:=av Li bd D2;have hline:=av Li W1 hline;have Af:=av Li V0 Af;have⟨Ax,Am,_⟩:=kC Li Ax Am;refine I ?_;refine gR (I ?_);have eD:World.ownsRow cy B0.heap.size 33 2 vline ((eH xs n) i).length (ag ((eH xs n) i)):=by have h:=hline;rw[fW]at h;exact h
 have h8:=b9 (lo':=Ap.heap.size) U eD;have fR:∀j,j<i->ay vline (H2 j):=Wr.far O hline U;have gn:World.ownsRow cy Rm.heap.size 33 2 Av ((fA xs m) i).length (ag ((fA xs m) i)):=by have h:=Af;rw[hB]at h;exact h
 have fS:=b9 (lo':=Ap.heap.size) U gn;have fx:∀j,j<i->ay Av (H3 j):=Wr.far A1 Af U;have eQ:∀j,j<i->ay vline (H3 j):=Wr.far A1 hline U;have fz:∀j,j<i->ay Av (H2 j):=Wr.far O Af U;refine I ?_;exact bJ ⟨i+1,bD H2 i vline,a2,bD H3 i Av,X2,acY++[yE xs i],a4,rfl,rfl,U,(λj Aw=>ef fC f0 j Aw),(λj Aw=>ef hC gb j Aw),(λj Aw=>ef et g0 j Aw),(λj Aw=>ef ej ask j Aw),(λj Aw=>ef gs hE j Aw),(λj Aw=>ef g3 hA j Aw),(Mh ct eQ fz c9),q4,(vg hacY Z),U,fc,a0,h6,cv,eP,bd,(aa4 gv),(aa4 ed),hF,Am,E,(aP Ay Z (eU H2 i vline).symm),(by have h:=Wr.push O h8 fR;rwa [kV]at h),(aP W3 Z (eU H3 i Av).symm),(by have h:=Wr.push A1 fS fx;rwa [kV]at h),(aP D2 zd (du _ (yE xs i))),g2⟩;have CG:i=m:=J
 have g1:acY=yA xs m:=by rw[hacY,CG];rfl
 have B2:=dr (by have Ao:=Ab;rw[CG]at Ao;exact Ao);have B1:=dr (by have Ao:=A0;rw[CG]at Ao;exact Ao);have ad:=aP hyrow (halY.trans CG) (qb2 ag g1);have C0:=dr ad;have bb:ar B0 Cr.heap.size 30 #[.slice (sA As) m (sC As),.slice (sA Ar) m (sC Ar),.slice (sA vc) m (sC vc)]:=by rw[<-B2,<-C0,<-B1];exact A2
 clear A2;have cz:=(by have Ao:=Ab;rw[CG]at Ao;exact Ao);have dL:=(by have Ao:=A0;rw[CG]at Ao;exact Ao);have bv:fq Ap.heap.size B0.heap.size B0 (sA As) (sC As) (sA Ar) (sC Ar) (sA vc) (sC vc) m H2 H3 (eH xs n) (fA xs m) (yA xs m):=⟨Mg,(by simp only[<-B2,<-C0,<-B1];exact cz),(by simp only[<-B2,<-C0,<-B1];exact(dG cz)),Wr.top (by have Ao:=O;rw[CG]at Ao;exact Ao),(by simp only[<-B2,<-C0,<-B1];exact ad),(by simp only[<-B2,<-C0,<-B1];exact(dG ad)),(by simp only[<-B2,<-C0,<-B1];exact dL),(by simp only[<-B2,<-C0,<-B1];exact(dG dL)),Wr.top (by have Ao:=A1;rw[CG]at Ao;exact Ao),(by simp only[<-B2,<-C0,<-B1];exact cb),(by simp only[<-B2,<-C0,<-B1];exact cc),(by simp only[<-B2,<-C0,<-B1];exact cT),(by simp only[<-B2,<-C0,<-B1];exact(by have Ao:=b0;rw[CG]at Ao;exact Ao)),(by simp only[<-B2,<-C0,<-B1];exact(by have Ao:=cV;rw[CG]at Ao;exact Ao)),(by simp only[<-B2,<-C0,<-B1];exact(by have Ao:=bW;rw[CG]at Ao;exact Ao)),(by simp only[<-B2,<-C0,<-B1];exact(by have Ao:=ce;rw[CG]at Ao;exact Ao)),(by simp only[<-B2,<-C0,<-B1];exact(by have Ao:=ac;rw[CG]at Ao;exact Ao)),(by simp only[<-B2,<-C0,<-B1];exact(by have Ao:=bZ;rw[CG]at Ao;exact Ao)),(by have Ao:=ct;rw[CG]at Ao;exact Ao)⟩;refine I ?_
 (try refine aa (aM (cs:=[.slice (sA As) m (sC As),.slice (sA Ar) m (sC Ar),.slice (sA vc) m (sC vc)]) (b:=Cr.heap.size) (o:=0) dj Z bm Z (aa1 bb (i:=0) Z) ?_));refine aa (bo (b:=w.heap.size) (o:=0) (vs:=[.slice (sA As) m (sC As),.slice (sA Ar) m (sC Ar),.slice (sA vc) m (sC vc)]) bm Z Z zl E (qa3 Z) (λ_ a5 fb=>?_));have bb:=pb a5 bb;have bv:=ac9 a5 U bv;have Vm:=bA a5 Vm;have i5:=ij a5;refine I ?_;refine ba (v:=.agg #[.slice (sA As) m (sC As),.slice (sA Ar) m (sC Ar),.slice (sA vc) m (sC vc)]) (cC  rfl ?_) Vm ⟨_,_,_,_,_,_,_,_,_,_,U,U,rfl,bv⟩;refine ak (t:=6) (cs:=[.slice (sA As) m (sC As),.slice (sA Ar) m (sC Ar),.slice (sA vc) m (sC vc)]) (b:=w.heap.size) (o:=0) dj Z bm ?_ ?_;exact Z;exact aa1 fb (i:=0) Z
set_option maxRecDepth 100000
def vI:List R:=[bM 10 1,bM 11 1,bM 15 1]
def k5:Rows:=cg [bM 1 1,bM 1 1,bM 1 1]
def qk:Rows:=λi=>uR i 3
def Rw.take40 (h:Rw w lo X (nk xs)):Rw w lo X (nk (xs.take 40)):=by
 have:=Rw.take 40 h
 rwa [show(nk xs).take 40=nk (xs.take 40)by simp[nk,List.map_take]]at this
def Bl {b:List R}(hb:Rw w lo A (ag b))(hbl:b.length*32<=140737488355328):
 CL 30 #[.slice A b.length C] w (aH w λv w'=>dI w.heap.size w' v b.length (cg b)):=by
 refine aC func30 Z (I ?_);have CG:World.ownsRow w w.heap.size 28 1 (.slice none 0 0) 0 []:=bO;have B2:Wr w w.heap.size w.heap.size 0 (λ_=>.nilIface) (cg b):=Wr.nil;have Cr:=aa0 w;refine ck [(3,18)] (λB1 e W=>∃i:Nat,∃H2:Nat->Value,∃A2:Value,(b.length-i=B1)/\(e 4=.int .i64 i)/\(e 3=A2)/\(i<=b.length)/\(∀zz,zz<i->ay A2 (H2 zz))/\(w.heap.size<=W.heap.size)/\(aN w W)/\(W.ownsRow w.heap.size 28 1 A2 i ((List.range i).map H2))/\(Wr W w.heap.size W.heap.size i H2 (cg b))) (b.length-0) ⟨0,(λ_=>.nilIface),.slice none 0 0,rfl,rfl,rfl,(qa7 _),(λj Ar=>by omega),(qa0 _),Cr,CG,B2⟩ ?_;rintro _ _ A1 ⟨i,H2,A2,rfl,E6,Aw,hi_i,As,wr,O,A0,E⟩;have E5:=bz O;by_cases hli:i<b.length;refine I ?_;refine aa (aY (v:=A2) Aw ?_);have Az:=aV (hb.ext O) (k:=(i)) U;refine I ?_;refine jv Az (I ?_);have Av:=dG A0;refine BS (λE1 Ap _ nm=>?_);have E7:=br A0;have A0:=ab Ap A0;have E:=aa2 Ap E;have O:=xt O Ap;have Ab:World.ownsRow E1 A1.heap.size 33 2 (.slice (some ⟨A1.heap.size,0,none⟩) 1 1) [ap b i].length (ag [ap b i]):=aP nm Z Z;refine BS (λ_ Am _ D2=>?_);have A0:=ab Am A0;have E:=aa2 Am E;have Ab:=ab Am Ab;have O:=xt O Am;refine AP A0 (ab0 D2) (λAq B0 E0 Ao Ax=>?_)
 have ny:∀Af,Af<i->ay Aq (H2 Af):=λAf hi=>ab1 Ax (As Af hi) (Wr.own E Af hi);have E:=ad4 Ao As E;have od:=ab1 Ax (aa4 (λg h1 h2=>by cases h1;have h3:A1.heap.size<_:=Av _ h2;omega)) Ab;have Ab:=ab5 (aa4 (λg h1 h2=>by cases h1;have h3:A1.heap.size<_:=Av _ h2;omega)) Ao Ab;have O:=bB A0 U U O Ao;have E4:=Ao.size;refine aa (aJ (v:=Aq) Z ?_);refine I ?_;refine gR (I ?_);have Ay:World.ownsRow B0 A1.heap.size 33 2 (.slice (some ⟨A1.heap.size,0,none⟩) 1 1) ((cg b) i).length (ag ((cg b) i)):=aP Ab Z Z;have D1:=b9 (lo':=w.heap.size) U Ay;have C0:∀zz,zz<i->ay (.slice (some ⟨A1.heap.size,0,none⟩) 1 1) (H2 zz):=Wr.far E Ab U;refine I ?_;exact bJ ⟨i+1,bD H2 i (.slice (some ⟨A1.heap.size,0,none⟩) 1 1),Aq,rfl,rfl,rfl,U,(λj Ar=>ef ny od j Ar),U,O,(aP E0 Z (eU H2 i (.slice (some ⟨A1.heap.size,0,none⟩) 1 1)).symm),(by have h:=Wr.push E D1 C0;rwa [pJ]at h)⟩;refine I ?_;refine aa (aY (v:=A2) Aw ?_);refine aa (aJ (v:=A2) Z ?_);refine I ?_;exact am (t:=2) (v:=A2) Z O (by have h:=pK A0 E;rw[show i=b.length by omega]at h;exact h.mono U) Z
def PU {m:Nat}(hx0:In64 x0)(hx1:In64 x1)(hm:2+bL x0 4=(m:Int))(hn:1+bL x1 2=(n:Int))(hx:Rw w lo X (nk xs))(hxc:xs.length<=CX):
 CL 10 #[.agg #[.int .i64 x0,.int .i64 x1,.slice X xs.length CX]] w (aH w λv w'=>∃A C Y CY B CB H G lo hi,w.heap.size<=lo/\hi<=w'.heap.size/\v=.agg #[.slice A m C,.slice Y m CY,.slice B m CB]/\fq lo hi w' A C Y CY B CB m H G (eH (xs.take 40) n) (fA (xs.take 40) m) (yA (xs.take 40) m)):=by
 refine aC func10 Z (I ?_);refine bx (λAq Aw O=>?_);have E:=Aw.2;refine al dX (λ_ As W=>?_);have⟨O,E⟩:=bw As.2 O E;refine I ?_;refine bP 11 ?_;refine aB (λ_ _ _ _=>by refine aa (iQ (b:=w.heap.size) (o:=0) (off:=0) (oo:=0) rj Z Z ji Z Z ?_);refine I ?_;exact aK) ?_;refine sf ?_;refine aB (λ_ _ _ _=>by refine aa (iQ (b:=w.heap.size) (o:=0) (off:=1) (oo:=1) rj Z Z ji Z Z ?_);refine I ?_;exact aK) ?_;refine sf ?_;refine aB (λ_ _ _ _=>by refine aa (iQ (b:=w.heap.size) (o:=0) (off:=2) (oo:=2) rj Z Z BU Z Z ?_);refine I ?_;exact aK) ?_;refine sf ?_;refine aB (λ_ _ _ _=>by refine aa (iQ (b:=w.heap.size) (o:=0) (off:=2) (oo:=2) rj Z Z BU Z Z ?_);refine I ?_;exact aK) ?_;refine sf ?_;refine aB (λ_ _ _ _=>by refine aa (Xu (a:=((xs.length:Nat):Int)) (b:=40) (m:=(((xs.take 40).length:Nat):Int)) Z Z (by rw[List.length_take];split <;>omega) ?_);refine I ?_;exact aK) ?_;refine aB (λ_ _ _ _=>by refine aa (re (A:=X) (m:=xs.length) (c:=CX) (j:=(xs.take 40).length) kB ji Z Z (by rw[List.length_take];omega) ?_);refine I ?_;exact aK) ?_;refine sf ?_;intro _ _ Av _;have⟨O,W,E⟩:=cD Av.2 O W E
 refine cl Sv (HE (xs:=xs.take 40) hx0 hx1 hm hn (Rw.take40 (hx.ext E))) ?_;rintro _ _ Ar ⟨A2,Ab,Ao,Af,A1,Ap,B1,Ax,C0,Ay,B2,Az,rfl,Am⟩;have⟨O,W,E⟩:=cD Ar.2 O W E;refine aa (bo (b:=Aq.heap.size) (o:=0) (vs:=[.slice A2 m Ab,.slice Ao m Af,.slice A1 m Ap]) bm Z Z zl W (qa3 Z) (λ_ A0 wr=>?_));have O:=pb A0 O;have Am:=ac9 A0 U Am;have E:=bA A0 E;have B0:=ij A0;refine I ?_;refine ba (v:=.agg #[.slice A2 m Ab,.slice Ao m Af,.slice A1 m Ap]) (cC  rfl ?_) E ⟨_,_,_,_,_,_,_,_,_,_,U,U,rfl,Am⟩;refine ak (t:=2) (cs:=[.slice A2 m Ab,.slice Ao m Af,.slice A1 m Ap]) (b:=Aq.heap.size) (o:=0) dj Z bm ?_ ?_;exact Z;exact aa1 wr (i:=0) Z
def DC :
 CL 31 #[] w (aH w λv w'=>∃A C Y CY B CB,v=.agg #[.slice A 3 C,.slice Y 3 CY,.slice B 3 CB]/\ia w.heap.size w' A C Y CY B CB k5 qk vI):=by
 refine aC func31 Z (I ?_);refine al dX (λ_ Cr O=>?_);have E:=Cr.2;refine I ?_;refine clb gp (hc:=dJ 1 1 U U) (hk:=?_);rintro _ _ ny rfl;have⟨O,E⟩:=bw ny.2 O E;refine clb gp (hc:=dJ 1 1 U U) (hk:=?_);rintro _ _ od rfl;have⟨O,E⟩:=bw od.2 O E;refine clb gp (hc:=dJ 1 1 U U) (hk:=?_);rintro _ Ay Az rfl;have⟨O,E⟩:=bw Az.2 O E;refine aa (cM (vs:=[(0,.agg #[S ((bM 1 1).1),S ((bM 1 1).2)]),(1,.agg #[S ((bM 1 1).1),S ((bM 1 1).2)]),(2,.agg #[S ((bM 1 1).1),S ((bM 1 1).2)])]) (cells:=#[S ((bM 1 1).1),S ((bM 1 1).2),S ((bM 1 1).1),S ((bM 1 1).2),S ((bM 1 1).1),S ((bM 1 1).2)]) te aZ Z dc dc q0 Z dc (λAx D1 _ E4=>?_));have⟨O,E⟩:=bw D1 O E;have D2:pP Ax Ay.heap.size Ax.heap.size (some ⟨Ay.heap.size,0,none⟩) (ag [bM 1 1,bM 1 1,bM 1 1]):=ab9 (ab0 E4);refine clb Ss (hc:=Bl (b:=[bM 1 1,bM 1 1,bM 1 1]) (D2).rw (by first|decide|omega)) (hk:=?_);rintro _ _ B0 wr;have⟨O,E⟩:=bw B0.2 O E;obtain⟨Ab,Af,_,rfl,_,C0⟩:=wr;have W:=ab6 C0;refine clb gp (hc:=dJ 10 1 U U) (hk:=?_);rintro _ _ Aq rfl;have O:=be Aq.2 O;have W:=aa7 Aq.2 W;have E:=xt E Aq.2;refine clb gp (hc:=dJ 11 1 U U) (hk:=?_);rintro _ _ Av rfl;have O:=be Av.2 O;have W:=aa7 Av.2 W;have E:=xt E Av.2
 refine clb gp (hc:=dJ 15 1 U U) (hk:=?_);rintro _ A0 nm rfl;have O:=be nm.2 O;have W:=aa7 nm.2 W;have E:=xt E nm.2;refine aa (cM (vs:=[(0,.agg #[S ((bM 10 1).1),S ((bM 10 1).2)]),(1,.agg #[S ((bM 11 1).1),S ((bM 11 1).2)]),(2,.agg #[S ((bM 15 1).1),S ((bM 15 1).2)])]) (cells:=#[S ((bM 10 1).1),S ((bM 10 1).2),S ((bM 11 1).1),S ((bM 11 1).2),S ((bM 15 1).1),S ((bM 15 1).2)]) te aZ Z dc dc q0 Z dc (λAw Ar _ E1=>?_));have O:=be Ar O;have W:=aa7 Ar W;have E:=xt E Ar;have Am:pP Aw A0.heap.size Aw.heap.size (some ⟨A0.heap.size,0,none⟩) (ag [bM 10 1,bM 11 1,bM 15 1]):=ab9 (ab0 E1);refine clb YJ (hc:=OT (n:=3) dc) (hk:=?_);rintro _ _ Ap CG;have O:=be Ap.2 O;have W:=aa7 Ap.2 W;have Am:=ab3 Ap.2 Am;have E:=xt E Ap.2;obtain⟨A2,A1,_,rfl,E0,B2⟩:=CG;have As:=ab6 B2;refine aa (b7 (vs:=[(0,.slice Ab (([bM 1 1,bM 1 1,bM 1 1]).length) Af),(1,.slice (some ⟨A0.heap.size,0,none⟩) 3 3),(2,.slice A2 3 A1)]) (cells:=#[.slice Ab (([bM 1 1,bM 1 1,bM 1 1]).length) Af,.slice (some ⟨A0.heap.size,0,none⟩) 3 3,.slice A2 3 A1]) (pl:=[(0,1),(1,1),(2,1)]) dj dX q0 Z q0 ?_)
 refine aa (bo (b:=w.heap.size) (o:=0) (vs:=[.slice Ab (([bM 1 1,bM 1 1,bM 1 1]).length) Af,.slice (some ⟨A0.heap.size,0,none⟩) 3 3,.slice A2 3 A1]) bm Z Z zl O (qa3 Z) (λ_ Ao B1=>?_));have W:=ad0 Ao U W;have Am:=ac1 Ao U Am;have As:=ad0 Ao U As;have E:=bA Ao E;refine I ?_;refine ba (v:=.agg #[.slice Ab (([bM 1 1,bM 1 1,bM 1 1]).length) Af,.slice (some ⟨A0.heap.size,0,none⟩) 3 3,.slice A2 3 A1]) (cC  rfl ?_) E ⟨_,_,_,_,_,_,rfl,⟨⟨_,((W).mt).mono U⟩,((Am).rw).mono U,⟨_,((As).mt).mono U⟩,E0⟩⟩;refine ak (t:=0) (cs:=[.slice Ab (([bM 1 1,bM 1 1,bM 1 1]).length) Af,.slice (some ⟨A0.heap.size,0,none⟩) 3 3,.slice A2 3 A1]) (b:=w.heap.size) (o:=0) dj Z bm ?_ ?_;exact Z;exact aa1 B1 (i:=0) Z
end
section
set_option maxRecDepth 100000
def PV (m:Nat)(V:Rows):Rows:=oR (eY m V)
def vh (m k:Nat)(L V:Rows):Rows:=oR (dM k (λj=>l8 L m j) m (PV m V))
def FO (m k:Nat)(L V:Rows):Rows:=oR (dM k (vh m k L V) m L)
def sd (m k:Nat)(L V:Rows):Rows:=oR (eY k (FO m k L V))
def X5 (m k:Nat)(L V:Rows)(ys:List R):Rows:=oR (dM k (vh m k L V) m (cg ys))
def PW (m k:Nat)(L V:Rows)(ys:List R):Rows:=oR (dM k (sd m k L V) k (X5 m k L V ys))
def Ru (m k:Nat)(L V:Rows)(ys:List R):Rows:=oR (dM m L k (PW m k L V ys))
def vi (P:Rows)(ys:List R)(i:Nat):R:=(rN (dE (ap ys i) (ap (P i) 0)),rD (dE (ap ys i) (ap (P i) 0)))
def nu (m k:Nat)(L V:Rows)(ys:List R):List R:=(List.range m).map (vi (Ru m k L V ys) ys)
def X6 (m k:Nat)(L V:Rows)(ys:List R):Rows:=oR (dM 1 (λj=>l8 (cg (nu m k L V ys)) m j) m (PV m V))
def BL (m k:Nat)(L V:Rows)(ys:List R):Rows:=oR (dM 1 (X6 m k L V ys) m (cg (nu m k L V ys)))
def qm (m k:Nat)(L V:Rows)(ys:List R):List R:=(List.range k).map λi=>ap (PW m k L V ys i) 0
def DD (m k:Nat)(L V:Rows)(ys:List R):Bool:=
 (eY m V).isSome&&(dM k (λj=>l8 L m j) m (PV m V)).isSome&&(dM k (vh m k L V) m L).isSome&&(eY k (FO m k L V)).isSome&&(dM k (vh m k L V) m (cg ys)).isSome&&(dM k (sd m k L V) k (X5 m k L V ys)).isSome&&(dM m L k (PW m k L V ys)).isSome&&
 (List.range m).all (λi=>decide (0<(Ru m k L V ys i).length)&&(dE (ap ys i) (ap (Ru m k L V ys i) 0)).isSome)&&vM m (cg (nu m k L V ys))&&(dM 1 (λj=>l8 (cg (nu m k L V ys)) m j) m (PV m V)).isSome&&(dM 1 (X6 m k L V ys) m (cg (nu m k L V ys))).isSome&&(List.range k).all (λi=>decide (0<(PW m k L V ys i).length))&&decide (0<(BL m k L V ys 0).length)
def iO {o:Option Rows}(h:o.isSome=true):o=some (oR o):=by cases o;cases h;rfl
def ic {f:Nat->R}(h:i<n):ap ((List.range n).map f) i=f i:=by unfold ap;simp[List.getD,h]
def Mi {a b:R}(h:(dE a b).isSome=true):dE a b=some (rN (dE a b),rD (dE a b)):=by
 cases e:dE a b with
 |none=>rw[e]at h;cases h
 |some q=>rfl
def DF {m:Nat}{L V:Rows}{ys:List R}(h:DD m k L V ys=true):
 Pn m k L V ys (PV m V) (vh m k L V) (FO m k L V) (sd m k L V) (X5 m k L V ys) (PW m k L V ys) (Ru m k L V ys) (nu m k L V ys) (qm m k L V ys) (X6 m k L V ys) (BL m k L V ys):=by
 unfold DD at h
 simp only[Bool.and_eq_true]at h
 obtain⟨⟨⟨⟨⟨⟨⟨⟨⟨⟨⟨⟨h1,h2⟩,h3⟩,h4⟩,W⟩,A1⟩,Af⟩,Am⟩,Ab⟩,Ao⟩,A2⟩,O⟩,A0⟩:=h
 have E:∀i,i<m->0<(Ru m k L V ys i).length/\(dE (ap ys i) (ap (Ru m k L V ys i) 0)).isSome=true:=λi hi=>by
  have:=List.all_eq_true.1 Am i (List.mem_range.2 hi)
  simpa only[Bool.and_eq_true,decide_eq_true_eq]using this
 exact⟨iO h1,iO h2,iO h3,iO h4,iO W,iO A1,iO Af,λi hi=>(E i hi).1,by simp[nu],λi hi=>by rw[nu,ic hi];exact Mi (E i hi).2,Ab,iO Ao,iO A2,
  λi hi=>by simpa using List.all_eq_true.1 O i (List.mem_range.2 hi),by simp[qm],λi hi=>by rw[qm,ic hi],by simpa using A0⟩
def Rv (ha:fits a=true)(hb:fits b=true)(h0:b≠0):qS (ae a) (ae b)=some (qR a b):=by
 unfold qS
 rw[bu ha,bu hb,Bool.and_self,if_pos Z,aG,aG,sW h0]
def FP (ha:-1000<=a/\a<=1000)(hb:-1000<=b/\b<=1000)(h0:b≠0):bM a b=qR a b:=by
 unfold bM;rw[Rv (iI ha) (iI hb) h0];rfl
def se:Rows:=λi=>(qk i).take 2
def sh:List R:=vI.take 2
def q6:qi k5 qk vI:=⟨by decide +kernel,by decide +kernel,by decide +kernel,by decide +kernel,by decide +kernel,by decide +kernel⟩
def Mj:qi k5 se sh:=⟨by decide +kernel,by decide +kernel,by decide +kernel,by decide +kernel,by decide +kernel,by decide +kernel⟩
def exE:DD 3 1 k5 qk vI=true:=by decide +kernel
def ZI:DD 2 1 k5 se sh=true:=by decide +kernel
def exX:qm 3 1 k5 qk vI=[bM 12 1]:=by decide +kernel
def ZJ:(sd 3 1 k5 qk 0).length=1/\ap (sd 3 1 k5 qk 0) 0=bM 1 3:=by decide +kernel
def exS:ap (BL 3 1 k5 qk vI 0) 0=qR 14 1:=by decide +kernel
def ZK:ap (BL 2 1 k5 se sh 0) 0=qR 1 2:=by decide +kernel
def ZL:qd k5 qk vI [0,1,2] k5 qk vI:=
 ⟨by decide +kernel,λj E=>by match j,E with|0,_=>decide|1,_=>decide,by decide,λi hi=>by match i,hi with|0,_=>rfl|1,_=>rfl|2,_=>rfl,by decide +kernel,by decide +kernel,rfl,by decide +kernel⟩
def X7:qd k5 qk vI [0,1] k5 se sh:=
 ⟨by decide +kernel,λj E=>by match j,E with|0,_=>decide,by decide,λi hi=>by match i,hi with|0,_=>rfl|1,_=>rfl,by decide +kernel,by decide +kernel,rfl,by decide +kernel⟩
section
variable {Y B:Option Addr}{CY CB:Nat}
def Bm (hD:eZ w A C Y CY B CB k5 qk vI)(ht:Tb w):
 CL 14 #[.agg #[.slice A 3 C,.slice Y 3 CY,.slice B 3 CB]] w (aH w λv w'=>∃u,v=.tuple #[u,.int .i64 0]/\mN w.heap.size w' u 1 [bM 12 1] (sd 3 1 k5 qk) (qR 14 1) 2):=by
 have h:=yD hD q6 (k:=1) Z (DF exE) ht
 rw[show qm vI.length 1 k5 qk vI=[bM 12 1]from exX,show ap (BL vI.length 1 k5 qk vI 0) 0=qR 14 1 from exS]at h
 exact h
def HF (hD:eZ w A C Y CY B CB k5 se sh)(ht:Tb w):
 CL 14 #[.agg #[.slice A 2 C,.slice Y 2 CY,.slice B 2 CB]] w (aH w λv w'=>∃u,v=.tuple #[u,.int .i64 0]/\mN w.heap.size w' u 1 (qm 2 1 k5 se sh) (sd 2 1 k5 se) (qR 1 2) 1):=by
 have h:=yD hD Mj (k:=1) Z (DF ZI) ht
 rw[show ap (BL sh.length 1 k5 se sh 0) 0=qR 1 2 from ZK]at h
 exact h
def Mk (hD:eZ w A C Y CY B CB k5 qk vI)(hR:Rw w lo5 kd (ints [0,1]))(ht:Tb w):
 CL 22 #[.agg #[.slice A 3 C,.slice Y 3 CY,.slice B 3 CB],.slice kd 2 CR] w (aH w λv w'=>∃u,v=.tuple #[u,.int .i64 0]/\∃A C Y CY B CB,u=.agg #[.slice A 2 C,.slice Y 2 CY,.slice B 2 CB]/\ia w.heap.size w' A C Y CY B CB k5 se sh):=
 yN hD q6 hR X7 Mj ht
def Ml (hD:eZ w A C Y CY B CB k5 qk vI)(hz:Rw w lo4 X (ag [bM 12 1]))(ht:Tb w):
 CL 24 #[.agg #[.slice A 3 C,.slice Y 3 CY,.slice B 3 CB],.slice X 1 CX] w (aH w λv w'=>∃u,v=.tuple #[u,.int .i64 0]/\AX w.heap.size w' u [bM (-2) 1,bM (-1) 1,bM 3 1]):=by
 exact Pp hD q6 (zs:=[bM 12 1]) (CX:=CX) hz (P:=oR (dM 3 k5 1 (cg [bM 12 1]))) (rs:=[bM (-2) 1,bM (-1) 1,bM 3 1]) MT (iO MT) MT Z MT ht
def Mm (hD:eZ w A C Y CY B CB k5 qk vI)(ht:Tb w):
 CL 32 #[.agg #[.slice A 3 C,.slice Y 3 CY,.slice B 3 CB]] w (aH w λv w'=>v=.bool true):=by
 obtain⟨⟨_,_,hM⟩,⟨_,hy⟩,⟨_,_,hV⟩,hc⟩:=hD
 exact iJ (ys:=vI) (L:=k5) (V:=qk) hM (fe q6.hv) hy hV (fe q6.hv3) hc q6.hv q6.hv3 q6.hVl q6.hLl q6.hyo q6.hp ht
def DG (hD:eZ w A C Y CY B CB k5 qk vI)(h12:pl<=12)(hC3:∀A C Y CY B CB W,eZ W A C Y CY B CB k5 qk vI->Tb W->CL 19 #[.agg #[.slice A 3 C,.slice Y 3 CY,.slice B 3 CB],.agg #[S (bM 1 20).1,S (bM 1 20).2],.int .i64 pl] W (aH W λv _=>v=.tuple #[.int .i64 2,.int .i64 0]))(hC2:∀A C Y CY B CB W,eZ W A C Y CY B CB k5 se sh->Tb W->CL 19 #[.agg #[.slice A 2 C,.slice Y 2 CY,.slice B 2 CB],.agg #[S (bM 1 20).1,S (bM 1 20).2],.int .i64 pl] W (aH W λv _=>v=.tuple #[.int .i64 1,.int .i64 0]))(ht:Tb w):
 CL 21 #[.agg #[.slice A 3 C,.slice Y 3 CY,.slice B 3 CB],.agg #[S (bM 1 20).1,S (bM 1 20).2],.int .i64 pl] w (aH w λv w'=>∃u,v=.tuple #[u,.int .i64 0]/\w'.ownsRow w.heap.size 3 1 u 2 (ints [0,1])):=by
 rw[FP dc dc dc]at hC3 hC2 ⊢
 exact Mb hD q6 Z ⟨by decide,by decide,by decide⟩ h12 dc dc ZL q6 X7 Mj hC3 hC2 ht
end
end
section
attribute [local irreducible] wpListIn Code.wpIn Oper.wpIn Exit.then Exit.inBlock Exit.noGoto
set_option maxHeartbeats 40000000
def PX {u:Value}{cs:List Value}{t:TypeId}(h:w.ownsRow lo t 1 u k cs):∃P cp,u=.slice P k cp/\pP w lo w.heap.size P cs:=⟨sA u,sC u,dr h,ab9 (ek h)⟩
structure lZ (hi:Nat)(w:World)(A:Option Addr)(C:Nat)(Y:Option Addr)(CY:Nat)(B:Option Addr)(CB:Nat)(L V:Rows)(ys:List R):Prop where
 m:∃H,oG w 0 hi A ys.length H L
 y:pP w 0 hi Y (ag ys)
 v:∃G,oG w 0 hi B ys.length G V
 c:ys.length<=CB
section
variable {hi:Nat}{w':World}{Y:Option Addr}{CY:Nat}{B:Option Addr}{CB:Nat}{L V:Rows}{ys:List R}
def lZ.ext (k:aN w w')(h:lZ hi w A C Y CY B CB L V ys):lZ hi w' A C Y CY B CB L V ys:=by
 obtain⟨⟨b,c⟩,e,⟨g,i⟩,j⟩:=h
 exact⟨⟨b,c.ext k⟩,e.ext k,⟨g,i.ext k⟩,j⟩
def ac6:=@lZ.ext
def lZ.put {x:Nat}(k:dP w w' x)(hx:x<0\/hi<=x)(h:lZ hi w A C Y CY B CB L V ys):lZ hi w' A C Y CY B CB L V ys:=by
 obtain⟨⟨b,c⟩,e,⟨g,i⟩,j⟩:=h
 exact⟨⟨b,c.put k hx⟩,e.put k hx,⟨g,i.put k hx⟩,j⟩
def lZ.of (h:ia lo w A C Y CY B CB L V ys):lZ w.heap.size w A C Y CY B CB L V ys:=by
 obtain⟨⟨b,c⟩,e,⟨g,i⟩,j⟩:=h
 exact⟨⟨b,ab6 (c.mono (qa7 _))⟩,ab9 (e.mono (qa7 _)),⟨g,ab6 (i.mono (qa7 _))⟩,j⟩
def lZ.des (h:lZ hi w A C Y CY B CB L V ys):eZ w A C Y CY B CB L V ys:=by
 obtain⟨⟨b,c⟩,e,⟨g,i⟩,j⟩:=h
 exact⟨⟨_,b,c.mt⟩,⟨_,e.rw⟩,⟨_,g,i.mt⟩,j⟩
end
set_option maxHeartbeats 4000000 in
set_option maxRecDepth 100000 in
def HG {a:Addr}(hE:Er w a)(hC3:∀A C Y CY B CB W,eZ W A C Y CY B CB k5 qk vI->Tb W->CL 19 #[.agg #[.slice A 3 C,.slice Y 3 CY,.slice B 3 CB],.agg #[S (bM 1 20).1,S (bM 1 20).2],.int .i64 6] W (aH W λv _=>v=.tuple #[.int .i64 2,.int .i64 0]))(hC2:∀A C Y CY B CB W,eZ W A C Y CY B CB k5 se sh->Tb W->CL 19 #[.agg #[.slice A 2 C,.slice Y 2 CY,.slice B 2 CB],.agg #[S (bM 1 20).1,S (bM 1 20).2],.int .i64 6] W (aH W λv _=>v=.tuple #[.int .i64 1,.int .i64 0]))(ht:Tb w):
 CL 9 #[] w (aH w λv w'=>v=.bool true):=by
 refine aC func9 Z (I ?_);refine cl Su DC ?_;rintro _ D1 d5 ⟨B0,nm,Az,Cr,C0,Ay,rfl,arr⟩;have E:=d5.2;have A0:=lZ.of arr;refine al dX (λ_ H3 T3=>?_);have A0:=ac6 H3.2 A0;have E:=xt E H3.2;refine aa (bo (b:=D1.heap.size) (o:=0) (vs:=[.slice B0 3 nm,.slice Az 3 Cr,.slice C0 3 Ay]) bm Z Z zl T3 (qa3 Z) (λ_ FR A1=>?_));have A0:=lZ.put FR U A0;have E:=bA FR E;have h0:=ij FR;refine I ?_;(try refine aa (aM (cs:=[.slice B0 3 nm,.slice Az 3 Cr,.slice C0 3 Ay]) (b:=D1.heap.size) (o:=0) dj Z bm Z (aa1 A1 (i:=0) Z) ?_));refine cl nT (Bm (A0).des (ht.ext E)) ?_;rintro _ W1 L4 ⟨fz,rfl,od,eb,et,an,ny,rfl,fx,a0,h5,Lj⟩;have A0:=ac6 L4.2 A0;have⟨A1,E⟩:=bw L4.2 A1 E;have Ab:=ab9 a0;have A2:=ab6 Lj;refine I ?_;refine al dw (λ_ E1 a5=>?_);have A0:=ac6 E1.2 A0;have A1:=be E1.2 A1;have Ab:=ab3 E1.2 Ab;have A2:=aa7 E1.2 A2;have E:=xt E E1.2;refine aa (bo (b:=W1.heap.size) (o:=0) (vs:=[.slice od 1 eb,.slice et 1 an,S (qR 14 1).1,S (qR 14 1).2,.int .i64 2]) df Z Z zl a5 (qa3 Z) (λ_ E0 Af=>?_))
 have A0:=lZ.put E0 U A0;have A1:=pb E0 A1;have Ab:=ac1 E0 U Ab;have A2:=ad0 E0 U A2;have E:=bA E0 E;have gW:=ij E0;refine I ?_;refine bP 8 ?_;refine aB (λ_ _ bd _=>by have A1:=be bd A1;(try refine aa (aM (cs:=[.slice B0 3 nm,.slice Az 3 Cr,.slice C0 3 Ay]) (b:=D1.heap.size) (o:=0) dj Z bm Z (aa1 A1 (i:=0) Z) ?_));refine I ?_;exact aK) ?_;refine a7 (V:=.agg #[S ((bM 1 20).1),S ((bM 1 20).2)]) (λ_ _ _ _=>?_) ?_;refine clb gp (hc:=dJ 1 20 U U) (hk:=?_);rintro _ _ cT rfl;refine I ?_;exact fs ⟨cT.2,rfl⟩;refine a7 (V:=.tuple #[.int .i64 2,.int .i64 0]) (λ_ _ Kp _=>?_) ?_;have A0:=ac6 Kp A0;refine cl xw (hC3 _ _ _ _ _ _ _ (A0).des (ht.ext (xt E Kp))) ?_;rintro _ _ fb rfl;refine I ?_;exact fs ⟨fb.2,rfl⟩;refine sf ?_;intro _ _ E6 _;have A0:=ac6 E6.2 A0;have A1:=be E6.2 A1;have Ab:=ab3 E6.2 Ab;have A2:=aa7 E6.2 A2;have⟨Af,E⟩:=bw E6.2 Af E;refine I ?_;refine bP 8 ?_;refine aB (λ_ _ e3 _=>by have A1:=be e3 A1;(try refine aa (aM (cs:=[.slice B0 3 nm,.slice Az 3 Cr,.slice C0 3 Ay]) (b:=D1.heap.size) (o:=0) dj Z bm Z (aa1 A1 (i:=0) Z) ?_));refine I ?_;exact aK) ?_;refine a7 (V:=.agg #[S ((bM 1 20).1),S ((bM 1 20).2)]) (λ_ _ _ _=>?_) ?_
 refine clb gp (hc:=dJ 1 20 U U) (hk:=?_);rintro _ _ Q0 rfl;refine I ?_;exact fs ⟨Q0.2,rfl⟩;refine b8 (fun(v:Value) (W:World)=>∃P O,v=Value.tuple #[Value.slice P 2 O,.int .i64 0]/\Rw W 0 P (ints [0,1])) (hs:=λ_ _ _ k h=>by obtain⟨P,O,e,r⟩:=h;exact⟨P,O,e,r.ext k⟩) (λ_ _ K3 _=>?_) ?_;have A0:=ac6 K3 A0;refine clb Sq (hc:=DG (A0).des dc hC3 hC2 (ht.ext (xt E K3))) (hk:=?_);rintro _ _ dL ⟨gn,rfl,eB⟩;obtain⟨_,_,rfl,e6⟩:=PX eB;refine I ?_;exact fs ⟨dL.2,⟨_,_,rfl,((e6).rw).mono (Nat.zero_le _)⟩⟩;refine b8 (fun(v:Value) (W:World)=>∃P O,v=Value.tuple #[Value.slice P 2 O,.int .i64 0]/\Rw W 0 P (ints [0,1])) (hs:=λ_ _ _ k h=>by obtain⟨P,O,e,r⟩:=h;exact⟨P,O,e,r.ext k⟩) (λfa X0 _ a6=>?_) ?_;have cw:∃P O,fa 32=Value.tuple #[Value.slice P 2 O,.int .i64 0]/\Rw X0 0 P (ints [0,1]):=(a6 2 32 Z Z);(with_reducible obtain⟨_,_,_,eC⟩:=cw);have Ne:=ab9 eC;refine I ?_;exact fs ⟨aa0 _,⟨_,_,rfl,((Ne).rw).mono (Nat.zero_le _)⟩⟩;refine b8 (fun(v:Value) (W:World)=>∃P O,v=Value.slice P 2 O/\Rw W 0 P (ints [0,1])) (hs:=λ_ _ _ k h=>by obtain⟨P,O,e,r⟩:=h;exact⟨P,O,e,r.ext k⟩) (λP1 eS _ e4=>?_) ?_;have WV:∃P O,P1 29=Value.tuple #[Value.slice P 2 O,.int .i64 0]/\Rw eS 0 P (ints [0,1]):=(e4 3 29 Z Z)
 (with_reducible obtain⟨fT,fG,cp,ej⟩:=WV);have a3:=ab9 ej;refine aa (cX (v:=.slice fT 2 fG) (by exact cp) Z ?_);refine I ?_;exact fs ⟨aa0 _,⟨_,_,rfl,((a3).rw).mono (Nat.zero_le _)⟩⟩;refine aB (λWa eW _ fX=>by have dC:∃P O,Wa 29=Value.tuple #[Value.slice P 2 O,.int .i64 0]/\Rw eW 0 P (ints [0,1]):=(fX 3 29 Z Z);(with_reducible obtain⟨_,_,ask,dq⟩:=dC);have ga:=ab9 dq;refine aa (cX (v:=.int .i64 0) (by exact ask) Z ?_);refine I ?_;exact aK) ?_;refine b8 (fun(v:Value) (W:World)=>∃P O,v=Value.slice P 2 O/\Rw W 0 P (ints [0,1])) (hs:=λ_ _ _ k h=>by obtain⟨P,O,e,r⟩:=h;exact⟨P,O,e,r.ext k⟩) (λP0 f0 _ cc=>?_) ?_;have eQ:∃P O,P0 33=Value.slice P 2 O/\Rw f0 0 P (ints [0,1]):=(cc 4 33 Z Z);(with_reducible obtain⟨_,_,_,d6⟩:=eQ);have ct:=ab9 d6;refine I ?_;exact fs ⟨aa0 _,⟨_,_,rfl,((ct).rw).mono (Nat.zero_le _)⟩⟩;refine sf ?_;intro W3 fu E5 W2;have A0:=ac6 E5.2 A0;have A1:=be E5.2 A1;have Ab:=ab3 E5.2 Ab;have A2:=aa7 E5.2 A2;have⟨Af,E⟩:=bw E5.2 Af E;have d1:∃P O,W3 6=Value.slice P 2 O/\Rw fu 0 P (ints [0,1]):=(W2 6 6 Z Z);(with_reducible obtain⟨_,_,_,c9⟩:=d1);have Am:=ab9 c9;refine I ?_
 (try refine aa (aM (cs:=[.slice B0 3 nm,.slice Az 3 Cr,.slice C0 3 Ay]) (b:=D1.heap.size) (o:=0) dj Z bm Z (aa1 A1 (i:=0) Z) ?_));refine Tt (λ_ D2 _ ac=>?_);have A0:=ac6 D2 A0;have A1:=be D2 A1;have Ab:=ab3 D2 Ab;have A2:=aa7 D2 A2;have Af:=be D2 Af;have Am:=ab3 D2 Am;have E:=xt E D2;refine cl Ca (Mk (A0).des (ab0 ac) (ht.ext E)) ?_;rintro _ H4 B1 ⟨g2,rfl,KC,L1,K2,Ix,KM,Li,rfl,cm⟩;have A0:=ac6 B1.2 A0;have A1:=be B1.2 A1;have Ab:=ab3 B1.2 Ab;have A2:=aa7 B1.2 A2;have Af:=be B1.2 Af;have Am:=ab3 B1.2 Am;have E:=xt E B1.2;have CG:=lZ.of cm;refine I ?_;refine al dX (λ_ Aw eq=>?_);have A0:=ac6 Aw.2 A0;have A1:=be Aw.2 A1;have Ab:=ab3 Aw.2 Ab;have A2:=aa7 Aw.2 A2;have Af:=be Aw.2 Af;have Am:=ab3 Aw.2 Am;have CG:=ac6 Aw.2 CG;have E:=xt E Aw.2;refine aa (bo (b:=H4.heap.size) (o:=0) (vs:=[.slice KC 2 L1,.slice K2 2 Ix,.slice KM 2 Li]) bm Z Z zl eq (qa3 Z) (λ_ As Ap=>?_));have A0:=lZ.put As U A0;have A1:=pb As A1;have Ab:=ac1 As U Ab;have A2:=ad0 As U A2;have Af:=pb As Af;have Am:=ac1 As U Am;have CG:=lZ.put As U CG;have E:=bA As E;have gr:=ij As
 refine I ?_;refine bP 8 ?_;refine aB (λ_ _ eX _=>by have Ap:=be eX Ap;(try refine aa (aM (cs:=[.slice KC 2 L1,.slice K2 2 Ix,.slice KM 2 Li]) (b:=H4.heap.size) (o:=0) dj Z bm Z (aa1 Ap (i:=0) Z) ?_));refine I ?_;exact aK) ?_;refine a7 (V:=.agg #[S ((bM 1 20).1),S ((bM 1 20).2)]) (λ_ _ _ _=>?_) ?_;refine clb gp (hc:=dJ 1 20 U U) (hk:=?_);rintro _ _ No rfl;refine I ?_;exact fs ⟨No.2,rfl⟩;refine a7 (V:=.tuple #[.int .i64 1,.int .i64 0]) (λ_ _ H2 _=>?_) ?_;have CG:=ac6 H2 CG;refine cl xw (hC2 _ _ _ _ _ _ _ (CG).des (ht.ext (xt E H2))) ?_;rintro _ _ eG rfl;refine I ?_;exact fs ⟨eG.2,rfl⟩;refine sf ?_;intro _ _ Ax _;have A0:=ac6 Ax.2 A0;have A1:=be Ax.2 A1;have Ab:=ab3 Ax.2 Ab;have A2:=aa7 Ax.2 A2;have Af:=be Ax.2 Af;have Am:=ab3 Ax.2 Am;have⟨Ap,E⟩:=bw Ax.2 Ap E;refine I ?_;refine bP 9 ?_;refine aB (λ_ _ W0 _=>by have A1:=be W0 A1;(try refine aa (aM (cs:=[.slice B0 3 nm,.slice Az 3 Cr,.slice C0 3 Ay]) (b:=D1.heap.size) (o:=0) dj Z bm Z (aa1 A1 (i:=0) Z) ?_));refine I ?_;exact aK) ?_;refine a7 (V:=.agg #[S ((bM 12 1).1),S ((bM 12 1).2)]) (λ_ _ _ _=>?_) ?_;refine clb gp (hc:=dJ 12 1 U U) (hk:=?_);rintro _ _ cv rfl;refine I ?_;exact fs ⟨cv.2,rfl⟩
 refine b8 (fun(v:Value) (W:World)=>∃P O,v=Value.slice P 1 O/\Rw W 0 P (ag [bM 12 1])) (hs:=λ_ _ _ k h=>by obtain⟨P,O,e,r⟩:=h;exact⟨P,O,e,r.ext k⟩) (λ_ L2 _ _=>?_) ?_;refine BS (λKY a8 _ bW=>?_);have a9:pP KY L2.heap.size KY.heap.size (some ⟨L2.heap.size,0,none⟩) (ag [bM 12 1]):=ab9 (ab0 bW);refine I ?_;exact fs ⟨a8,⟨_,_,rfl,((a9).rw).mono (Nat.zero_le _)⟩⟩;refine b8 (fun(v:Value) (W:World)=>∃P O,v=Value.tuple #[Value.slice P 3 O,.int .i64 0]/\Rw W 0 P (ag [bM (-2) 1,bM (-1) 1,bM 3 1])) (hs:=λ_ _ _ k h=>by obtain⟨P,O,e,r⟩:=h;exact⟨P,O,e,r.ext k⟩) (λer ea L3 VW=>?_) ?_;have A0:=ac6 L3 A0;have fS:∃P O,er 50=Value.slice P 1 O/\Rw ea 0 P (ag [bM 12 1]):=(VW 2 50 Z Z);(with_reducible obtain⟨_,_,f9,bY⟩:=fS);have fc:=ab9 bY;refine cl Sr (Ml (A0).des (fc).rw (ht.ext (xt E L3))) ?_ (aw Z (aw (by exact f9) Z));rintro _ _ bp ⟨g0,rfl,gb,gs,rfl,gv,ch⟩;have dd:=ab9 ch;refine I ?_;exact fs ⟨bp.2,⟨_,_,rfl,((dd).rw).mono (Nat.zero_le _)⟩⟩;refine b8 (fun(v:Value) (W:World)=>∃P O,v=Value.tuple #[Value.slice P 3 O,.int .i64 0]/\Rw W 0 P (ag [bM (-2) 1,bM (-1) 1,bM 3 1])) (hs:=λ_ _ _ k h=>by obtain⟨P,O,e,r⟩:=h;exact⟨P,O,e,r.ext k⟩) (λX2 d4 _ cy=>?_) ?_
 have Rm:∃P O,X2 51=Value.tuple #[Value.slice P 3 O,.int .i64 0]/\Rw d4 0 P (ag [bM (-2) 1,bM (-1) 1,bM 3 1]):=(cy 3 51 Z Z);(with_reducible obtain⟨_,_,_,a4⟩:=Rm);have b0:=ab9 a4;refine I ?_;exact fs ⟨aa0 _,⟨_,_,rfl,((b0).rw).mono (Nat.zero_le _)⟩⟩;refine b8 (fun(v:Value) (W:World)=>∃P O,v=Value.slice P 3 O/\Rw W 0 P (ag [bM (-2) 1,bM (-1) 1,bM 3 1])) (hs:=λ_ _ _ k h=>by obtain⟨P,O,e,r⟩:=h;exact⟨P,O,e,r.ext k⟩) (λeD ad _ bv=>?_) ?_;have co:∃P O,eD 47=Value.tuple #[Value.slice P 3 O,.int .i64 0]/\Rw ad 0 P (ag [bM (-2) 1,bM (-1) 1,bM 3 1]):=(bv 4 47 Z Z);(with_reducible obtain⟨N0,Vm,fN,f3⟩:=co);have fP:=ab9 f3;refine aa (cX (v:=.slice N0 3 Vm) (by exact fN) Z ?_);refine I ?_;exact fs ⟨aa0 _,⟨_,_,rfl,((fP).rw).mono (Nat.zero_le _)⟩⟩;refine aB (λbq fR _ f4=>by have cV:∃P O,bq 47=Value.tuple #[Value.slice P 3 O,.int .i64 0]/\Rw fR 0 P (ag [bM (-2) 1,bM (-1) 1,bM 3 1]):=(f4 4 47 Z Z);(with_reducible obtain⟨_,_,fW,at2⟩:=cV);have g1:=ab9 at2;refine aa (cX (v:=.int .i64 0) (by exact fW) Z ?_);refine I ?_;exact aK) ?_
 refine b8 (fun(v:Value) (W:World)=>∃P O,v=Value.slice P 3 O/\Rw W 0 P (ag [bM (-2) 1,bM (-1) 1,bM 3 1])) (hs:=λ_ _ _ k h=>by obtain⟨P,O,e,r⟩:=h;exact⟨P,O,e,r.ext k⟩) (λat3 at4 _ P2=>?_) ?_;have d0:∃P O,at3 52=Value.slice P 3 O/\Rw at4 0 P (ag [bM (-2) 1,bM (-1) 1,bM 3 1]):=(P2 5 52 Z Z);(with_reducible obtain⟨_,_,_,T2⟩:=d0);have ce:=ab9 T2;refine I ?_;exact fs ⟨aa0 _,⟨_,_,rfl,((ce).rw).mono (Nat.zero_le _)⟩⟩;refine sf ?_;intro eP e5 B2 a2;have A0:=ac6 B2.2 A0;have A1:=be B2.2 A1;have Ab:=ab3 B2.2 Ab;have A2:=aa7 B2.2 A2;have Af:=be B2.2 Af;have Am:=ab3 B2.2 Am;have⟨Ap,E⟩:=bw B2.2 Ap E;have S0:∃P O,eP 12=Value.slice P 3 O/\Rw e5 0 P (ag [bM (-2) 1,bM (-1) 1,bM 3 1]):=(a2 7 12 Z Z);(with_reducible obtain⟨_,_,_,fD⟩:=S0);have Ao:=ab9 fD;refine I ?_;refine cl nT (Ly (Er.ext E hE) (ht.ext E)) ?_;rintro _ ft Aq rfl;have A0:=ac6 Aq.2 A0;have A1:=be Aq.2 A1;have Ab:=ab3 Aq.2 Ab;have A2:=aa7 Aq.2 A2;have Af:=be Aq.2 Af;have Am:=ab3 Aq.2 Am;have Ap:=be Aq.2 Ap;have Ao:=ab3 Aq.2 Ao;have E:=xt E Aq.2;refine I ?_;refine al dw (λ_ Av V0=>?_);have A0:=ac6 Av.2 A0;have A1:=be Av.2 A1;have Ab:=ab3 Av.2 Ab;have A2:=aa7 Av.2 A2;have Af:=be Av.2 Af;have Am:=ab3 Av.2 Am
 have Ap:=be Av.2 Ap;have Ao:=ab3 Av.2 Ao;have E:=xt E Av.2;refine aa (bo (b:=ft.heap.size) (o:=0) (vs:=[.slice none 0 0,.slice none 0 0,S [],S [],.int .i64 0]) df Z Z zl V0 (qa3 Z) (λ_ Ar _=>?_));have A0:=lZ.put Ar U A0;have A1:=pb Ar A1;have Ab:=ac1 Ar U Ab;have A2:=ad0 Ar U A2;have Af:=pb Ar Af;have Am:=ac1 Ar U Am;have Ap:=pb Ar Ap;have Ao:=ac1 Ar U Ao;have E:=bA Ar E;have Lk:=aa6 (A2).mt (i:=0) U;refine I ?_;refine eI Lk ?_ (i:=0);refine I ?_;refine bP 31 ?_;refine sf ?_;refine aB (λ_ _ fC _=>by have Ab:=ab3 fC Ab;have cz:=aV (Ab).rw (k:=0) (show 0<1 by decide);refine I ?_;refine jv cz ?_ (i:=0) (hlt:=(show 0<1 by decide));refine I ?_;exact aK) ?_;refine aB (λ_ _ fB _=>by have Ab:=ab3 fB Ab;have g3:=aV (Ab).rw (k:=0) (show 0<1 by decide);refine I ?_;exact aK) ?_;refine a7 (V:=.agg #[S ((bM 12 1).1),S ((bM 12 1).2)]) (λ_ _ _ _=>?_) ?_;refine clb gp (hc:=dJ 12 1 U U) (hk:=?_);rintro _ _ cr rfl;refine I ?_;exact fs ⟨cr.2,rfl⟩;refine aB (λ_ _ _ _=>by refine aa (yf (a:=ap [bM 12 1] 0) (b:=bM 12 1) (q:=decide ((ap [bM 12 1] 0)=(bM 12 1))) Z Z Z ?_);refine I ?_;exact aK) ?_;refine sf ?_
 refine aB (λ_ _ cb _=>by have A2:=aa7 cb A2;have d3:=aa6 (A2).mt (i:=0) U;refine I ?_;refine eI d3 ?_ (i:=0);refine I ?_;exact aK) ?_;refine aB (λ_ _ fQ _=>by have A2:=aa7 fQ A2;have fy:=aa6 (A2).mt (i:=0) U;refine I ?_;exact aK) ?_;refine aB (λ_ _ eg _=>by have A2:=aa7 eg A2;have cx:=ac5 (A2).mt (i:=0) (k:=0) U (show 0<(sd 3 1 k5 qk 0).length by rw[ZJ.1];decide);refine I ?_;refine jv cx ?_ (i:=0) (hlt:=(show 0<(sd 3 1 k5 qk 0).length by rw[ZJ.1];decide));refine I ?_;exact aK) ?_;refine aB (λ_ _ bb _=>by have A2:=aa7 bb A2;have g4:=ac5 (A2).mt (i:=0) (k:=0) U (show 0<(sd 3 1 k5 qk 0).length by rw[ZJ.1];decide);refine I ?_;exact aK) ?_;refine a7 (V:=.agg #[S ((bM 1 3).1),S ((bM 1 3).2)]) (λ_ _ _ _=>?_) ?_;refine I ?_;refine clb gp (hc:=dJ 1 3 U U) (hk:=?_);rintro _ _ cf rfl;refine I ?_;exact fs ⟨cf.2,rfl⟩;refine aB (λ_ _ _ _=>by refine I ?_;refine aa (yf (a:=ap ((sd 3 1 k5 qk) 0) 0) (b:=bM 1 3) (q:=decide ((ap ((sd 3 1 k5 qk) 0) 0)=(bM 1 3))) Z Z Z ?_);refine I ?_;exact aK) ?_;refine sf ?_;refine a7 (V:=.agg #[S ((bM 14 1).1),S ((bM 14 1).2)]) (λ_ _ _ _=>?_) ?_;refine I ?_;refine clb gp (hc:=dJ 14 1 U U) (hk:=?_);rintro _ _ bZ rfl;refine I ?_
 exact fs ⟨bZ.2,rfl⟩;refine aB (λ_ _ _ _=>by refine I ?_;refine aa (yf (a:=qR 14 1) (b:=bM 14 1) (q:=decide ((qR 14 1)=(bM 14 1))) Z Z Z ?_);refine I ?_;exact aK) ?_;refine sf ?_;intro _ _ E4 _;have A0:=ac6 E4.2 A0;have A1:=be E4.2 A1;have Am:=ab3 E4.2 Am;have Ao:=ab3 E4.2 Ao;have E:=xt E E4.2;have fl:=pQ (Am).rw (i:=0) (show 0<2 by decide);refine I ?_;refine eI fl ?_ (i:=0) (hlt:=(show 0<2 by decide));have cq:=pQ (Am).rw (i:=1) (show 1<2 by decide);refine I ?_;refine eI cq ?_ (i:=1) (hlt:=(show 1<2 by decide));refine I ?_;refine clb gp (hc:=dJ (-2) 1 U U) (hk:=?_);rintro _ _ E9 rfl;have A0:=ac6 E9.2 A0;have A1:=be E9.2 A1;have Ao:=ab3 E9.2 Ao;have E:=xt E E9.2;refine I ?_;refine clb gp (hc:=dJ (-1) 1 U U) (hk:=?_);rintro _ _ ES rfl;have A0:=ac6 ES.2 A0;have A1:=be ES.2 A1;have Ao:=ab3 ES.2 Ao;have E:=xt E ES.2;refine I ?_;refine clb gp (hc:=dJ 3 1 U U) (hk:=?_);rintro _ G0 EW rfl;have A0:=ac6 EW.2 A0;have A1:=be EW.2 A1;have Ao:=ab3 EW.2 Ao;have E:=xt E EW.2;refine I ?_
 refine aa (cM (vs:=[(0,.agg #[S ((bM (-2) 1).1),S ((bM (-2) 1).2)]),(1,.agg #[S ((bM (-1) 1).1),S ((bM (-1) 1).2)]),(2,.agg #[S ((bM 3 1).1),S ((bM 3 1).2)])]) (cells:=#[S ((bM (-2) 1).1),S ((bM (-2) 1).2),S ((bM (-1) 1).1),S ((bM (-1) 1).2),S ((bM 3 1).1),S ((bM 3 1).2)]) te aZ Z dc dc q0 Z dc (λGC E7 _ ed=>?_));have A0:=ac6 E7 A0;have A1:=be E7 A1;have Ao:=ab3 E7 Ao;have E:=xt E E7;have fi:pP GC G0.heap.size GC.heap.size (some ⟨G0.heap.size,0,none⟩) (ag [bM (-2) 1,bM (-1) 1,bM 3 1]):=ab9 (ab0 ed);refine I ?_;refine clb Nh (hc:=wT (xs:=[bM (-2) 1,bM (-1) 1,bM 3 1]) (Ao).rw (fi).rw dc) (hk:=?_);rintro _ _ La rfl;have A0:=ac6 La.2 A0;have⟨A1,E⟩:=bw La.2 A1 E;refine I ?_;(try refine aa (aM (cs:=[.slice B0 3 nm,.slice Az 3 Cr,.slice C0 3 Ay]) (b:=D1.heap.size) (o:=0) dj Z bm Z (aa1 A1 (i:=0) Z) ?_));refine I ?_;refine cl lg (Mm (A0).des (ht.ext E)) ?_;rintro _ _ wr rfl;have E:=xt E wr.2;refine I ?_;refine cl lg (uZ (ht.ext E)) ?_;rintro _ _ S9 rfl;have E:=xt E S9.2;refine I ?_;exact am (t:=0) (v:=.bool true) Z E Z Z
end
section
section
variable {Y B:Option Addr}{CY CB m:Nat}{L V:Rows}{ys:List R}
def FQ (hD:eZ w A C Y CY B CB L V ys)(ok:qi L V ys)(hm:ys.length=m)(hk:(L 0).length=k)(h:DD m k L V ys=true)(ht:Tb w):
 CL 14 #[.agg #[.slice A m C,.slice Y m CY,.slice B m CB]] w (aH w λv w'=>∃u,v=.tuple #[u,.int .i64 0]/\mN w.heap.size w' u k (qm m k L V ys) (sd m k L V) (ap (BL m k L V ys 0) 0) (((m:Nat):Int)-(k:Int))):=by
 subst hm
 exact yD hD ok hk (DF h) ht
def FT (hD:eZ w A C Y CY B CB L V ys)(ok:qi L V ys)(hm:ys.length=m){a:Addr}(hk:(L 0).length=k)(hE:Er w a)(eW:eY m V=some (PV m V))(eB:dM k (λj=>l8 L m j) m (PV m V)=some (vh m k L V))(eG:dM k (vh m k L V) m L=some (FO m k L V))(eC:eY k (FO m k L V)=none)(ht:Tb w):
 CL 14 #[.agg #[.slice A m C,.slice Y m CY,.slice B m CB]] w (aH w λv w'=>v=.tuple #[.agg #[.slice none 0 0,.slice none 0 0,S [],S [],.int .i64 0],.int .i64 140]):=by
 subst hm
 exact Lx hD ok hk hE eW eB eG eC ht
end
end
end Go.Proofs.YtlmihmlnpjkblaaGreatDoor
namespace La
variable {i n cols j:Nat}{p:Nat->Nat}{f:Rat}
inductive RO (n m:Nat) (A:Mx):Mx->Rat->Prop
 |refl:RO n m A A 1
 |eq {B B':Mx} {f:Rat}:RO n m A B f->jg n m B B'->RO n m A B' f
 |swap {B:Mx} {f:Rat} {p r:Nat}:RO n m A B f->p<n->r<n->p≠r->RO n m A (λi j=>B (sx p r i) j) (- f)
 |scale {B:Mx} {f c:Rat} {r:Nat}:RO n m A B f->r<n->c≠0->RO n m A (ur B r (λj=>B r j/c)) (f*c)
 |add {B:Mx} {f c:Rat} {i r:Nat}:RO n m A B f->i<n->r<n->i≠r->RO n m A (ur B i (λj=>B i j+c*B r j)) f
def Mn {p r:Nat}(hp:p<n)(hr:r<n)(hi:i<n):sx p r i<n:=by unfold sx;split <;>(try split) <;>omega
def X8 (p r i:Nat):sx p r (sx p r i)=i:=by unfold sx;grind
def RO.ne {m:Nat}{A B:Mx}(h:RO n m A B f):f≠0:=by
 induction h with
 |refl=>simp
 |eq _ _ ih=>exact ih
 |swap _ _ _ _ ih=>grind
 |scale _ _ hc ih=>intro e;rcases Rat.mul_eq_zero.1 e with e|e <;>contradiction
 |add _ _ _ _ ih=>exact ih
def RO.ker {m:Nat}{A B:Mx}(h:RO n m A B f)(x:Nat->Rat):(∀i,i<n->sm m (λj=>A i j*x j)=0)↔(∀i,i<n->sm m (λj=>B i j*x j)=0):=by
 induction h with
 |refl=>exact Iff.rfl
 | eq _ he ih=>
   rw[ih]
   exact⟨λh i hi=>by rw[<-h i hi];exact ao λj E=>by rw[he i hi j E],λh i hi=>by rw[<-h i hi];exact ao λj E=>by rw[he i hi j E]⟩
 | swap _ hp hr _ ih=>
   rw[ih]
   exact⟨λh i hi=>h _ (Mn hp hr hi),λh i hi=>by have:=h _ (Mn hp hr hi);simp only[X8]at this;exact this⟩
 | @scale B f c r _ hr hc ih=>
   rw[ih]
   have key:sm m (λj=>ur B r (λj=>B r j/c) r j*x j)=(1/c)*sm m (λj=>B r j*x j):=by
    rw[<-dv];exact ao λj _=>by unfold ur;rw[if_pos Z];grind
   refine⟨λh i hi=>?_,λh i hi=>?_⟩
   · by_cases e:i=r
     · subst e;rw[key,h i hi];grind
     · rw[<-h i hi];exact ao λj _=>by unfold ur;rw[if_neg e]
   · by_cases e:i=r
     · subst e;have:=h i hi;rw[key]at this;grind
     · rw[<-h i hi];exact ao λj _=>by unfold ur;rw[if_neg e]
 | @add B f c i r _ hi hr hne ih=>
   rw[ih]
   have key:sm m (λj=>ur B i (λj=>B i j+c*B r j) i j*x j)=sm m (λj=>B i j*x j)+c*sm m (λj=>B r j*x j):=by
    rw[<-dv,<-iH];exact ao λj _=>by unfold ur;rw[if_pos Z];grind
   have O:∀k,k≠i->sm m (λj=>ur B i (λj=>B i j+c*B r j) k j*x j)=sm m (λj=>B k j*x j):=λk hk=>ao λj _=>by unfold ur;rw[if_neg hk]
   refine⟨λh k hk=>?_,λh k hk=>?_⟩
   · by_cases e:k=i
     · subst e;rw[key,h k hk,h r hr];grind
     · rw[O k e];exact h k hk
   · by_cases e:k=i
     · subst e
       have h1:=h k hk
       have h2:=h r hr
       rw[key]at h1;rw[O r (λe=>hne e.symm)]at h2;rw[h2]at h1;grind
     · rw[<-O k e];exact h k hk
def Bn (k:Nat)(B X:Mx)(p r:Nat):mul k (λi j=>B (sx p r i) j) X=λi j=>mul k B X (sx p r i) j:=rfl
def Mo (k:Nat)(B X:Mx)(r:Nat)(u:Nat->Rat):mul k (ur B r u) X=ur (mul k B X) r (λj=>sm k (λl=>u l*X l j)):=by
 funext i j;unfold mul ur
 by_cases e:i=r
 · simp only[if_pos e]
 · simp only[if_neg e]
def xd (k:Nat)(B X:Mx)(r:Nat)(c:Rat):mul k (ur B r (λj=>B r j/c)) X=ur (mul k B X) r (λj=>mul k B X r j/c):=by
 rw[Mo];congr 1;funext j
 unfold mul
 rw[show sm k (λl=>B r l*X l j)/c=(1/c)*sm k (λl=>B r l*X l j)by grind,<-dv]
 exact ao λl _=>by grind
def mul_add (k:Nat)(B X:Mx)(i r:Nat)(c:Rat):mul k (ur B i (λj=>B i j+c*B r j)) X=ur (mul k B X) i (λj=>mul k B X i j+c*mul k B X r j):=by
 rw[Mo];congr 1;funext j
 unfold mul
 rw[<-dv,<-iH]
 exact ao λl _=>by grind
def RO.mat {m:Nat}{A B:Mx}(h:RO n m A B f):∃E:Mx,jg n m B (mul n E A):=by
 induction h with
 |refl=>exact⟨one,λi hi j _=>(one_mul hi).symm⟩
 |eq _ he ih=>obtain⟨E,h⟩:=ih;exact⟨E,λi hi j O=>by rw[<-he i hi j O,h i hi j O]⟩
 | @swap B f p r _ hp hr _ ih=>obtain⟨E,h⟩:=ih;exact⟨λi j=>E (sx p r i) j,λi hi j O=>by rw[Bn];exact h _ (Mn hp hr hi) j O⟩
 | @scale B f c r _ hr hc ih=>
   obtain⟨E,h⟩:=ih
   refine⟨ur E r (λj=>E r j/c),λi hi j O=>?_⟩
   rw[xd];unfold ur
   split
   · show B r j/c=mul n E A r j/c
     rw[h r hr j O]
   · exact h i hi j O
 | @add B f c i r _ hi hr hne ih=>
   obtain⟨E,h⟩:=ih
   refine⟨ur E i (λj=>E i j+c*E r j),λk hk j O=>?_⟩
   rw[mul_add];unfold ur
   split
   · show B i j+c*B r j=mul n E A i j+c*mul n E A r j
     rw[h i hi j O,h r hr j O]
   · exact h k hk j O
def RO.det {m:Nat}{A B:Mx}(h:RO n m A B f)(hn:n<=m)(X:Mx):det n (mul n A X)=f*La.det n (mul n B X):=by
 induction h with
 |refl=>grind
 |eq _ he ih=>rw[ih];congr 1;exact fk λi hi j _=>eF (λl _=>he i hi l J) (λ_ _=>rfl)
 |swap _ hp hr hne ih=>rw[ih,Bn,AU hp hr hne];grind
 | @scale B f c r _ hr hc ih=>
   rw[ih,xd,show(λj=>mul n B X r j/c)=λj=>(1/c)*mul n B X r j by funext j;grind,wR _ _ hr,sT];grind
 |add _ hi hr hne ih=>rw[ih,mul_add,Dt _ hi hr hne]
structure RF (n cols r:Nat)(p:Nat->Nat)(B:Mx):Prop where
 rn:r<=n
 inc:∀a b,a<b->b<r->p a<p b
 lt:∀a,a<r->p a<cols
 unit:∀i,i<n->∀l,l<r->B i (p l)=if i=l then 1 else 0
 zero:∀i,r<=i->i<n->∀j,j<cols->B i j=0
def PY {m r:Nat}(hp:∀l,l<r->p l<m)(a c:Nat->Rat):
 sm m (λt=>a t*sm r (λl=>if t=p l then c l else 0))=sm r (λl=>a (p l)*c l):=by
 rw[ao (g:=λt=>sm r (λl=>a t*(if t=p l then c l else 0))) (λt _=>by rw[dv]),jB]
 refine ao λl hl=>?_
 rw[g8 (hp l hl) (λt _ ht=>by rw[if_neg ht];grind),if_pos Z]
def RF.comb {m r:Nat}{A B:Mx}(hr:RO n m A B f)(h:RF n cols r p B)(hc:cols<=m)(hi:i<n)(hj:j<m)(hz:∀k,r<=k->k<n->B k j=0):
 A i j=sm r (λl=>A i (p l)*B l j):=by
 let x:Nat->Rat:=λt=>(if t=j then 1 else 0)-sm r (λl=>if t=p l then B l j else 0)
 have hx:∀D:Mx,∀i,sm m (λt=>D i t*x t)=D i j-sm r (λl=>D i (p l)*B l j):=by
  intro D i
  rw[<-PY (m:=m) (λl hl=>Nat.lt_of_lt_of_le (h.lt l hl) hc) (D i) (λl=>B l j)]
  rw[ao (g:=λt=>D i t*(if t=j then 1 else 0)-D i t*sm r (λl=>if t=p l then B l j else 0)) (λt _=>by show D i t*(_-_)=_;grind),lM]
  rw[g8 (k:=j) hj (λt _ ht=>by rw[if_neg ht];grind),if_pos Z];grind
 have h1:=(hr.ker x).2 (λk hk=>by
  rw[hx B k]
  by_cases e:k<r
  · rw[g8 e (λl hl E=>by rw[h.unit k hk l hl,if_neg (λe=>E e.symm)];grind),h.unit k hk k e,if_pos Z];grind
  · rw[hz k J hk,dN (λl hl=>by rw[h.unit k hk l hl,if_neg J];grind)];grind) i hi
 rw[hx A i]at h1
 grind
def RF.rank {m r:Nat}{A B:Mx}(hr:RO n m A B f)(h:RF n cols r p B)(hc:cols<=m):Rk n cols r A:=by
 obtain⟨E,hE⟩:=hr.mat
 refine⟨λi l=>A i (p l),B,E,λj l=>if j=p l then 1 else 0,⟨λi hi j O=>?_,λi hi j O=>?_,λi hi j O=>?_⟩⟩
 · exact h.comb hr hc hi J (λk h1 h2=>h.zero k h1 h2 j O)
 · have:=hE i kb5 (p j) (qb1 (h.lt j O) hc)
   rw[h.unit i kb5 j O]at this
   exact this.symm
 · show sm cols (λt=>B i t*(if t=p j then 1 else 0))=_
   rw[g8 (h.lt j O) (λt _ ht=>by rw[if_neg ht];grind),if_pos Z,h.unit i kb5 j O]
   unfold one;grind
def RF.full {B:Mx}(h:RF n n n p B):jg n n B one:=by
 have h1:∀l,l<n->l<=p l:=by
  intro l
  induction l with
  |zero=>intro _;omega
  |succ l ih=>intro hl;have:=ih J;have:=h.inc l (l+1) J hl;omega
 have h2:∀d l,l+d+1=n->p l<=l:=by
  intro d
  induction d with
  |zero=>intro l hl;have:=h.lt l J;omega
  |succ d ih=>intro l hl;have:=ih (l+1) J;have:=h.inc l (l+1) J J;omega
 intro i hi j E
 have:=h.unit i hi j E
 rw[show p j=j from Nat.le_antisymm (h2 (n-j-1) j J) (h1 j E)]at this
 exact this
def RF.det_full {m:Nat}{A B:Mx}(hr:RO n m A B f)(h:RF n n n p B)(hn:n<=m)(X:Mx):det n (mul n A X)=f*det n X:=by
 rw[hr.det hn];congr 1;exact fk λi hi j _=>by rw[eF (A':=one) (B':=X) (λl hl=>h.full i hi l hl) (λ_ _=>rfl),one_mul hi]
def RF.det_less {m r:Nat}{A B:Mx}(hr:RO n m A B f)(h:RF n n r p B)(hn:n<=m)(hlt:r<n)(X:Mx):det n (mul n A X)=0:=by
 rw[hr.det hn,AT (k:=n-1) J (λj _=>dN λl hl=>by rw[h.zero (n-1) J J l hl];grind)];grind
def ks (n:Nat)(A:Mx):det n (mul n A one)=det n A:=fk λ_ _ _ E=>mul_one E
def RF.det_mul {m r:Nat}{A B:Mx}(hr:RO n m A B f)(h:RF n n r p B)(hn:n<=m)(X:Mx):det n (mul n A X)=det n A*det n X:=by
 by_cases e:r=n
 · subst e
   rw[h.det_full hr hn,<-ks r A,h.det_full hr hn,yB];grind
 · have:=h.rn
   rw[h.det_less hr hn J,<-ks n A,h.det_less hr hn J];grind
def RF.det_iff {m r:Nat}{A B:Mx}(hr:RO n m A B f)(h:RF n n r p B)(hn:n<=m):(r=n->det n A=f)/\(r<n->det n A=0):=
 ⟨λe=>by subst e;rw[<-ks,h.det_full hr hn,yB];grind,λe=>by rw[<-ks,h.det_less hr hn e]⟩
end La
namespace Go.Proofs.YtlmihmlnpjkblaaGreatDoor
open Go Go.Eng Go.RowKit La Proofs.Tryz
def Q (L:Rows):Mx:=λi j=>qv (ap (L i) j)
def RO.clear {n m:Nat}{A B:Mx}{f:Rat}{r c:Nat}(h:RO n m A B f)(hr:r<n):∀k,k<=n->RO n m A (λi j=>if i=r then B i j else if i<k then B i j-B i c*B r j else B i j) f
 |0,_=>h.eq λi _ j _=>by simp
 | k + 1,hk=>by
   have ih:=RO.clear (c:=c) h hr k J
   by_cases e:k=r
   · refine ih.eq λi _ j _=>?_
     by_cases h1:i=r
     · simp[h1]
     · simp only[if_neg h1,show(i<k+1)=(i<k)from propext ⟨λ_=>by omega,λ_=>by omega⟩]
   · refine(ih.add (c:= -B k c) (i:=k) (r:=r) J hr e).eq λi _ j _=>?_
     unfold ur
     by_cases h1:i=k
     · subst h1
       simp only[if_neg e,Nat.lt_irrefl,if_false,show i<i+1 from Nat.lt_succ_self i,if_true];grind
     · rw[if_neg h1]
       by_cases h2:i=r
       · simp[h2]
       · simp only[if_neg h2,show(i<k+1)=(i<k)from propext ⟨λ_=>by omega,λ_=>by omega⟩]
section steps
variable {n m r i c:Nat}
def FU (hr:r<n)(pv:R)(y:Rat):∀(f k:Nat) (L:Rows),k+f=m->gk n m L->(∀j,k<=j->j<m->∃q,mF (ap (L r) j) pv=some q/\bN q=true/\qv q=qv (ap (L r) j)/y)->
 ∃L2,mH r pv f k L=some L2/\gk n m L2/\(∀i,i≠r->L2 i=L i)/\(∀j,j<k->ap (L2 r) j=ap (L r) j)/\∀j,k<=j->j<m->qv (ap (L2 r) j)=qv (ap (L r) j)/y
 |0,k,L,_,hok,_=>⟨L,rfl,hok,λ_ _=>rfl,λ_ _=>rfl,λj h1 h2=>by omega⟩
 | f +1,k,L,hk,hok,h=>by
   obtain⟨q,h1,h2,h3⟩:=h k (qa0 _) J
   have hl:k<(L r).length:=by rw[(hok r hr).1];omega
   have E:∀j,ap ((L r).set k q) j=if j=k then q else ap (L r) j:=λj=>lE hl
   obtain⟨L2,e,A0,o1,O,A1⟩:=FU hr pv y f (k+1) (bD L r ((L r).set k q)) J (hok.set J hr h2) (λj h1 h2=>by
    rw[aX,E,if_neg J];exact h j J h2)
   refine⟨L2,by rw[mH,h1];exact e,A0,λi hi=>by rw[o1 i hi,bc _ _ hi],λj _=>by rw[O j J,aX,E,if_neg J],λj _ W=>?_⟩
   by_cases e2:j=k
   · subst e2;rw[O j J,aX,E,if_pos Z,h3]
   · rw[A1 j J W,aX,E,if_neg e2]
def FV (hi:i<n)(hne:i≠r)(by_:R)(y:Rat):∀(f k:Nat) (L:Rows),k+f=m->gk n m L->
 (∀j,k<=j->j<m->∃p,gj by_ (ap (L r) j)=some p/\∃d,dE (ap (L i) j) p=some d/\bN d=true/\qv d=qv (ap (L i) j)-y*qv (ap (L r) j))->
 ∃L2,lW r i by_ f k L=some L2/\gk n m L2/\(∀i',i'≠i->L2 i'=L i')/\(∀j,j<k->ap (L2 i) j=ap (L i) j)/\∀j,k<=j->j<m->qv (ap (L2 i) j)=qv (ap (L i) j)-y*qv (ap (L r) j)
 |0,k,L,_,hok,_=>⟨L,rfl,hok,λ_ _=>rfl,λ_ _=>rfl,λj h1 h2=>by omega⟩
 | f +1,k,L,hk,hok,h=>by
   obtain⟨p,h0,q,h1,h2,h3⟩:=h k (qa0 _) J
   have hl:k<(L i).length:=by rw[(hok i hi).1];omega
   have E:∀j,ap ((L i).set k q) j=if j=k then q else ap (L i) j:=λj=>lE hl
   obtain⟨L2,e,A0,o1,O,A1⟩:=FV hi hne by_ y f (k+1) (bD L i ((L i).set k q)) J (hok.set J hi h2) (λj h1 h2=>by
    rw[aX,bc _ _ (λe=>hne e.symm),E,if_neg J];exact h j J h2)
   refine⟨L2,by rw[lW,h0];show(match dE (ap (L i) k) p with|none=>none|some d=>_)=_;rw[h1];exact e,A0,λi' hi=>by rw[o1 i' hi,bc _ _ hi],λj _=>by rw[O j J,aX,E,if_neg J],λj _ W=>?_⟩
   by_cases e2:j=k
   · subst e2;rw[O j J,aX,E,if_pos Z,h3]
   · rw[A1 j J W,aX,E,if_neg e2,bc _ _ (λe=>hne e.symm)]
def yR (hc:c<m):∀(f k:Nat) (L:Rows),k+f=n->gk n m L->
 (∀i,k<=i->i<n->i≠r->∀j,c<=j->j<m->∃p,gj (ap (L i) c) (ap (L r) j)=some p/\∃d,dE (ap (L i) j) p=some d/\bN d=true/\qv d=qv (ap (L i) j)-qv (ap (L i) c)*qv (ap (L r) j))->
 ∃L2,ky m r c f k L=some L2/\gk n m L2/\L2 r=L r/\(∀i,i<k->L2 i=L i)/\∀i,k<=i->i<n->i≠r->(∀j,j<c->ap (L2 i) j=ap (L i) j)/\∀j,c<=j->j<m->qv (ap (L2 i) j)=qv (ap (L i) j)-qv (ap (L i) c)*qv (ap (L r) j)
 |0,k,L,_,hok,_=>⟨L,rfl,hok,rfl,λ_ _=>rfl,λi h1 h2=>by omega⟩
 | f + 1,k,L,hk,hok,h=>by
   by_cases hs:k=r\/ap (L k) c=z0
   · obtain⟨L2,e,ok2,o1,o2,o3⟩:=yR hc f (k+1) L J hok (λi h1 h2=>h i J h2)
     refine⟨L2,by rw[ky,if_pos hs];exact e,ok2,o1,λi hi=>o2 i J,λi h1 h2 h3=>?_⟩
     by_cases e2:i=k
     · subst e2
       rw[o2 i J]
       refine⟨λ_ _=>rfl,λj _ _=>?_⟩
       rcases hs with hs|hs
       · exact absurd hs h3
       · rw[hs,mM];grind
     · exact o3 i J h2 h3
   · have W:k≠r:=λe=>hs (.inl e)
     obtain⟨L1,e1,A0,E,p2,p3⟩:=FV (r:=r) (by omega:k<n) W (ap (L k) c) (qv (ap (L k) c)) (m-c) c L J hok (λj h1 h2=>h k (qa0 _) J W j h1 h2)
     have O:L1 r=L r:=E r (λe=>W e.symm)
     obtain⟨L2,e,ok2,o1,o2,o3⟩:=yR hc f (k+1) L1 J A0 (λi h1 h2 h3 j h4 A1=>by
      rw[E i J,O];exact h i J h2 h3 j h4 A1)
     refine⟨L2,by rw[ky,if_neg hs,e1];exact e,ok2,by rw[o1,O],λi hi=>by rw[o2 i J,E i J],λi h1 h2 h3=>?_⟩
     by_cases e2:i=k
     · subst e2
       rw[o2 i J]
       exact⟨p2,p3⟩
     · have:=o3 i J h2 h3
       rw[E i e2,O]at this
       exact this
def xe (c:Nat)(L:Rows):∀(f p:Nat),(∀i,p<=i->i<iF c L f p->ap (L i) c=z0)/\(iF c L f p<p+f->¬ap (L (iF c L f p)) c=z0)
 |0,p=>⟨λi h1 h2=>by unfold iF at h2;omega,λh=>by unfold iF at h;omega⟩
 | f +1,p=>by
   unfold iF
   by_cases e:ap (L p) c=z0
   · rw[if_pos e]
     have ih:=xe c L f (p+1)
     refine⟨λi h1 h2=>?_,λh=>ih.2 J⟩
     by_cases e2:i=p
     · rw[e2];exact e
     · exact ih.1 i J h2
   · rw[if_neg e]
     exact⟨λi h1 h2=>by omega,λ_=>e⟩
end steps
end Go.Proofs.YtlmihmlnpjkblaaGreatDoor
