/- Part of the proof of a statement about an adjustment. -/
import Derived.Test.YtlmihmlnpjkblaaGreatDoorAj14ToCardCS
set_option linter.all false
namespace Go.Proofs.YtlmihmlnpjkblaaGreatDoor
open Go Go.Eng Go.RowKit Proofs.Tryz
variable {a b x0 x1:Int}{xs:List Int}{k i n lo CX C CR lo5 lo4 pl:Nat}{X A qr:Option Addr}{w:World}
section
attribute [local irreducible] wpListIn Code.wpIn Oper.wpIn Exit.then Exit.inBlock Exit.noGoto
set_option maxHeartbeats 40000000
def FZ (xs:List Int)(i k:Nat):R:=bh (aF (kE xs (7*i+k)) 7-3) 1
def kaE (xs:List Int)(n i:Nat):List R:=(List.range n).map (FZ xs i)
def nM (xs:List Int)(i k:Nat):R:=if i=k then bh (2+aF (kE xs (5*i+1)) 4) 1 else if i+k=1 then bh (aF (kE xs 2) 3-1) 1 else z0
def gE (xs:List Int)(m i:Nat):List R:=(List.range m).map (nM xs i)
def yE (xs:List Int)(i:Nat):R:=bh (aF (kE xs (3*i+2)) 41-20) 2
def yA (xs:List Int)(m:Nat):List R:=(List.range m).map (yE xs)
def vz {f:Nat->R}{l:List R}{q:R}(h:l=(List.range k).map f)(hq:q=f k):l++[q]=(List.range (k+1)).map f:=by
 subst h hq;simp[List.range_succ]
def Mm {m:Nat}:(yA xs m).length=m:=by simp[yA]
structure eK (lo hi:Nat)(w:World)(A:Option Addr)(C:Nat)(Y:Option Addr)(CY:Nat)(B:Option Addr)(CB:Nat)(m:Nat)(H G:Nat->Value)(L V:Rows)(ys:List R):Prop where
 yl:ys.length=m
 oM:w.ownsRow lo 28 1 (.slice A m C) m ((List.range m).map H)
 uM:∀g,(Value.slice A m C).ownBlock=some g->g<hi
 wM:Wr w lo hi m H L
 oY:w.ownsRow lo 33 2 (.slice Y m CY) m (ag ys)
 uY:∀g,(Value.slice Y m CY).ownBlock=some g->g<hi
 oV:w.ownsRow lo 28 1 (.slice B m CB) m ((List.range m).map G)
 uV:∀g,(Value.slice B m CB).ownBlock=some g->g<hi
 wV:Wr w lo hi m G V
 nMY:ay (.slice A m C) (.slice Y m CY)
 nMV:ay (.slice A m C) (.slice B m CB)
 nVY:ay (.slice B m CB) (.slice Y m CY)
 nMH:∀z,z<m->ay (.slice A m C) (H z)
 nMG:∀z,z<m->ay (.slice A m C) (G z)
 nVH:∀z,z<m->ay (.slice B m CB) (H z)
 nVG:∀z,z<m->ay (.slice B m CB) (G z)
 nYH:∀z,z<m->ay (.slice Y m CY) (H z)
 nYG:∀z,z<m->ay (.slice Y m CY) (G z)
 nHG:∀z,z<m->∀z',z'<m->ay (H z) (G z')
section
variable {lo' hi hi' m:Nat}{w':World}{Y:Option Addr}{CY:Nat}{B:Option Addr}{CB:Nat}{H G:Nat->Value}{L V:Rows}{ys:List R}
def eK.ext (k:aO w w')(h:eK lo hi w A C Y CY B CB m H G L V ys):eK lo hi w' A C Y CY B CB m H G L V ys:=
 ⟨h.yl,ab k h.oM,h.uM,h.wM.ext k,ab k h.oY,h.uY,ab k h.oV,h.uV,h.wV.ext k,h.nMY,h.nMV,h.nVY,h.nMH,h.nMG,h.nVH,h.nVG,h.nYH,h.nYG,h.nHG⟩
def ab4:=@eK.ext
def eK.put {x:Nat}(k:ee w w' x)(hx:x<lo\/hi<=x)(h:eK lo hi w A C Y CY B CB m H G L V ys):eK lo hi w' A C Y CY B CB m H G L V ys:=by
 have hM:(Value.slice A m C).ownBlock≠some x:=λe=>by have h1:=h.uM x e;have h2:=aS h.oM x e;omega
 have hY:(Value.slice Y m CY).ownBlock≠some x:=λe=>by have h1:=h.uY x e;have h2:=aS h.oY x e;omega
 have hV:(Value.slice B m CB).ownBlock≠some x:=λe=>by have h1:=h.uV x e;have h2:=aS h.oV x e;omega
 exact⟨h.yl,aw k hM h.oM,h.uM,h.wM.put k hx,aw k hY h.oY,h.uY,aw k hV h.oV,h.uV,h.wV.put k hx,h.nMY,h.nMV,h.nVY,h.nMH,h.nMG,h.nVH,h.nVG,h.nYH,h.nYG,h.nHG⟩
def ad8:=@eK.put
def eK.des (h:eK lo hi w A C Y CY B CB m H G L V ys):ig lo w A C Y CY B CB L V ys:=by
 obtain rfl:=h.yl
 exact⟨⟨_,h.wM.mt (fE h.oM)⟩,fE h.oY,⟨_,h.wV.mt (fE h.oV)⟩,lH h.oV⟩
end
def Mn {H G:Nat->Value}{a b:Value}(h:∀z,z<i->∀z',z'<i->ay (H z) (G z'))(ha:∀z,z<i->ay a (G z))(hb:∀z,z<i->ay b (H z))(hab:ay a b):
 ∀z,z<i+1->∀z',z'<i+1->ay (bO H i a z) (bO G i b z'):=λz E z' O=>by
 by_cases e:z=i
 · subst e;rw[bj]
   by_cases e':z'=z
   · subst e';rw[bj];exact hab
   · rw[bm _ _ e'];exact ha _ U
 · rw[bm _ _ e]
   by_cases e':z'=i
   · subst e';rw[bj];exact(hb _ U).symm
   · rw[bm _ _ e'];exact h _ U _ U
set_option maxRecDepth 100000 in
def HJ :
 CL 81 #[] w (aH w λv w'=>v=.agg #[S z0.1,S z0.2]):=by
 refine aD func81 Z (I ?_);refine al aU (λ_ O W=>?_);have E:=O.2;refine I ?_;refine SA W (λ_ A0 A1=>?_);have E:=bi A0 E;refine I ?_;refine aW (v:=.agg #[S [48],S [49]]) (ci  rfl ?_) E Z;refine ai (t:=0) (cs:=[S [48],S [49]]) (b:=w.heap.size) (o:=0) iW Z b8 ?_ ?_;exact Z;exact aa0 A1 (i:=0) Z
set_option maxHeartbeats 4000000 in
set_option maxRecDepth 100000 in
def HK {m:Nat}(hx0:In64 x0)(hx1:In64 x1)(hm:2+aF x0 4=(m:Int))(hn:1+aF x1 2=(n:Int))(hx:Rw w lo X (nJ xs)):
 CL 33 #[.int .i64 x0,.int .i64 x1,.slice X xs.length CX] w (aH w λv w'=>∃A C Y CY B CB H G lo hi,w.heap.size<=lo/\hi<=w'.heap.size/\v=.agg #[.slice A m C,.slice Y m CY,.slice B m CB]/\eK lo hi w' A C Y CY B CB m H G (kaE xs n) (gE xs m) (yA xs m)):=by
 refine aD func33 Z (I ?_);refine al dW (λ_ h9 E=>?_);have Lk:=h9.2;refine I ?_;refine clb qE (hc:=jG x0 4 _ hx0 U) (hk:=?_);rintro _ _ eb rfl;have⟨E,Lk⟩:=bo eb.2 E Lk;have it:=dj x0 4 U;refine fO (I ?_);refine clb qE (hc:=jG x1 2 _ hx1 U) (hk:=?_);rintro _ CG fT rfl;have⟨E,Lk⟩:=bo fT.2 E Lk;have hh:=dj x1 2 U;refine fO (I ?_);refine al dW (λ_ gv er=>?_);have⟨E,Lk⟩:=bo gv.2 E Lk;refine aa (aZ (b:=CG.heap.size) (o:=0) (vs:=[.slice none 0 0,.slice none 0 0,.slice none 0 0]) ba Z Z Nd er (qa3 Z) (λAp g1 A2=>?_));have⟨E,Lk,_⟩:=j3 g1 E Lk;refine I ?_;have hR:2<=m/\m<=5:=by have:=dj x0 4 dc;omega
 have i5:1<=n/\n<=2:=by have:=dj x1 2 dc;omega
 rw[hm];rw[hn];have hA:World.ownsRow Ap Ap.heap.size 28 1 (.slice none 0 0) 0 []:=bK;have eW:Wr Ap Ap.heap.size Ap.heap.size 0 (λ_=>.nilIface) (kaE xs n):=Wr.nil;have fG:World.ownsRow Ap Ap.heap.size 28 1 (.slice none 0 0) 0 []:=bK;have et:Wr Ap Ap.heap.size Ap.heap.size 0 (λ_=>.nilIface) (gE xs m):=Wr.nil;have f3:World.ownsRow Ap Ap.heap.size 33 2 (.slice none 0 0) 0 (ag []):=bK
 refine b7 [(10,19),(27,117)] (λV2 e W=>∃i:Nat,∃H2:Nat->Value,∃Ar:Value,∃H3:Nat->Value,∃vc:Value,∃acY:List R,∃As:Value,(m-i=V2)/\(e 10=.int .i64 i)/\(i<=m)/\(∀zz,zz<i->ay Ar (H2 zz))/\(∀zz,zz<i->ay Ar (H3 zz))/\(∀zz,zz<i->ay vc (H2 zz))/\(∀zz,zz<i->ay vc (H3 zz))/\(∀zz,zz<i->ay As (H2 zz))/\(∀zz,zz<i->ay As (H3 zz))/\(∀z,z<i->∀z',z'<i->ay (H2 z) (H3 z'))/\(acY.length=i)/\(acY=(List.range i).map (yE xs))/\(Ap.heap.size<=W.heap.size)/\((Ar).ownBlock≠some w.heap.size)/\((Ar).ownBlock≠some CG.heap.size)/\((vc).ownBlock≠some w.heap.size)/\((vc).ownBlock≠some CG.heap.size)/\((As).ownBlock≠some w.heap.size)/\((As).ownBlock≠some CG.heap.size)/\(ay Ar vc)/\(ay Ar As)/\(ay vc As)/\(aO w W)/\(ar W w.heap.size 30 #[.slice none 0 0,.slice none 0 0,.slice none 0 0])/\(W.ownsRow Ap.heap.size 28 1 Ar i ((List.range i).map H2))/\(Wr W Ap.heap.size W.heap.size i H2 (kaE xs n))/\(W.ownsRow Ap.heap.size 28 1 vc i ((List.range i).map H3))/\(Wr W Ap.heap.size W.heap.size i H3 (gE xs m))/\(W.ownsRow Ap.heap.size 33 2 As acY.length (ag acY))/\(ar W CG.heap.size 30 #[Ar,As,vc])) (m-0) ⟨0,(λ_=>.nilIface),.slice none 0 0,(λ_=>.nilIface),.slice none 0 0,[],.slice none 0 0,rfl,rfl,(qa7 _),(λj Ax=>by omega),(λj Ax=>by omega),(λj Ax=>by omega),(λj Ax=>by omega),(λj Ax=>by omega),(λj Ax=>by omega),(λj Ax=>by omega),rfl,rfl,(qa0 _),(λe=>by cases e),(λe=>by cases e),(λe=>by cases e),(λe=>by cases e),(λe=>by cases e),(λe=>by cases e),(aa5 ad2),(aa5 ad2),(aa5 ad2),Lk,E,hA,eW,fG,et,f3,A2⟩ ?_
 rintro _ _ B2 ⟨i,H2,Ar,H3,vc,acY,As,rfl,hg,i0,a9,bd,cf,ch,ac,cT,e3,halY,hacY,hw,cy,cv,d6,X0,dC,bp,cm,bq,bW,VW,E,Ab,A0,O,A1,hyrow,A2⟩;have hp:=bz VW;by_cases hlo:i<m;refine I ?_;have eq:World.ownsRow B2 B2.heap.size 33 2 (.slice none 0 0) 0 (ag []):=bK
 refine b7 [(11,11),(13,15),(32,52)] (λV2 e W=>∃k:Nat,∃E6:List R,∃vline:Value,(n-k=V2)/\(e 13=.int .i64 k)/\(e 11=vline)/\(k<=n)/\(E6.length=k)/\(E6=(List.range k).map (FZ xs i))/\(B2.heap.size<=W.heap.size)/\((vline).ownBlock≠some w.heap.size)/\((vline).ownBlock≠some CG.heap.size)/\(ay Ar vline)/\(ay vc vline)/\(ay As vline)/\(aO w W)/\(ar W w.heap.size 30 #[.slice none 0 0,.slice none 0 0,.slice none 0 0])/\(W.ownsRow Ap.heap.size 28 1 Ar i ((List.range i).map H2))/\(Wr W Ap.heap.size B2.heap.size i H2 (kaE xs n))/\(W.ownsRow Ap.heap.size 28 1 vc i ((List.range i).map H3))/\(Wr W Ap.heap.size B2.heap.size i H3 (gE xs m))/\(W.ownsRow Ap.heap.size 33 2 As acY.length (ag acY))/\(ar W CG.heap.size 30 #[Ar,As,vc])/\(W.ownsRow B2.heap.size 33 2 vline E6.length (ag E6))) (n-0) ⟨0,[],.slice none 0 0,rfl,rfl,rfl,(qa7 _),rfl,rfl,(qa0 _),(λe=>by cases e),(λe=>by cases e),(aa5 ad2),(aa5 ad2),(aa5 ad2),VW,E,Ab,A0,O,A1,hyrow,A2,eq⟩ ?_;rintro _ _ S9 ⟨k,E6,vline,rfl,hV,cx,hi_k,hal_acl,dq,hT,d1,W0,W3,a0,a4,Az,E,Ab,A0,O,A1,hyrow,A2,hline⟩;have ih:=bz Az;by_cases hlk:k<n;refine I ?_;refine aa (rm (a:=7) (b:=(i:Int)) (c:=((7*i:Nat):Int)) Z Z L7 Z ?_)
 refine I ?_;refine aa (cG (a:=((7*i:Nat):Int)) (b:=(k:Int)) (c:=((7*i+k:Nat):Int)) Z Z L7 Z ?_);refine clb xN (hc:=tm (i:=(7*i+k)) (xs:=xs) U (hx.ext Az)) (hk:=?_);rintro _ _ P0 rfl;have E:=be P0.2 E;have Ab:=ab P0.2 Ab;have A0:=aa1 P0.2 A0;have O:=ab P0.2 O;have A1:=aa1 P0.2 A1;have hyrow:=ab P0.2 hyrow;have A2:=be P0.2 A2;have hline:=ab P0.2 hline;have Az:=xt Az P0.2;refine clb qE (hc:=jG (kE xs (7*i+k)) 7 _ (tl U) U) (hk:=?_);rintro _ _ Ne rfl;have E:=be Ne.2 E;have Ab:=ab Ne.2 Ab;have A0:=aa1 Ne.2 A0;have O:=ab Ne.2 O;have A1:=aa1 Ne.2 A1;have hyrow:=ab Ne.2 hyrow;have A2:=be Ne.2 A2;have hline:=ab Ne.2 hline;have Az:=xt Az Ne.2;have i2:=dj (kE xs (7*i+k)) 7 U;refine qk ?_;refine clb Ip (hc:=AO ((aF (kE xs (7*i+k)) 7)-3) 1 _ U U) (hk:=?_);rintro _ _ N0 rfl;have E:=be N0.2 E;have Ab:=ab N0.2 Ab;have A0:=aa1 N0.2 A0;have O:=ab N0.2 O;have A1:=aa1 N0.2 A1;have hyrow:=ab N0.2 hyrow;have A2:=be N0.2 A2;have hline:=ab N0.2 hline;have Az:=xt Az N0.2;refine I ?_;refine al aU (λ_ No fy=>?_);have g2:=bn Ab;have fb:=bn O;have hK:=bn hyrow
 have ej:=bn hline;have E:=be No.2 E;have Ab:=ab No.2 Ab;have A0:=aa1 No.2 A0;have O:=ab No.2 O;have A1:=aa1 No.2 A1;have hyrow:=ab No.2 hyrow;have A2:=be No.2 A2;have hline:=ab No.2 hline;have Az:=xt Az No.2;refine SA fy (λ_ L3 cp=>?_);have E:=pb L3 E;have Ab:=aw L3 g2 Ab;have A0:=ab9 L3 U A0;have O:=aw L3 fb O;have A1:=ab9 L3 U A1;have hyrow:=aw L3 hK hyrow;have A2:=pb L3 A2;have hline:=aw L3 ej hline;have Az:=bi L3 Az;have hz:=gJ L3;refine I ?_;refine aa (aT (v:=vline) cx ?_);refine I ?_;refine BS (λ_ nm _ h5=>?_);have E:=be nm E;have Ab:=ab nm Ab;have A0:=aa1 nm A0;have O:=ab nm O;have A1:=aa1 nm A1;have hyrow:=ab nm hyrow;have A2:=be nm A2;have hline:=ab nm hline;have⟨cp,Az⟩:=bo nm cp Az;refine AP hline (aa7 h5) (λco _ hI Lj T3=>?_);have eQ:=aR T3 d1 (bt E);have fQ:=aR T3 W0 (bt A2);have E:=aa2 Lj (λe=>d1 e.symm) E;have ed:=ab0 T3 (aa5 W3) Ab;have Ab:=ab3 (aa5 W3) Lj Ab;have A0:=Wr.gr Lj (λg e=>Or.inr (qa8 U (aS hline g e))) A0;have ea:=ab0 T3 (aa5 a0) O;have O:=ab3 (aa5 a0) Lj O
 have A1:=Wr.gr Lj (λg e=>Or.inr (qa8 U (aS hline g e))) A1;have eS:=ab0 T3 (aa5 a4) hyrow;have hyrow:=ab3 (aa5 a4) Lj hyrow;have A2:=aa2 Lj (λe=>W0 e.symm) A2;have Az:=bu hline U U Az Lj;have i3:=Lj.size;refine aa (aK (v:=co) Z ?_);refine I ?_;refine fO (I ?_);exact bF ⟨k+1,E6++[(FZ xs i k)],co,rfl,rfl,rfl,U,KK,(vz dq Z),U,eQ,fQ,(aa5 ed),(aa5 ea),(aa5 eS),Az,E,Ab,A0,O,A1,hyrow,A2,(aP hI Rg (dv _ (FZ xs i k)))⟩;have gn:E6=kaE xs n i:=by have:=dq;rw[show k=n by omega]at this;exact this
 refine I ?_;have gW:World.ownsRow S9 S9.heap.size 33 2 (.slice none 0 0) 0 (ag []):=bK;refine b7 [(12,12),(16,17),(53,88)] (λV2 e W=>∃k:Nat,∃acc:List R,∃Av:Value,(m-k=V2)/\(e 16=.int .i64 k)/\(e 12=Av)/\(k<=m)/\(acc.length=k)/\(acc=(List.range k).map (nM xs i))/\(S9.heap.size<=W.heap.size)/\((Av).ownBlock≠some w.heap.size)/\((Av).ownBlock≠some CG.heap.size)/\(ay Ar Av)/\(ay vc Av)/\(ay As Av)/\(ay vline Av)/\(aO w W)/\(ar W w.heap.size 30 #[.slice none 0 0,.slice none 0 0,.slice none 0 0])/\(W.ownsRow Ap.heap.size 28 1 Ar i ((List.range i).map H2))/\(Wr W Ap.heap.size B2.heap.size i H2 (kaE xs n))/\(W.ownsRow Ap.heap.size 28 1 vc i ((List.range i).map H3))/\(Wr W Ap.heap.size B2.heap.size i H3 (gE xs m))/\(W.ownsRow Ap.heap.size 33 2 As acY.length (ag acY))/\(ar W CG.heap.size 30 #[Ar,As,vc])/\(W.ownsRow B2.heap.size 33 2 vline E6.length (ag E6))/\(W.ownsRow S9.heap.size 33 2 Av acc.length (ag acc))) (m-0) ⟨0,[],.slice none 0 0,rfl,rfl,rfl,(qa7 _),rfl,rfl,(qa0 _),(λe=>by cases e),(λe=>by cases e),(aa5 ad2),(aa5 ad2),(aa5 ad2),(aa5 ad2),Az,E,Ab,A0,O,A1,hyrow,A2,hline,gW⟩ ?_
 rintro _ _ _ ⟨k,acc,Av,rfl,i9,cw,hi_k,hal_acc,dL,hW,d0,W1,WV,a3,Wa,b0,Am,E,Ab,A0,O,A1,hyrow,A2,hline,Af⟩;have j0:=bz Am;by_cases hlk:k<m;refine I ?_;refine cl VU HJ ?_;rintro _ h0 E9 rfl;have E:=be E9.2 E;have Ab:=ab E9.2 Ab;have A0:=aa1 E9.2 A0;have O:=ab E9.2 O;have A1:=aa1 E9.2 A1;have hyrow:=ab E9.2 hyrow;have A2:=be E9.2 A2;have hline:=ab E9.2 hline;have Af:=ab E9.2 Af;have Am:=xt Am E9.2;refine al aU (λ_ KC fl=>?_);have cc:=bn Ab;have an:=bn O;have cb:=bn hyrow;have bv:=bn hline;have bb:=bn Af;have E:=be KC.2 E;have Ab:=ab KC.2 Ab;have A0:=aa1 KC.2 A0;have O:=ab KC.2 O;have A1:=aa1 KC.2 A1;have hyrow:=ab KC.2 hyrow;have A2:=be KC.2 A2;have hline:=ab KC.2 hline;have Af:=ab KC.2 Af;have Am:=xt Am KC.2;refine SA fl (λfR E4 Cr=>?_);have E:=pb E4 E;have Ab:=aw E4 cc Ab;have A0:=ab9 E4 U A0;have O:=aw E4 an O;have A1:=ab9 E4 U A1;have hyrow:=aw E4 cb hyrow;have A2:=pb E4 A2;have hline:=aw E4 bv hline;have Af:=aw E4 bb Af;have Am:=bi E4 Am;have at2:=gJ E4;refine I ?_
 refine TJ [(62,84)] (λe W=>∃q:R,(q=nM xs i k)/\(aO w W)/\(fR.heap.size<=W.heap.size)/\(ar W w.heap.size 30 #[.slice none 0 0,.slice none 0 0,.slice none 0 0])/\(W.ownsRow Ap.heap.size 28 1 Ar i ((List.range i).map H2))/\(Wr W Ap.heap.size B2.heap.size i H2 (kaE xs n))/\(W.ownsRow Ap.heap.size 28 1 vc i ((List.range i).map H3))/\(Wr W Ap.heap.size B2.heap.size i H3 (gE xs m))/\(W.ownsRow Ap.heap.size 33 2 As acY.length (ag acY))/\(ar W CG.heap.size 30 #[Ar,As,vc])/\(W.ownsRow B2.heap.size 33 2 vline E6.length (ag E6))/\(W.ownsRow S9.heap.size 33 2 Av acc.length (ag acc))/\(ar W h0.heap.size 33 #[S q.1,S q.2])) ?_ ?_;by_cases aqo:(i:Int)=(k:Int);refine I ?_;refine aa (rm (a:=5) (b:=(i:Int)) (c:=((5*i:Nat):Int)) Z Z L7 Z ?_);refine aa (cG (a:=((5*i:Nat):Int)) (b:=1) (c:=((5*i+1:Nat):Int)) Z Z L7 Z ?_);refine clb xN (hc:=tm (i:=(5*i+1)) (xs:=xs) U (hx.ext Am)) (hk:=?_);rintro _ _ G0 rfl;have E:=be G0.2 E;have Ab:=ab G0.2 Ab;have A0:=aa1 G0.2 A0;have O:=ab G0.2 O;have A1:=aa1 G0.2 A1;have hyrow:=ab G0.2 hyrow;have A2:=be G0.2 A2;have hline:=ab G0.2 hline;have Af:=ab G0.2 Af;have⟨Cr,Am⟩:=bo G0.2 Cr Am;refine clb qE (hc:=jG (kE xs (5*i+1)) 4 _ (tl U) U) (hk:=?_)
 rintro _ _ GC rfl;have E:=be GC.2 E;have Ab:=ab GC.2 Ab;have A0:=aa1 GC.2 A0;have O:=ab GC.2 O;have A1:=aa1 GC.2 A1;have hyrow:=ab GC.2 hyrow;have A2:=be GC.2 A2;have hline:=ab GC.2 hline;have Af:=ab GC.2 Af;have⟨Cr,Am⟩:=bo GC.2 Cr Am;have at8:=dj (kE xs (5*i+1)) 4 U;refine fO ?_;refine clb Ip (hc:=AO (2+(aF (kE xs (5*i+1)) 4)) 1 _ U U) (hk:=?_);rintro _ _ FR rfl;have E:=be FR.2 E;have Ab:=ab FR.2 Ab;have A0:=aa1 FR.2 A0;have O:=ab FR.2 O;have A1:=aa1 FR.2 A1;have hyrow:=ab FR.2 hyrow;have A2:=be FR.2 A2;have hline:=ab FR.2 hline;have Af:=ab FR.2 Af;have⟨Cr,Am⟩:=bo FR.2 Cr Am;refine I ?_;refine SA Cr (λ_ ny eD=>?_);have E:=pb ny E;have Ab:=aw ny cc Ab;have A0:=ab9 ny U A0;have O:=aw ny an O;have A1:=ab9 ny U A1;have hyrow:=aw ny cb hyrow;have A2:=pb ny A2;have hline:=aw ny bv hline;have Af:=aw ny bb Af;have Am:=bi ny Am;have hU:=gJ ny;refine I ?_;exact C4 ⟨bh (2+(aF (kE xs (5*i+1)) 4)) 1,ka2,Am,U,E,Ab,A0,O,A1,hyrow,A2,hline,Af,eD⟩;refine I ?_;refine fO (I ?_);by_cases aqp:((i:Int)+(k:Int))=1;refine I ?_
 refine clb xN (hc:=tm (i:=2) (xs:=xs) U (hx.ext Am)) (hk:=?_);rintro _ _ od rfl;have E:=be od.2 E;have Ab:=ab od.2 Ab;have A0:=aa1 od.2 A0;have O:=ab od.2 O;have A1:=aa1 od.2 A1;have hyrow:=ab od.2 hyrow;have A2:=be od.2 A2;have hline:=ab od.2 hline;have Af:=ab od.2 Af;have⟨Cr,Am⟩:=bo od.2 Cr Am;refine clb qE (hc:=jG (kE xs 2) 3 _ (tl U) U) (hk:=?_);rintro _ _ L1 rfl;have E:=be L1.2 E;have Ab:=ab L1.2 Ab;have A0:=aa1 L1.2 A0;have O:=ab L1.2 O;have A1:=aa1 L1.2 A1;have hyrow:=ab L1.2 hyrow;have A2:=be L1.2 A2;have hline:=ab L1.2 hline;have Af:=ab L1.2 Af;have⟨Cr,Am⟩:=bo L1.2 Cr Am;have hZ:=dj (kE xs 2) 3 U;refine qk ?_;refine clb Ip (hc:=AO ((aF (kE xs 2) 3)-1) 1 _ U U) (hk:=?_);rintro _ _ KY rfl;have E:=be KY.2 E;have Ab:=ab KY.2 Ab;have A0:=aa1 KY.2 A0;have O:=ab KY.2 O;have A1:=aa1 KY.2 A1;have hyrow:=ab KY.2 hyrow;have A2:=be KY.2 A2;have hline:=ab KY.2 hline;have Af:=ab KY.2 Af;have⟨Cr,Am⟩:=bo KY.2 Cr Am;refine I ?_;refine SA Cr (λ_ E7 fD=>?_);have E:=pb E7 E;have Ab:=aw E7 cc Ab;have A0:=ab9 E7 U A0;have O:=aw E7 an O;have A1:=ab9 E7 U A1;have hyrow:=aw E7 cb hyrow;have A2:=pb E7 A2
 have hline:=aw E7 bv hline;have Af:=aw E7 bb Af;have Am:=bi E7 Am;have he:=gJ E7;refine I ?_;exact C4 ⟨bh ((aF (kE xs 2) 3)-1) 1,ka2,Am,U,E,Ab,A0,O,A1,hyrow,A2,hline,Af,fD⟩;refine I ?_;exact C4 ⟨z0,ka2,Am,U,E,Ab,A0,O,A1,hyrow,A2,hline,Af,Cr⟩;rintro _ _ ⟨q,hq,Vm,ib,E,Ab,A0,O,A1,hyrow,A2,hline,Af,e6⟩;refine I ?_;refine aa (aT (v:=Av) cw ?_);refine I ?_;refine BS (λ_ ES _ fu=>?_);have E:=be ES E;have Ab:=ab ES Ab;have A0:=aa1 ES A0;have O:=ab ES O;have A1:=aa1 ES A1;have hyrow:=ab ES hyrow;have A2:=be ES A2;have hline:=ab ES hline;have Af:=ab ES Af;have⟨e6,Vm⟩:=bo ES e6 Vm;refine AP Af (aa7 fu) (λcz _ fW K2 T2=>?_);have arr:=aR T2 d0 (bt E);have fz:=aR T2 W1 (bt A2);have E:=aa2 K2 (λe=>d0 e.symm) E;have fB:=ab0 T2 (aa5 WV) Ab;have Ab:=ab3 (aa5 WV) K2 Ab;have A0:=Wr.gr K2 (λg e=>Or.inr (qa8 U (aS Af g e))) A0;have g4:=ab0 T2 (aa5 a3) O;have O:=ab3 (aa5 a3) K2 O
 have A1:=Wr.gr K2 (λg e=>Or.inr (qa8 U (aS Af g e))) A1;have fS:=ab0 T2 (aa5 Wa) hyrow;have hyrow:=ab3 (aa5 Wa) K2 hyrow;have A2:=aa2 K2 (λe=>W1 e.symm) A2;have ft:=ab0 T2 (aa5 b0) hline;have hline:=ab3 (aa5 b0) K2 hline;have Vm:=bu Af U U Vm K2;have ha:=K2.size;refine aa (aK (v:=cz) Z ?_);refine I ?_;refine fO (I ?_);exact bF ⟨k+1,acc++[q],cz,rfl,rfl,rfl,U,KK,(vz dL hq),U,arr,fz,(aa5 fB),(aa5 g4),(aa5 fS),(aa5 ft),Vm,E,Ab,A0,O,A1,hyrow,A2,hline,(aP fW Rg (dv _ q))⟩;have eC:acc=gE xs m i:=by have:=dL;rw[show k=m by omega]at this;exact this
 refine I ?_;refine aa (rm (a:=3) (b:=(i:Int)) (c:=((3*i:Nat):Int)) Z Z L7 Z ?_);refine aa (cG (a:=((3*i:Nat):Int)) (b:=2) (c:=((3*i+2:Nat):Int)) Z Z L7 Z ?_);refine clb xN (hc:=tm (i:=(3*i+2)) (xs:=xs) U (hx.ext Am)) (hk:=?_);rintro _ _ Ix rfl;have E:=be Ix.2 E;have Ab:=ab Ix.2 Ab;have A0:=aa1 Ix.2 A0;have O:=ab Ix.2 O;have A1:=aa1 Ix.2 A1;have hyrow:=ab Ix.2 hyrow;have A2:=be Ix.2 A2;have hline:=ab Ix.2 hline;have Af:=ab Ix.2 Af;have Am:=xt Am Ix.2;refine clb qE (hc:=jG (kE xs (3*i+2)) 41 _ (tl U) U) (hk:=?_);rintro _ _ EW rfl;have E:=be EW.2 E;have Ab:=ab EW.2 Ab;have A0:=aa1 EW.2 A0;have O:=ab EW.2 O;have A1:=aa1 EW.2 A1;have hyrow:=ab EW.2 hyrow;have A2:=be EW.2 A2;have hline:=ab EW.2 hline;have Af:=ab EW.2 Af;have Am:=xt Am EW.2;have i1:=dj (kE xs (3*i+2)) 41 U;refine qk ?_;refine clb Ip (hc:=AO ((aF (kE xs (3*i+2)) 41)-20) 2 _ U U) (hk:=?_);rintro _ _ Kp rfl;have E:=be Kp.2 E;have Ab:=ab Kp.2 Ab;have A0:=aa1 Kp.2 A0;have O:=ab Kp.2 O;have A1:=aa1 Kp.2 A1;have hyrow:=ab Kp.2 hyrow;have A2:=be Kp.2 A2;have hline:=ab Kp.2 hline
 have Af:=ab Kp.2 Af;have Am:=xt Am Kp.2;refine I ?_;refine al aU (λ_ H4 hC=>?_);have dd:=bn Ab;have cr:=bn O;have e4:=bn hyrow;have fC:=bn hline;have h7:=bn Af;have E:=be H4.2 E;have Ab:=ab H4.2 Ab;have A0:=aa1 H4.2 A0;have O:=ab H4.2 O;have A1:=aa1 H4.2 A1;have hyrow:=ab H4.2 hyrow;have A2:=be H4.2 A2;have hline:=ab H4.2 hline;have Af:=ab H4.2 Af;have Am:=xt Am H4.2;refine SA hC (λ_ D2 Ay=>?_);have E:=pb D2 E;have Ab:=aw D2 dd Ab;have A0:=ab9 D2 U A0;have O:=aw D2 cr O;have A1:=ab9 D2 U A1;have hyrow:=aw D2 e4 hyrow;have A2:=pb D2 A2;have hline:=aw D2 fC hline;have Af:=aw D2 h7 Af;have Am:=bi D2 Am;have i4:=gJ D2;refine I ?_;refine aa (aT (v:=vline) cx ?_);refine aa (cE (vs:=[(0,vline)]) (cells:=#[vline]) QP jq Z dc dc (jd _ (bP hline)) Z dc (λ_ K3 _ hE=>?_));have E:=be K3 E;have Ab:=ab K3 Ab;have A0:=aa1 K3 A0;have O:=ab K3 O;have A1:=aa1 K3 A1;have hyrow:=ab K3 hyrow;have A2:=be K3 A2;have hline:=ab K3 hline;have Af:=ab K3 Af;have⟨Ay,Am⟩:=bo K3 Ay Am;refine AP Ab (aa7 hE) (λX2 _ Aw wr P1=>?_) (h1:=Ro (bP hline))
 have hM:=aR P1 cy (bt E);have a6:=aR P1 cv (bt A2);have fi:∀Aq,Aq<i->ay X2 (H2 Aq):=λAq hi=>ab0 P1 (a9 Aq hi) (Wr.own A0 Aq hi);have g0:∀Aq,Aq<i->ay X2 (H3 Aq):=λAq hi=>ab0 P1 (bd Aq hi) (Wr.own A1 Aq hi);have E:=aa2 wr (λe=>cy e.symm) E;have A0:=ad4 wr a9 A0;have d4:=ab0 P1 cm O;have O:=ab3 cm wr O;have A1:=ad4 wr bd A1;have d3:=ab0 P1 bq hyrow;have hyrow:=ab3 bq wr hyrow;have A2:=aa2 wr (λe=>cv e.symm) A2;have eg:=ab0 P1 W3 hline;have hline:=ab3 W3 wr hline;have h8:=ab0 P1 WV Af;have Af:=ab3 WV wr Af;have Ay:=aa2 wr (λe=>dd e.symm) Ay;have Am:=bu Ab U U Am wr;have hX:=wr.size;refine I ?_;refine aa (cJ (b:=CG.heap.size) (o:=0) (v:=X2) zt Z Z (bP Aw) A2 (qa3 Z) (λ_ L4 S0=>?_));have E:=pb L4 E;have Aw:=aw L4 a6 Aw
 have A0:=ab9 L4 U A0;have O:=aw L4 X0 O;have A1:=ab9 L4 U A1;have hyrow:=aw L4 bp hyrow;have hline:=aw L4 W0 hline;have Af:=aw L4 W1 Af;have⟨Ay,Am,_⟩:=j3 L4 Ay Am;refine I ?_;refine BS (λ_ KM _ eX=>?_);have E:=be KM E;have Aw:=ab KM Aw;have A0:=aa1 KM A0;have O:=ab KM O;have A1:=aa1 KM A1;have hyrow:=ab KM hyrow;have S0:=be KM S0;have hline:=ab KM hline;have Af:=ab KM Af;have⟨Ay,Am⟩:=bo KM Ay Am;refine AP hyrow (aa7 eX) (λW2 _ E5 E1 P2=>?_);have fc:=aR P2 dC (bt E);have ce:=aR P2 bp (bt S0);have hF:∀Aq,Aq<i->ay W2 (H2 Aq):=λAq hi=>ab0 P2 (ac Aq hi) (Wr.own A0 Aq hi);have fx:∀Aq,Aq<i->ay W2 (H3 Aq):=λAq hi=>ab0 P2 (cT Aq hi) (Wr.own A1 Aq hi);have E:=aa2 E1 (λe=>dC e.symm) E;have hB:=ab0 P2 (aa5 d3) Aw;have Aw:=ab3 (aa5 d3) E1 Aw;have A0:=ad4 E1 ac A0;have e5:=ab0 P2 (aa5 bW) O;have O:=ab3 (aa5 bW) E1 O
 have A1:=ad4 E1 cT A1;have S0:=aa2 E1 (λe=>bp e.symm) S0;have g3:=ab0 P2 a4 hline;have hline:=ab3 a4 E1 hline;have fa:=ab0 P2 Wa Af;have Af:=ab3 Wa E1 Af;have Ay:=aa2 E1 (λe=>e4 e.symm) Ay;have Am:=bu hyrow U U Am E1;have hj:=E1.size;refine I ?_;refine aa (cJ (b:=CG.heap.size) (o:=1) (v:=W2) mf Z Z (bP E5) S0 (qa3 Z) (λ_ Li Rm=>?_));have E:=pb Li E;have Aw:=aw Li a6 Aw;have A0:=ab9 Li U A0;have O:=aw Li X0 O;have A1:=ab9 Li U A1;have E5:=aw Li ce E5;have hline:=aw Li W0 hline;have Af:=aw Li W1 Af;have⟨Ay,Am,_⟩:=j3 Li Ay Am;refine I ?_;refine aa (aT (v:=Av) cw ?_);refine aa (cE (vs:=[(0,Av)]) (cells:=#[Av]) QP jq Z dc dc (jd _ (bP Af)) Z dc (λ_ L2 _ hN=>?_));have E:=be L2 E;have Aw:=ab L2 Aw;have A0:=aa1 L2 A0;have O:=ab L2 O;have A1:=aa1 L2 A1;have E5:=ab L2 E5;have Rm:=be L2 Rm;have hline:=ab L2 hline;have Af:=ab L2 Af;have⟨Ay,Am⟩:=bo L2 Ay Am;refine AP O (aa7 hN) (λa8 _ a2 E0 Q0=>?_) (h1:=Ro (bP Af));have hD:=aR Q0 d6 (bt E);have d5:=aR Q0 X0 (bt Rm)
 have f0:∀Aq,Aq<i->ay a8 (H2 Aq):=λAq hi=>ab0 Q0 (cf Aq hi) (Wr.own A0 Aq hi);have hP:∀Aq,Aq<i->ay a8 (H3 Aq):=λAq hi=>ab0 Q0 (ch Aq hi) (Wr.own A1 Aq hi);have E:=aa2 E0 (λe=>d6 e.symm) E;have fP:=ab0 Q0 (aa5 d4) Aw;have Aw:=ab3 (aa5 d4) E0 Aw;have A0:=ad4 E0 cf A0;have A1:=ad4 E0 ch A1;have f9:=ab0 Q0 (aa5 e5) E5;have E5:=ab3 (aa5 e5) E0 E5;have Rm:=aa2 E0 (λe=>X0 e.symm) Rm;have ga:=ab0 Q0 a0 hline;have hline:=ab3 a0 E0 hline;have ask:=ab0 Q0 a3 Af;have Af:=ab3 a3 E0 Af;have Ay:=aa2 E0 (λe=>cr e.symm) Ay;have Am:=bu O U U Am E0;have hY:=E0.size;refine I ?_;refine aa (cJ (b:=CG.heap.size) (o:=2) (v:=a8) zt Z Z (bP a2) Rm (qa3 Z) (λct La hL=>?_));have E:=pb La E;have Aw:=aw La a6 Aw;have A0:=ab9 La U A0;have a2:=aw La d5 a2;have A1:=ab9 La U A1
 have E5:=aw La ce E5;have hline:=aw La W0 hline;have Af:=aw La W1 Af;have⟨Ay,Am,_⟩:=j3 La Ay Am;refine I ?_;refine fO (I ?_);have hQ:World.ownsRow ct B2.heap.size 33 2 vline ((kaE xs n) i).length (ag ((kaE xs n) i)):=by have h:=hline;rw[gn]at h;exact h
 have gs:=bM (lo':=Ap.heap.size) U hQ;have fX:∀j,j<i->ay vline (H2 j):=Wr.far A0 hline U;have fN:World.ownsRow ct S9.heap.size 33 2 Av ((gE xs m) i).length (ag ((gE xs m) i)):=by have h:=Af;rw[eC]at h;exact h
 have hO:=bM (lo':=Ap.heap.size) U fN;have eP:∀j,j<i->ay Av (H3 j):=Wr.far A1 Af U;have gb:∀j,j<i->ay vline (H3 j):=Wr.far A1 hline U;have eG:∀j,j<i->ay Av (H2 j):=Wr.far A0 Af U;refine I ?_;exact bF ⟨i+1,bO H2 i vline,X2,bO H3 i Av,a8,acY++[yE xs i],W2,rfl,rfl,U,(λj Ax=>dX fi eg j Ax),(λj Ax=>dX g0 h8 j Ax),(λj Ax=>dX f0 ga j Ax),(λj Ax=>dX hP ask j Ax),(λj Ax=>dX hF g3 j Ax),(λj Ax=>dX fx fa j Ax),(Mn e3 gb eG b0),KK,(vz hacY Z),U,hM,a6,hD,d5,fc,ce,(aa5 fP),(aa5 hB),f9,Am,E,(aP Aw Z (ek H2 i vline).symm),(by have h:=Wr.push A0 gs fX;rwa [kY]at h),(aP a2 Z (ek H3 i Av).symm),(by have h:=Wr.push A1 hO eP;rwa [kY]at h),(aP E5 Rg (dv _ (yE xs i))),hL⟩;have D1:i=m:=J
 have h6:acY=yA xs m:=by rw[hacY,D1];rfl
 have B1:=dk (by have Ao:=Ab;rw[D1]at Ao;exact Ao);have C0:=dk (by have Ao:=O;rw[D1]at Ao;exact Ao);have c9:=aP hyrow (halY.trans D1) (qb2 ag h6);have B0:=dk c9;have bZ:ar B2 CG.heap.size 30 #[.slice (sA Ar) m (sC Ar),.slice (sA As) m (sC As),.slice (sA vc) m (sC vc)]:=by rw[<-B1,<-B0,<-C0];exact A2
 clear A2;have cq:=(by have Ao:=Ab;rw[D1]at Ao;exact Ao);have eB:=(by have Ao:=O;rw[D1]at Ao;exact Ao);have ad:eK Ap.heap.size B2.heap.size B2 (sA Ar) (sC Ar) (sA As) (sC As) (sA vc) (sC vc) m H2 H3 (kaE xs n) (gE xs m) (yA xs m):=⟨Mm,(by simp only[<-B1,<-B0,<-C0];exact cq),(by simp only[<-B1,<-B0,<-C0];exact(dr cq)),Wr.top (by have Ao:=A0;rw[D1]at Ao;exact Ao),(by simp only[<-B1,<-B0,<-C0];exact c9),(by simp only[<-B1,<-B0,<-C0];exact(dr c9)),(by simp only[<-B1,<-B0,<-C0];exact eB),(by simp only[<-B1,<-B0,<-C0];exact(dr eB)),Wr.top (by have Ao:=A1;rw[D1]at Ao;exact Ao),(by simp only[<-B1,<-B0,<-C0];exact bq),(by simp only[<-B1,<-B0,<-C0];exact cm),(by simp only[<-B1,<-B0,<-C0];exact bW),(by simp only[<-B1,<-B0,<-C0];exact(by have Ao:=a9;rw[D1]at Ao;exact Ao)),(by simp only[<-B1,<-B0,<-C0];exact(by have Ao:=bd;rw[D1]at Ao;exact Ao)),(by simp only[<-B1,<-B0,<-C0];exact(by have Ao:=cf;rw[D1]at Ao;exact Ao)),(by simp only[<-B1,<-B0,<-C0];exact(by have Ao:=ch;rw[D1]at Ao;exact Ao)),(by simp only[<-B1,<-B0,<-C0];exact(by have Ao:=ac;rw[D1]at Ao;exact Ao)),(by simp only[<-B1,<-B0,<-C0];exact(by have Ao:=cT;rw[D1]at Ao;exact Ao)),(by have Ao:=e3;rw[D1]at Ao;exact Ao)⟩;refine I ?_
 (try refine aa (aN (cs:=[.slice (sA Ar) m (sC Ar),.slice (sA As) m (sC As),.slice (sA vc) m (sC vc)]) (b:=CG.heap.size) (o:=0) de Z ba Z (aa0 bZ (i:=0) Z) ?_));refine aa (aZ (b:=w.heap.size) (o:=0) (vs:=[.slice (sA Ar) m (sC Ar),.slice (sA As) m (sC As),.slice (sA vc) m (sC vc)]) ba Z Z Nd E (qa3 Z) (λ_ a5 hG=>?_));have bZ:=pb a5 bZ;have ad:=ad8 a5 U ad;have VW:=bi a5 VW;have hS:=gJ a5;refine I ?_;refine aW (v:=.agg #[.slice (sA Ar) m (sC Ar),.slice (sA As) m (sC As),.slice (sA vc) m (sC vc)]) (ci  rfl ?_) VW ⟨_,_,_,_,_,_,_,_,_,_,U,U,rfl,ad⟩;refine ai (t:=6) (cs:=[.slice (sA Ar) m (sC Ar),.slice (sA As) m (sC As),.slice (sA vc) m (sC vc)]) (b:=w.heap.size) (o:=0) de Z ba ?_ ?_;exact Z;exact aa0 hG (i:=0) Z
set_option maxRecDepth 100000
def wd:List R:=[bh 10 1,bh 11 1,bh 15 1]
def lj:Rows:=bR [bh 1 1,bh 1 1,bh 1 1]
def qo:Rows:=λi=>uR i 3
def Rw.take40 (h:Rw w lo X (nJ xs)):Rw w lo X (nJ (xs.take 40)):=by
 have:=Rw.take 40 h
 rwa [show(nJ xs).take 40=nJ (xs.take 40)by simp[nJ,List.map_take]]at this
def Bw {b:List R}(hb:Rw w lo A (ag b))(hbl:b.length*32<=140737488355328):
 CL 30 #[.slice A b.length C] w (aH w λv w'=>dM w.heap.size w' v b.length (bR b)):=by
 refine aD func30 Z (I ?_);have E0:World.ownsRow w w.heap.size 28 1 (.slice none 0 0) 0 []:=bK;have C0:Wr w w.heap.size w.heap.size 0 (λ_=>.nilIface) (bR b):=Wr.nil;have B1:=aa3 w;refine b7 [(3,18)] (λAz e W=>∃i:Nat,∃H2:Nat->Value,∃A2:Value,(b.length-i=Az)/\(e 4=.int .i64 i)/\(e 3=A2)/\(i<=b.length)/\(∀zz,zz<i->ay A2 (H2 zz))/\(w.heap.size<=W.heap.size)/\(aO w W)/\(W.ownsRow w.heap.size 28 1 A2 i ((List.range i).map H2))/\(Wr W w.heap.size W.heap.size i H2 (bR b))) (b.length-0) ⟨0,(λ_=>.nilIface),.slice none 0 0,rfl,rfl,rfl,(qa7 _),(λj Ax=>by omega),(qa0 _),B1,E0,C0⟩ ?_;rintro _ _ A1 ⟨i,H2,A2,rfl,E4,Aw,hi_i,Ar,wr,O,A0,E⟩;have E5:=bz O;by_cases hli:i<b.length;refine I ?_;refine aa (aT (v:=A2) Aw ?_);have E1:=bD (hb.ext O) (k:=(i)) U;refine I ?_;refine li E1 (I ?_);have As:=dr A0;refine BS (λD2 Ap _ nm=>?_);have E7:=bn A0;have A0:=ab Ap A0;have E:=aa1 Ap E;have O:=xt O Ap;have Ab:World.ownsRow D2 A1.heap.size 33 2 (.slice (some ⟨A1.heap.size,0,none⟩) 1 1) [ao b i].length (ag [ao b i]):=aP nm Z Z;refine BS (λ_ Am _ B2=>?_);have A0:=ab Am A0;have E:=aa1 Am E;have Ab:=ab Am Ab;have O:=xt O Am;refine AP A0 (aa7 B2) (λAq Cr Ay Ao Av=>?_)
 have ny:∀Af,Af<i->ay Aq (H2 Af):=λAf hi=>ab0 Av (Ar Af hi) (Wr.own E Af hi);have E:=ad4 Ao Ar E;have od:=ab0 Av (aa5 (λg h1 h2=>by cases h1;have h3:A1.heap.size<_:=As _ h2;omega)) Ab;have Ab:=ab3 (aa5 (λg h1 h2=>by cases h1;have h3:A1.heap.size<_:=As _ h2;omega)) Ao Ab;have O:=bu A0 U U O Ao;have E6:=Ao.size;refine aa (aK (v:=Aq) Z ?_);refine I ?_;refine fO (I ?_);have D1:World.ownsRow Cr A1.heap.size 33 2 (.slice (some ⟨A1.heap.size,0,none⟩) 1 1) ((bR b) i).length (ag ((bR b) i)):=aP Ab Z Z;have CG:=bM (lo':=w.heap.size) U D1;have B0:∀zz,zz<i->ay (.slice (some ⟨A1.heap.size,0,none⟩) 1 1) (H2 zz):=Wr.far E Ab U;refine I ?_;exact bF ⟨i+1,bO H2 i (.slice (some ⟨A1.heap.size,0,none⟩) 1 1),Aq,rfl,rfl,rfl,U,(λj Ax=>dX ny od j Ax),U,O,(aP Ay Z (ek H2 i (.slice (some ⟨A1.heap.size,0,none⟩) 1 1)).symm),(by have h:=Wr.push E CG B0;rwa [nA]at h)⟩;refine I ?_;refine aa (aT (v:=A2) Aw ?_);refine aa (aK (v:=A2) Z ?_);refine I ?_;exact am (t:=2) (v:=A2) Z O (by have h:=pU A0 E;rw[show i=b.length by omega]at h;exact h.mono U) Z
def Qe {m:Nat}(hx0:In64 x0)(hx1:In64 x1)(hm:2+aF x0 4=(m:Int))(hn:1+aF x1 2=(n:Int))(hx:Rw w lo X (nJ xs))(hxc:xs.length<=CX):
 CL 10 #[.agg #[.int .i64 x0,.int .i64 x1,.slice X xs.length CX]] w (aH w λv w'=>∃A C Y CY B CB H G lo hi,w.heap.size<=lo/\hi<=w'.heap.size/\v=.agg #[.slice A m C,.slice Y m CY,.slice B m CB]/\eK lo hi w' A C Y CY B CB m H G (kaE (xs.take 40) n) (gE (xs.take 40) m) (yA (xs.take 40) m)):=by
 refine aD func10 Z (I ?_);refine bx (λAq Av O=>?_);have E:=Av.2;refine al dW (λ_ Ar W=>?_);have⟨O,E⟩:=bo Ar.2 O E;refine I ?_;refine bQ 11 ?_;refine aA (λ_ _ _ _=>by refine aa (iU (b:=w.heap.size) (o:=0) (off:=0) (oo:=0) rx Z Z iy Z Z ?_);refine I ?_;exact aE) ?_;refine sf ?_;refine aA (λ_ _ _ _=>by refine aa (iU (b:=w.heap.size) (o:=0) (off:=1) (oo:=1) rx Z Z iy Z Z ?_);refine I ?_;exact aE) ?_;refine sf ?_;refine aA (λ_ _ _ _=>by refine aa (iU (b:=w.heap.size) (o:=0) (off:=2) (oo:=2) rx Z Z B9 Z Z ?_);refine I ?_;exact aE) ?_;refine sf ?_;refine aA (λ_ _ _ _=>by refine aa (iU (b:=w.heap.size) (o:=0) (off:=2) (oo:=2) rx Z Z B9 Z Z ?_);refine I ?_;exact aE) ?_;refine sf ?_;refine aA (λ_ _ _ _=>by refine aa (XG (a:=((xs.length:Nat):Int)) (b:=40) (m:=(((xs.take 40).length:Nat):Int)) Z Z (by rw[List.length_take];split <;>omega) ?_);refine I ?_;exact aE) ?_;refine aA (λ_ _ _ _=>by refine aa (rr (A:=X) (m:=xs.length) (c:=CX) (j:=(xs.take 40).length) kB iy Z Z (by rw[List.length_take];omega) ?_);refine I ?_;exact aE) ?_;refine sf ?_;intro _ _ As _;have⟨O,W,E⟩:=ca As.2 O W E
 refine cl SR (HK (xs:=xs.take 40) hx0 hx1 hm hn (Rw.take40 (hx.ext E))) ?_;rintro _ _ Aw ⟨Ab,Ao,A1,Ap,A2,Am,Az,C0,Ax,B1,Ay,B0,rfl,Af⟩;have⟨O,W,E⟩:=ca Aw.2 O W E;refine aa (aZ (b:=Aq.heap.size) (o:=0) (vs:=[.slice Ab m Ao,.slice A1 m Ap,.slice A2 m Am]) ba Z Z Nd W (qa3 Z) (λ_ A0 wr=>?_));have O:=pb A0 O;have Af:=ad8 A0 U Af;have E:=bi A0 E;have B2:=gJ A0;refine I ?_;refine aW (v:=.agg #[.slice Ab m Ao,.slice A1 m Ap,.slice A2 m Am]) (ci  rfl ?_) E ⟨_,_,_,_,_,_,_,_,_,_,U,U,rfl,Af⟩;refine ai (t:=2) (cs:=[.slice Ab m Ao,.slice A1 m Ap,.slice A2 m Am]) (b:=Aq.heap.size) (o:=0) de Z ba ?_ ?_;exact Z;exact aa0 wr (i:=0) Z
def DR :
 CL 31 #[] w (aH w λv w'=>∃A C Y CY B CB,v=.agg #[.slice A 3 C,.slice Y 3 CY,.slice B 3 CB]/\ig w.heap.size w' A C Y CY B CB lj qo wd):=by
 refine aD func31 Z (I ?_);refine al dW (λ_ E0 O=>?_);have E:=E0.2;refine I ?_;refine clb fo (hc:=dp 1 1 U U) (hk:=?_);rintro _ _ ny rfl;have⟨O,E⟩:=bo ny.2 O E;refine clb fo (hc:=dp 1 1 U U) (hk:=?_);rintro _ _ od rfl;have⟨O,E⟩:=bo od.2 O E;refine clb fo (hc:=dp 1 1 U U) (hk:=?_);rintro _ Ay D1 rfl;have⟨O,E⟩:=bo D1.2 O E;refine aa (cE (vs:=[(0,.agg #[S ((bh 1 1).1),S ((bh 1 1).2)]),(1,.agg #[S ((bh 1 1).1),S ((bh 1 1).2)]),(2,.agg #[S ((bh 1 1).1),S ((bh 1 1).2)])]) (cells:=#[S ((bh 1 1).1),S ((bh 1 1).2),S ((bh 1 1).1),S ((bh 1 1).2),S ((bh 1 1).1),S ((bh 1 1).2)]) vY aU Z dc dc Hx Z dc (λAx B2 _ D2=>?_));have⟨O,E⟩:=bo B2 O E;have Az:mj Ax Ay.heap.size Ax.heap.size (some ⟨Ay.heap.size,0,none⟩) (ag [bh 1 1,bh 1 1,bh 1 1]):=ab5 (aa7 D2);refine clb SP (hc:=Bw (b:=[bh 1 1,bh 1 1,bh 1 1]) (Az).rw (by first|decide|omega)) (hk:=?_);rintro _ _ CG wr;have⟨O,E⟩:=bo CG.2 O E;obtain⟨Ab,A2,_,rfl,_,C0⟩:=wr;have W:=ab2 C0;refine clb fo (hc:=dp 10 1 U U) (hk:=?_);rintro _ _ Ar rfl;have O:=be Ar.2 O;have W:=aa4 Ar.2 W;have E:=xt E Ar.2;refine clb fo (hc:=dp 11 1 U U) (hk:=?_);rintro _ _ Av rfl;have O:=be Av.2 O;have W:=aa4 Av.2 W;have E:=xt E Av.2
 refine clb fo (hc:=dp 15 1 U U) (hk:=?_);rintro _ A0 nm rfl;have O:=be nm.2 O;have W:=aa4 nm.2 W;have E:=xt E nm.2;refine aa (cE (vs:=[(0,.agg #[S ((bh 10 1).1),S ((bh 10 1).2)]),(1,.agg #[S ((bh 11 1).1),S ((bh 11 1).2)]),(2,.agg #[S ((bh 15 1).1),S ((bh 15 1).2)])]) (cells:=#[S ((bh 10 1).1),S ((bh 10 1).2),S ((bh 11 1).1),S ((bh 11 1).2),S ((bh 15 1).1),S ((bh 15 1).2)]) vY aU Z dc dc Hx Z dc (λAw As _ Cr=>?_));have O:=be As O;have W:=aa4 As W;have E:=xt E As;have Am:mj Aw A0.heap.size Aw.heap.size (some ⟨A0.heap.size,0,none⟩) (ag [bh 10 1,bh 11 1,bh 15 1]):=ab5 (aa7 Cr);refine clb YW (hc:=Pb (n:=3) dc) (hk:=?_);rintro _ _ Ap B0;have O:=be Ap.2 O;have W:=aa4 Ap.2 W;have Am:=aa9 Ap.2 Am;have E:=xt E Ap.2;obtain⟨Af,A1,_,rfl,B1,E1⟩:=B0;have Aq:=ab2 E1;refine aa (bX (vs:=[(0,.slice Ab (([bh 1 1,bh 1 1,bh 1 1]).length) A2),(1,.slice (some ⟨A0.heap.size,0,none⟩) 3 3),(2,.slice Af 3 A1)]) (cells:=#[.slice Ab (([bh 1 1,bh 1 1,bh 1 1]).length) A2,.slice (some ⟨A0.heap.size,0,none⟩) 3 3,.slice Af 3 A1]) (pl:=[(0,1),(1,1),(2,1)]) de dW Hx Z Hx ?_)
 refine aa (aZ (b:=w.heap.size) (o:=0) (vs:=[.slice Ab (([bh 1 1,bh 1 1,bh 1 1]).length) A2,.slice (some ⟨A0.heap.size,0,none⟩) 3 3,.slice Af 3 A1]) ba Z Z Nd O (qa3 Z) (λ_ Ao E4=>?_));have W:=ad0 Ao U W;have Am:=ab8 Ao U Am;have Aq:=ad0 Ao U Aq;have E:=bi Ao E;refine I ?_;refine aW (v:=.agg #[.slice Ab (([bh 1 1,bh 1 1,bh 1 1]).length) A2,.slice (some ⟨A0.heap.size,0,none⟩) 3 3,.slice Af 3 A1]) (ci  rfl ?_) E ⟨_,_,_,_,_,_,rfl,⟨⟨_,((W).mt).mono U⟩,((Am).rw).mono U,⟨_,((Aq).mt).mono U⟩,B1⟩⟩;refine ai (t:=0) (cs:=[.slice Ab (([bh 1 1,bh 1 1,bh 1 1]).length) A2,.slice (some ⟨A0.heap.size,0,none⟩) 3 3,.slice Af 3 A1]) (b:=w.heap.size) (o:=0) de Z ba ?_ ?_;exact Z;exact aa0 E4 (i:=0) Z
end
section
set_option maxRecDepth 100000
def Ia (m:Nat)(V:Rows):Rows:=oR (dJ m V)
def y7 (m k:Nat)(L V:Rows):Rows:=oR (dw k (λj=>mc L m j) m (Ia m V))
def F0 (m k:Nat)(L V:Rows):Rows:=oR (dw k (y7 m k L V) m L)
def r4 (m k:Nat)(L V:Rows):Rows:=oR (dJ k (F0 m k L V))
def Yf (m k:Nat)(L V:Rows)(ys:List R):Rows:=oR (dw k (y7 m k L V) m (bR ys))
def Qf (m k:Nat)(L V:Rows)(ys:List R):Rows:=oR (dw k (r4 m k L V) k (Yf m k L V ys))
def RU (m k:Nat)(L V:Rows)(ys:List R):Rows:=oR (dw m L k (Qf m k L V ys))
def vA (P:Rows)(ys:List R)(i:Nat):R:=(rN (dI (ao ys i) (ao (P i) 0)),rD (dI (ao ys i) (ao (P i) 0)))
def mo (m k:Nat)(L V:Rows)(ys:List R):List R:=(List.range m).map (vA (RU m k L V ys) ys)
def Yg (m k:Nat)(L V:Rows)(ys:List R):Rows:=oR (dw 1 (λj=>mc (bR (mo m k L V ys)) m j) m (Ia m V))
def y8 (m k:Nat)(L V:Rows)(ys:List R):Rows:=oR (dw 1 (Yg m k L V ys) m (bR (mo m k L V ys)))
def qq (m k:Nat)(L V:Rows)(ys:List R):List R:=(List.range k).map λi=>ao (Qf m k L V ys i) 0
def By (m k:Nat)(L V:Rows)(ys:List R):Bool:=
 (dJ m V).isSome&&(dw k (λj=>mc L m j) m (Ia m V)).isSome&&(dw k (y7 m k L V) m L).isSome&&(dJ k (F0 m k L V)).isSome&&(dw k (y7 m k L V) m (bR ys)).isSome&&(dw k (r4 m k L V) k (Yf m k L V ys)).isSome&&(dw m L k (Qf m k L V ys)).isSome&&
 (List.range m).all (λi=>decide (0<(RU m k L V ys i).length)&&(dI (ao ys i) (ao (RU m k L V ys i) 0)).isSome)&&vM m (bR (mo m k L V ys))&&(dw 1 (λj=>mc (bR (mo m k L V ys)) m j) m (Ia m V)).isSome&&(dw 1 (Yg m k L V ys) m (bR (mo m k L V ys))).isSome&&(List.range k).all (λi=>decide (0<(Qf m k L V ys i).length))&&decide (0<(y8 m k L V ys 0).length)
def iS {o:Option Rows}(h:o.isSome=true):o=some (oR o):=by cases o;cases h;rfl
def gH {f:Nat->R}(h:i<n):ao ((List.range n).map f) i=f i:=by unfold ao;simp[List.getD,h]
def Mo {a b:R}(h:(dI a b).isSome=true):dI a b=some (rN (dI a b),rD (dI a b)):=by
 cases e:dI a b with
 |none=>rw[e]at h;cases h
 |some q=>rfl
def y9 {m:Nat}{L V:Rows}{ys:List R}(h:By m k L V ys=true):
 DI m k L V ys (Ia m V) (y7 m k L V) (F0 m k L V) (r4 m k L V) (Yf m k L V ys) (Qf m k L V ys) (RU m k L V ys) (mo m k L V ys) (qq m k L V ys) (Yg m k L V ys) (y8 m k L V ys):=by
 unfold By at h
 simp only[Bool.and_eq_true]at h
 obtain⟨⟨⟨⟨⟨⟨⟨⟨⟨⟨⟨⟨h1,h2⟩,h3⟩,h4⟩,Am⟩,Ab⟩,W⟩,A1⟩,Ao⟩,O⟩,Af⟩,A0⟩,A2⟩:=h
 have E:∀i,i<m->0<(RU m k L V ys i).length/\(dI (ao ys i) (ao (RU m k L V ys i) 0)).isSome=true:=λi hi=>by
  have:=List.all_eq_true.1 A1 i (List.mem_range.2 hi)
  simpa only[Bool.and_eq_true,decide_eq_true_eq]using this
 exact⟨iS h1,iS h2,iS h3,iS h4,iS Am,iS Ab,iS W,λi hi=>(E i hi).1,by simp[mo],λi hi=>by rw[mo,gH hi];exact Mo (E i hi).2,Ao,iS O,iS Af,
  λi hi=>by simpa using List.all_eq_true.1 A0 i (List.mem_range.2 hi),by simp[qq],λi hi=>by rw[qq,gH hi],by simpa using A2⟩
def RV (ha:fits a=true)(hb:fits b=true)(h0:b≠0):qW (ae a) (ae b)=some (qR a b):=by
 unfold qW
 rw[br ha,br hb,Bool.and_self,if_pos Z,aJ,aJ,te h0]
def F1 (ha:-1000<=a/\a<=1000)(hb:-1000<=b/\b<=1000)(h0:b≠0):bh a b=qR a b:=by
 unfold bh;rw[RV (iM ha) (iM hb) h0];rfl
def ss:Rows:=λi=>(qo i).take 2
def su:List R:=wd.take 2
def rb:eN lj qo wd:=⟨by decide +kernel,by decide +kernel,by decide +kernel,by decide +kernel,by decide +kernel,by decide +kernel⟩
def Mp:eN lj ss su:=⟨by decide +kernel,by decide +kernel,by decide +kernel,by decide +kernel,by decide +kernel,by decide +kernel⟩
def exE:By 3 1 lj qo wd=true:=by decide +kernel
def ZV:By 2 1 lj ss su=true:=by decide +kernel
def exX:qq 3 1 lj qo wd=[bh 12 1]:=by decide +kernel
def ZW:(r4 3 1 lj qo 0).length=1/\ao (r4 3 1 lj qo 0) 0=bh 1 3:=by decide +kernel
def exS:ao (y8 3 1 lj qo wd 0) 0=qR 14 1:=by decide +kernel
def ZX:ao (y8 2 1 lj ss su 0) 0=qR 1 2:=by decide +kernel
def ZY:qj lj qo wd [0,1,2] lj qo wd:=
 ⟨by decide +kernel,λj E=>by match j,E with|0,_=>decide|1,_=>decide,by decide,λi hi=>by match i,hi with|0,_=>rfl|1,_=>rfl|2,_=>rfl,by decide +kernel,by decide +kernel,rfl,by decide +kernel⟩
def Yh:qj lj qo wd [0,1] lj ss su:=
 ⟨by decide +kernel,λj E=>by match j,E with|0,_=>decide,by decide,λi hi=>by match i,hi with|0,_=>rfl|1,_=>rfl,by decide +kernel,by decide +kernel,rfl,by decide +kernel⟩
section
variable {Y B:Option Addr}{CY CB:Nat}
def Bz (hD:eH w A C Y CY B CB lj qo wd)(ht:Tb w):
 CL 14 #[.agg #[.slice A 3 C,.slice Y 3 CY,.slice B 3 CB]] w (aH w λv w'=>∃u,v=.tuple #[u,.int .i64 0]/\oK w.heap.size w' u 1 [bh 12 1] (r4 3 1 lj qo) (qR 14 1) 2):=by
 have h:=yR hD rb (k:=1) Z (y9 exE) ht
 rw[show qq wd.length 1 lj qo wd=[bh 12 1]from exX,show ao (y8 wd.length 1 lj qo wd 0) 0=qR 14 1 from exS]at h
 exact h
def HL (hD:eH w A C Y CY B CB lj ss su)(ht:Tb w):
 CL 14 #[.agg #[.slice A 2 C,.slice Y 2 CY,.slice B 2 CB]] w (aH w λv w'=>∃u,v=.tuple #[u,.int .i64 0]/\oK w.heap.size w' u 1 (qq 2 1 lj ss su) (r4 2 1 lj ss) (qR 1 2) 1):=by
 have h:=yR hD Mp (k:=1) Z (y9 ZV) ht
 rw[show ao (y8 su.length 1 lj ss su 0) 0=qR 1 2 from ZX]at h
 exact h
def Mq (hD:eH w A C Y CY B CB lj qo wd)(hR:Rw w lo5 qr (ints [0,1]))(ht:Tb w):
 CL 22 #[.agg #[.slice A 3 C,.slice Y 3 CY,.slice B 3 CB],.slice qr 2 CR] w (aH w λv w'=>∃u,v=.tuple #[u,.int .i64 0]/\∃A C Y CY B CB,u=.agg #[.slice A 2 C,.slice Y 2 CY,.slice B 2 CB]/\ig w.heap.size w' A C Y CY B CB lj ss su):=
 y0 hD rb hR Yh Mp ht
def Mr (hD:eH w A C Y CY B CB lj qo wd)(hz:Rw w lo4 X (ag [bh 12 1]))(ht:Tb w):
 CL 24 #[.agg #[.slice A 3 C,.slice Y 3 CY,.slice B 3 CB],.slice X 1 CX] w (aH w λv w'=>∃u,v=.tuple #[u,.int .i64 0]/\Ba w.heap.size w' u [bh (-2) 1,bh (-1) 1,bh 3 1]):=by
 exact PH hD rb (zs:=[bh 12 1]) (CX:=CX) hz (P:=oR (dw 3 lj 1 (bR [bh 12 1]))) (rs:=[bh (-2) 1,bh (-1) 1,bh 3 1]) RK (iS RK) RK Z RK ht
def Ms (hD:eH w A C Y CY B CB lj qo wd)(ht:Tb w):
 CL 32 #[.agg #[.slice A 3 C,.slice Y 3 CY,.slice B 3 CB]] w (aH w λv w'=>v=.bool true):=by
 obtain⟨⟨_,_,hM⟩,⟨_,hy⟩,⟨_,_,hV⟩,hc⟩:=hD
 exact gV (ys:=wd) (L:=lj) (V:=qo) hM (dP rb.hv) hy hV (dP rb.hv3) hc rb.hv rb.hv3 rb.hVl rb.hLl rb.hyo rb.hp ht
def DT (hD:eH w A C Y CY B CB lj qo wd)(h12:pl<=12)(hC3:∀A C Y CY B CB W,eH W A C Y CY B CB lj qo wd->Tb W->CL 19 #[.agg #[.slice A 3 C,.slice Y 3 CY,.slice B 3 CB],.agg #[S (bh 1 20).1,S (bh 1 20).2],.int .i64 pl] W (aH W λv _=>v=.tuple #[.int .i64 2,.int .i64 0]))(hC2:∀A C Y CY B CB W,eH W A C Y CY B CB lj ss su->Tb W->CL 19 #[.agg #[.slice A 2 C,.slice Y 2 CY,.slice B 2 CB],.agg #[S (bh 1 20).1,S (bh 1 20).2],.int .i64 pl] W (aH W λv _=>v=.tuple #[.int .i64 1,.int .i64 0]))(ht:Tb w):
 CL 21 #[.agg #[.slice A 3 C,.slice Y 3 CY,.slice B 3 CB],.agg #[S (bh 1 20).1,S (bh 1 20).2],.int .i64 pl] w (aH w λv w'=>∃u,v=.tuple #[u,.int .i64 0]/\w'.ownsRow w.heap.size 3 1 u 2 (ints [0,1])):=by
 rw[F1 dc dc dc]at hC3 hC2 ⊢
 exact Mh hD rb Z ⟨by decide,by decide,by decide⟩ h12 dc dc ZY rb Yh Mp hC3 hC2 ht
end
end
section
attribute [local irreducible] wpListIn Code.wpIn Oper.wpIn Exit.then Exit.inBlock Exit.noGoto
set_option maxHeartbeats 40000000
def Qg {u:Value}{cs:List Value}{t:TypeId}(h:w.ownsRow lo t 1 u k cs):∃P cp,u=.slice P k cp/\mj w lo w.heap.size P cs:=⟨sA u,sC u,dk h,ab5 (fE h)⟩
structure mm (hi:Nat)(w:World)(A:Option Addr)(C:Nat)(Y:Option Addr)(CY:Nat)(B:Option Addr)(CB:Nat)(L V:Rows)(ys:List R):Prop where
 m:∃H,nB w 0 hi A ys.length H L
 y:mj w 0 hi Y (ag ys)
 v:∃G,nB w 0 hi B ys.length G V
 c:ys.length<=CB
section
variable {hi:Nat}{w':World}{Y:Option Addr}{CY:Nat}{B:Option Addr}{CB:Nat}{L V:Rows}{ys:List R}
def mm.ext (k:aO w w')(h:mm hi w A C Y CY B CB L V ys):mm hi w' A C Y CY B CB L V ys:=by
 obtain⟨⟨b,c⟩,e,⟨g,i⟩,j⟩:=h
 exact⟨⟨b,c.ext k⟩,e.ext k,⟨g,i.ext k⟩,j⟩
def ac7:=@mm.ext
def mm.put {x:Nat}(k:ee w w' x)(hx:x<0\/hi<=x)(h:mm hi w A C Y CY B CB L V ys):mm hi w' A C Y CY B CB L V ys:=by
 obtain⟨⟨b,c⟩,e,⟨g,i⟩,j⟩:=h
 exact⟨⟨b,c.put k hx⟩,e.put k hx,⟨g,i.put k hx⟩,j⟩
def mm.of (h:ig lo w A C Y CY B CB L V ys):mm w.heap.size w A C Y CY B CB L V ys:=by
 obtain⟨⟨b,c⟩,e,⟨g,i⟩,j⟩:=h
 exact⟨⟨b,ab2 (c.mono (qa7 _))⟩,ab5 (e.mono (qa7 _)),⟨g,ab2 (i.mono (qa7 _))⟩,j⟩
def mm.des (h:mm hi w A C Y CY B CB L V ys):eH w A C Y CY B CB L V ys:=by
 obtain⟨⟨b,c⟩,e,⟨g,i⟩,j⟩:=h
 exact⟨⟨_,b,c.mt⟩,⟨_,e.rw⟩,⟨_,g,i.mt⟩,j⟩
end
set_option maxHeartbeats 4000000 in
set_option maxRecDepth 100000 in
def HM {a:Addr}(hE:Er w a)(hC3:∀A C Y CY B CB W,eH W A C Y CY B CB lj qo wd->Tb W->CL 19 #[.agg #[.slice A 3 C,.slice Y 3 CY,.slice B 3 CB],.agg #[S (bh 1 20).1,S (bh 1 20).2],.int .i64 6] W (aH W λv _=>v=.tuple #[.int .i64 2,.int .i64 0]))(hC2:∀A C Y CY B CB W,eH W A C Y CY B CB lj ss su->Tb W->CL 19 #[.agg #[.slice A 2 C,.slice Y 2 CY,.slice B 2 CB],.agg #[S (bh 1 20).1,S (bh 1 20).2],.int .i64 6] W (aH W λv _=>v=.tuple #[.int .i64 1,.int .i64 0]))(ht:Tb w):
 CL 9 #[] w (aH w λv w'=>v=.bool true):=by
 refine aD func9 Z (I ?_);refine cl SQ DR ?_;rintro _ B0 an ⟨D2,nm,C0,Az,B2,Ay,rfl,arr⟩;have E:=an.2;have A0:=mm.of arr;refine al dW (λ_ GC co=>?_);have A0:=ac7 GC.2 A0;have E:=xt E GC.2;refine aa (aZ (b:=B0.heap.size) (o:=0) (vs:=[.slice D2 3 nm,.slice C0 3 Az,.slice B2 3 Ay]) ba Z Z Nd co (qa3 Z) (λ_ FR A1=>?_));have A0:=mm.put FR U A0;have E:=bi FR E;have gs:=gJ FR;refine I ?_;(try refine aa (aN (cs:=[.slice D2 3 nm,.slice C0 3 Az,.slice B2 3 Ay]) (b:=B0.heap.size) (o:=0) de Z ba Z (aa0 A1 (i:=0) Z) ?_));refine cl oh (Bz (A0).des (ht.ext E)) ?_;rintro _ d0 L3 ⟨g1,rfl,od,d5,eB,fx,ny,rfl,h6,a2,g3,d3⟩;have A0:=ac7 L3.2 A0;have⟨A1,E⟩:=bo L3.2 A1 E;have Ab:=ab5 a2;have A2:=ab2 d3;refine I ?_;refine al cM (λ_ E5 ad=>?_);have A0:=ac7 E5.2 A0;have A1:=be E5.2 A1;have Ab:=aa9 E5.2 Ab;have A2:=aa4 E5.2 A2;have E:=xt E E5.2;refine aa (aZ (b:=d0.heap.size) (o:=0) (vs:=[.slice od 1 d5,.slice eB 1 fx,S (qR 14 1).1,S (qR 14 1).2,.int .i64 2]) cH Z Z Nd ad (qa3 Z) (λ_ E0 Am=>?_))
 have A0:=mm.put E0 U A0;have A1:=pb E0 A1;have Ab:=ab8 E0 U Ab;have A2:=ad0 E0 U A2;have E:=bi E0 E;have h7:=gJ E0;refine I ?_;refine bQ 8 ?_;refine aA (λ_ _ cf _=>by have A1:=be cf A1;(try refine aa (aN (cs:=[.slice D2 3 nm,.slice C0 3 Az,.slice B2 3 Ay]) (b:=B0.heap.size) (o:=0) de Z ba Z (aa0 A1 (i:=0) Z) ?_));refine I ?_;exact aE) ?_;refine aX (V:=.agg #[S ((bh 1 20).1),S ((bh 1 20).2)]) (λ_ _ _ _=>?_) ?_;refine clb fo (hc:=dp 1 20 U U) (hk:=?_);rintro _ _ bp rfl;refine I ?_;exact fs ⟨bp.2,rfl⟩;refine aX (V:=.tuple #[.int .i64 2,.int .i64 0]) (λ_ _ G0 _=>?_) ?_;have A0:=ac7 G0 A0;refine cl xK (hC3 _ _ _ _ _ _ _ (A0).des (ht.ext (xt E G0))) ?_;rintro _ _ a4 rfl;refine I ?_;exact fs ⟨a4.2,rfl⟩;refine sf ?_;intro _ _ E4 _;have A0:=ac7 E4.2 A0;have A1:=be E4.2 A1;have Ab:=aa9 E4.2 Ab;have A2:=aa4 E4.2 A2;have⟨Am,E⟩:=bo E4.2 Am E;refine I ?_;refine bQ 8 ?_;refine aA (λ_ _ fy _=>by have A1:=be fy A1;(try refine aa (aN (cs:=[.slice D2 3 nm,.slice C0 3 Az,.slice B2 3 Ay]) (b:=B0.heap.size) (o:=0) de Z ba Z (aa0 A1 (i:=0) Z) ?_));refine I ?_;exact aE) ?_;refine aX (V:=.agg #[S ((bh 1 20).1),S ((bh 1 20).2)]) (λ_ _ _ _=>?_) ?_
 refine clb fo (hc:=dp 1 20 U U) (hk:=?_);rintro _ _ eS rfl;refine I ?_;exact fs ⟨eS.2,rfl⟩;refine bY (fun(v:Value) (W:World)=>∃P O,v=Value.tuple #[Value.slice P 2 O,.int .i64 0]/\Rw W 0 P (ints [0,1])) (hs:=λ_ _ _ k h=>by obtain⟨P,O,e,r⟩:=h;exact⟨P,O,e,r.ext k⟩) (λ_ _ L2 _=>?_) ?_;have A0:=ac7 L2 A0;refine clb SL (hc:=DT (A0).des dc hC3 hC2 (ht.ext (xt E L2))) (hk:=?_);rintro _ _ ej ⟨h8,rfl,cc⟩;obtain⟨_,_,rfl,eW⟩:=Qg cc;refine I ?_;exact fs ⟨ej.2,⟨_,_,rfl,((eW).rw).mono (Nat.zero_le _)⟩⟩;refine bY (fun(v:Value) (W:World)=>∃P O,v=Value.tuple #[Value.slice P 2 O,.int .i64 0]/\Rw W 0 P (ints [0,1])) (hs:=λ_ _ _ k h=>by obtain⟨P,O,e,r⟩:=h;exact⟨P,O,e,r.ext k⟩) (λa3 e5 _ eq=>?_) ?_;have fS:∃P O,a3 32=Value.tuple #[Value.slice P 2 O,.int .i64 0]/\Rw e5 0 P (ints [0,1]):=(eq 2 32 Z Z);(with_reducible obtain⟨_,_,_,eC⟩:=fS);have V2:=ab5 eC;refine I ?_;exact fs ⟨aa3 _,⟨_,_,rfl,((V2).rw).mono (Nat.zero_le _)⟩⟩;refine bY (fun(v:Value) (W:World)=>∃P O,v=Value.slice P 2 O/\Rw W 0 P (ints [0,1])) (hs:=λ_ _ _ k h=>by obtain⟨P,O,e,r⟩:=h;exact⟨P,O,e,r.ext k⟩) (λc9 et _ cm=>?_) ?_;have ea:∃P O,c9 29=Value.tuple #[Value.slice P 2 O,.int .i64 0]/\Rw et 0 P (ints [0,1]):=(cm 3 29 Z Z)
 (with_reducible obtain⟨d1,bd,fT,eg⟩:=ea);have Wa:=ab5 eg;refine aa (cX (v:=.slice d1 2 bd) (by exact fT) Z ?_);refine I ?_;exact fs ⟨aa3 _,⟨_,_,rfl,((Wa).rw).mono (Nat.zero_le _)⟩⟩;refine aA (λfl a9 _ X0=>by have d4:∃P O,fl 29=Value.tuple #[Value.slice P 2 O,.int .i64 0]/\Rw a9 0 P (ints [0,1]):=(X0 3 29 Z Z);(with_reducible obtain⟨_,_,ask,fP⟩:=d4);have gn:=ab5 fP;refine aa (cX (v:=.int .i64 0) (by exact ask) Z ?_);refine I ?_;exact aE) ?_;refine bY (fun(v:Value) (W:World)=>∃P O,v=Value.slice P 2 O/\Rw W 0 P (ints [0,1])) (hs:=λ_ _ _ k h=>by obtain⟨P,O,e,r⟩:=h;exact⟨P,O,e,r.ext k⟩) (λft dC _ bZ=>?_) ?_;have a5:∃P O,ft 33=Value.slice P 2 O/\Rw dC 0 P (ints [0,1]):=(bZ 4 33 Z Z);(with_reducible obtain⟨_,_,_,Ne⟩:=a5);have f9:=ab5 Ne;refine I ?_;exact fs ⟨aa3 _,⟨_,_,rfl,((f9).rw).mono (Nat.zero_le _)⟩⟩;refine sf ?_;intro ed S9 E6 N0;have A0:=ac7 E6.2 A0;have A1:=be E6.2 A1;have Ab:=aa9 E6.2 Ab;have A2:=aa4 E6.2 A2;have⟨Am,E⟩:=bo E6.2 Am E;have eb:∃P O,ed 6=Value.slice P 2 O/\Rw S9 0 P (ints [0,1]):=(N0 6 6 Z Z);(with_reducible obtain⟨_,_,_,fR⟩:=eb);have Af:=ab5 fR;refine I ?_
 (try refine aa (aN (cs:=[.slice D2 3 nm,.slice C0 3 Az,.slice B2 3 Ay]) (b:=B0.heap.size) (o:=0) de Z ba Z (aa0 A1 (i:=0) Z) ?_));refine TK (λ_ CG _ fi=>?_);have A0:=ac7 CG A0;have A1:=be CG A1;have Ab:=aa9 CG Ab;have A2:=aa4 CG A2;have Am:=be CG Am;have Af:=aa9 CG Af;have E:=xt E CG;refine cl Cm (Mq (A0).des (aa7 fi) (ht.ext E)) ?_;rintro _ L1 B1 ⟨gW,rfl,Ix,H4,KY,Kp,K3,L4,rfl,cT⟩;have A0:=ac7 B1.2 A0;have A1:=be B1.2 A1;have Ab:=aa9 B1.2 Ab;have A2:=aa4 B1.2 A2;have Am:=be B1.2 Am;have Af:=aa9 B1.2 Af;have E:=xt E B1.2;have Ax:=mm.of cT;refine I ?_;refine al dW (λ_ Aw cp=>?_);have A0:=ac7 Aw.2 A0;have A1:=be Aw.2 A1;have Ab:=aa9 Aw.2 Ab;have A2:=aa4 Aw.2 A2;have Am:=be Aw.2 Am;have Af:=aa9 Aw.2 Af;have Ax:=ac7 Aw.2 Ax;have E:=xt E Aw.2;refine aa (aZ (b:=L1.heap.size) (o:=0) (vs:=[.slice Ix 2 H4,.slice KY 2 Kp,.slice K3 2 L4]) ba Z Z Nd cp (qa3 Z) (λ_ Aq Ap=>?_));have A0:=mm.put Aq U A0;have A1:=pb Aq A1;have Ab:=ab8 Aq U Ab;have A2:=ad0 Aq U A2;have Am:=pb Aq Am;have Af:=ab8 Aq U Af;have Ax:=mm.put Aq U Ax;have E:=bi Aq E;have g2:=gJ Aq
 refine I ?_;refine bQ 8 ?_;refine aA (λ_ _ cb _=>by have Ap:=be cb Ap;(try refine aa (aN (cs:=[.slice Ix 2 H4,.slice KY 2 Kp,.slice K3 2 L4]) (b:=L1.heap.size) (o:=0) de Z ba Z (aa0 Ap (i:=0) Z) ?_));refine I ?_;exact aE) ?_;refine aX (V:=.agg #[S ((bh 1 20).1),S ((bh 1 20).2)]) (λ_ _ _ _=>?_) ?_;refine clb fo (hc:=dp 1 20 U U) (hk:=?_);rintro _ _ eX rfl;refine I ?_;exact fs ⟨eX.2,rfl⟩;refine aX (V:=.tuple #[.int .i64 1,.int .i64 0]) (λ_ _ Li _=>?_) ?_;have Ax:=ac7 Li Ax;refine cl xK (hC2 _ _ _ _ _ _ _ (Ax).des (ht.ext (xt E Li))) ?_;rintro _ _ dL rfl;refine I ?_;exact fs ⟨dL.2,rfl⟩;refine sf ?_;intro _ _ D1 _;have A0:=ac7 D1.2 A0;have A1:=be D1.2 A1;have Ab:=aa9 D1.2 Ab;have A2:=aa4 D1.2 A2;have Am:=be D1.2 Am;have Af:=aa9 D1.2 Af;have⟨Ap,E⟩:=bo D1.2 Ap E;refine I ?_;refine bQ 9 ?_;refine aA (λ_ _ cq _=>by have A1:=be cq A1;(try refine aa (aN (cs:=[.slice D2 3 nm,.slice C0 3 Az,.slice B2 3 Ay]) (b:=B0.heap.size) (o:=0) de Z ba Z (aa0 A1 (i:=0) Z) ?_));refine I ?_;exact aE) ?_;refine aX (V:=.agg #[S ((bh 12 1).1),S ((bh 12 1).2)]) (λ_ _ _ _=>?_) ?_;refine clb fo (hc:=dp 12 1 U U) (hk:=?_);rintro _ _ Vm rfl;refine I ?_;exact fs ⟨Vm.2,rfl⟩
 refine bY (fun(v:Value) (W:World)=>∃P O,v=Value.slice P 1 O/\Rw W 0 P (ag [bh 12 1])) (hs:=λ_ _ _ k h=>by obtain⟨P,O,e,r⟩:=h;exact⟨P,O,e,r.ext k⟩) (λ_ KC _ _=>?_) ?_;refine BS (λK2 bq _ cx=>?_);have eQ:mj K2 KC.heap.size K2.heap.size (some ⟨KC.heap.size,0,none⟩) (ag [bh 12 1]):=ab5 (aa7 cx);refine I ?_;exact fs ⟨bq,⟨_,_,rfl,((eQ).rw).mono (Nat.zero_le _)⟩⟩;refine bY (fun(v:Value) (W:World)=>∃P O,v=Value.tuple #[Value.slice P 3 O,.int .i64 0]/\Rw W 0 P (ag [bh (-2) 1,bh (-1) 1,bh 3 1])) (hs:=λ_ _ _ k h=>by obtain⟨P,O,e,r⟩:=h;exact⟨P,O,e,r.ext k⟩) (λbv cy La cv=>?_) ?_;have A0:=ac7 La A0;have fX:∃P O,bv 50=Value.slice P 1 O/\Rw cy 0 P (ag [bh 12 1]):=(cv 2 50 Z Z);(with_reducible obtain⟨_,_,fN,No⟩:=fX);have ac:=ab5 No;refine cl SN (Mr (A0).des (ac).rw (ht.ext (xt E La))) ?_ (av Z (av (by exact fN) Z));rintro _ _ X2 ⟨g0,rfl,gv,gb,rfl,h5,ce⟩;have W2:=ab5 ce;refine I ?_;exact fs ⟨X2.2,⟨_,_,rfl,((W2).rw).mono (Nat.zero_le _)⟩⟩;refine bY (fun(v:Value) (W:World)=>∃P O,v=Value.tuple #[Value.slice P 3 O,.int .i64 0]/\Rw W 0 P (ag [bh (-2) 1,bh (-1) 1,bh 3 1])) (hs:=λ_ _ _ k h=>by obtain⟨P,O,e,r⟩:=h;exact⟨P,O,e,r.ext k⟩) (λct dq _ P2=>?_) ?_
 have fC:∃P O,ct 51=Value.tuple #[Value.slice P 3 O,.int .i64 0]/\Rw dq 0 P (ag [bh (-2) 1,bh (-1) 1,bh 3 1]):=(P2 3 51 Z Z);(with_reducible obtain⟨_,_,_,fb⟩:=fC);have eP:=ab5 fb;refine I ?_;exact fs ⟨aa3 _,⟨_,_,rfl,((eP).rw).mono (Nat.zero_le _)⟩⟩;refine bY (fun(v:Value) (W:World)=>∃P O,v=Value.slice P 3 O/\Rw W 0 P (ag [bh (-2) 1,bh (-1) 1,bh 3 1])) (hs:=λ_ _ _ k h=>by obtain⟨P,O,e,r⟩:=h;exact⟨P,O,e,r.ext k⟩) (λWV Lj _ ch=>?_) ?_;have d6:∃P O,WV 47=Value.tuple #[Value.slice P 3 O,.int .i64 0]/\Rw Lj 0 P (ag [bh (-2) 1,bh (-1) 1,bh 3 1]):=(ch 4 47 Z Z);(with_reducible obtain⟨e4,fG,eD,cw⟩:=d6);have a0:=ab5 cw;refine aa (cX (v:=.slice e4 3 fG) (by exact eD) Z ?_);refine I ?_;exact fs ⟨aa3 _,⟨_,_,rfl,((a0).rw).mono (Nat.zero_le _)⟩⟩;refine aA (λfQ S0 _ fz=>by have W3:∃P O,fQ 47=Value.tuple #[Value.slice P 3 O,.int .i64 0]/\Rw S0 0 P (ag [bh (-2) 1,bh (-1) 1,bh 3 1]):=(fz 4 47 Z Z);(with_reducible obtain⟨_,_,eG,at2⟩:=W3);have h0:=ab5 at2;refine aa (cX (v:=.int .i64 0) (by exact eG) Z ?_);refine I ?_;exact aE) ?_
 refine bY (fun(v:Value) (W:World)=>∃P O,v=Value.slice P 3 O/\Rw W 0 P (ag [bh (-2) 1,bh (-1) 1,bh 3 1])) (hs:=λ_ _ _ k h=>by obtain⟨P,O,e,r⟩:=h;exact⟨P,O,e,r.ext k⟩) (λat3 at4 _ fa=>?_) ?_;have cz:∃P O,at3 52=Value.slice P 3 O/\Rw at4 0 P (ag [bh (-2) 1,bh (-1) 1,bh 3 1]):=(fa 5 52 Z Z);(with_reducible obtain⟨_,_,_,T2⟩:=cz);have P1:=ab5 T2;refine I ?_;exact fs ⟨aa3 _,⟨_,_,rfl,((P1).rw).mono (Nat.zero_le _)⟩⟩;refine sf ?_;intro Lk fc Cr W0;have A0:=ac7 Cr.2 A0;have A1:=be Cr.2 A1;have Ab:=aa9 Cr.2 Ab;have A2:=aa4 Cr.2 A2;have Am:=be Cr.2 Am;have Af:=aa9 Cr.2 Af;have⟨Ap,E⟩:=bo Cr.2 Ap E;have Rm:∃P O,Lk 12=Value.slice P 3 O/\Rw fc 0 P (ag [bh (-2) 1,bh (-1) 1,bh 3 1]):=(W0 7 12 Z Z);(with_reducible obtain⟨_,_,_,T3⟩:=Rm);have Ao:=ab5 T3;refine I ?_;refine cl oh (LE (Er.ext E hE) (ht.ext E)) ?_;rintro _ VW Av rfl;have A0:=ac7 Av.2 A0;have A1:=be Av.2 A1;have Ab:=aa9 Av.2 Ab;have A2:=aa4 Av.2 A2;have Am:=be Av.2 Am;have Af:=aa9 Av.2 Af;have Ap:=be Av.2 Ap;have Ao:=aa9 Av.2 Ao;have E:=xt E Av.2;refine I ?_;refine al cM (λ_ As cr=>?_);have A0:=ac7 As.2 A0;have A1:=be As.2 A1;have Ab:=aa9 As.2 Ab;have A2:=aa4 As.2 A2;have Am:=be As.2 Am;have Af:=aa9 As.2 Af
 have Ap:=be As.2 Ap;have Ao:=aa9 As.2 Ao;have E:=xt E As.2;refine aa (aZ (b:=VW.heap.size) (o:=0) (vs:=[.slice none 0 0,.slice none 0 0,S [],S [],.int .i64 0]) cH Z Z Nd cr (qa3 Z) (λ_ Ar _=>?_));have A0:=mm.put Ar U A0;have A1:=pb Ar A1;have Ab:=ab8 Ar U Ab;have A2:=ad0 Ar U A2;have Am:=pb Ar Am;have Af:=ab8 Ar U Af;have Ap:=pb Ar Ap;have Ao:=ab8 Ar U Ao;have E:=bi Ar E;have fu:=aa8 (A2).mt (i:=0) U;refine I ?_;refine fM fu ?_ (i:=0);refine I ?_;refine bQ 31 ?_;refine sf ?_;refine aA (λ_ _ f3 _=>by have Ab:=aa9 f3 Ab;have bb:=bD (Ab).rw (k:=0) (show 0<1 by decide);refine I ?_;refine li bb ?_ (i:=0) (hlt:=(show 0<1 by decide));refine I ?_;exact aE) ?_;refine aA (λ_ _ e3 _=>by have Ab:=aa9 e3 Ab;have gr:=bD (Ab).rw (k:=0) (show 0<1 by decide);refine I ?_;exact aE) ?_;refine aX (V:=.agg #[S ((bh 12 1).1),S ((bh 12 1).2)]) (λ_ _ _ _=>?_) ?_;refine clb fo (hc:=dp 12 1 U U) (hk:=?_);rintro _ _ fW rfl;refine I ?_;exact fs ⟨fW.2,rfl⟩;refine aA (λ_ _ _ _=>by refine aa (yv (a:=ao [bh 12 1] 0) (b:=bh 12 1) (q:=decide ((ao [bh 12 1] 0)=(bh 12 1))) Z Z Z ?_);refine I ?_;exact aE) ?_;refine sf ?_
 refine aA (λ_ _ er _=>by have A2:=aa4 er A2;have bW:=aa8 (A2).mt (i:=0) U;refine I ?_;refine fM bW ?_ (i:=0);refine I ?_;exact aE) ?_;refine aA (λ_ _ b0 _=>by have A2:=aa4 b0 A2;have g4:=aa8 (A2).mt (i:=0) U;refine I ?_;exact aE) ?_;refine aA (λ_ _ a8 _=>by have A2:=aa4 a8 A2;have fD:=ac6 (A2).mt (i:=0) (k:=0) U (show 0<(r4 3 1 lj qo 0).length by rw[ZW.1];decide);refine I ?_;refine li fD ?_ (i:=0) (hlt:=(show 0<(r4 3 1 lj qo 0).length by rw[ZW.1];decide));refine I ?_;exact aE) ?_;refine aA (λ_ _ dd _=>by have A2:=aa4 dd A2;have ga:=ac6 (A2).mt (i:=0) (k:=0) U (show 0<(r4 3 1 lj qo 0).length by rw[ZW.1];decide);refine I ?_;exact aE) ?_;refine aX (V:=.agg #[S ((bh 1 3).1),S ((bh 1 3).2)]) (λ_ _ _ _=>?_) ?_;refine I ?_;refine clb fo (hc:=dp 1 3 U U) (hk:=?_);rintro _ _ fB rfl;refine I ?_;exact fs ⟨fB.2,rfl⟩;refine aA (λ_ _ _ _=>by refine I ?_;refine aa (yv (a:=ao ((r4 3 1 lj qo) 0) 0) (b:=bh 1 3) (q:=decide ((ao ((r4 3 1 lj qo) 0) 0)=(bh 1 3))) Z Z Z ?_);refine I ?_;exact aE) ?_;refine sf ?_;refine aX (V:=.agg #[S ((bh 14 1).1),S ((bh 14 1).2)]) (λ_ _ _ _=>?_) ?_;refine I ?_;refine clb fo (hc:=dp 14 1 U U) (hk:=?_);rintro _ _ f0 rfl;refine I ?_
 exact fs ⟨f0.2,rfl⟩;refine aA (λ_ _ _ _=>by refine I ?_;refine aa (yv (a:=qR 14 1) (b:=bh 14 1) (q:=decide ((qR 14 1)=(bh 14 1))) Z Z Z ?_);refine I ?_;exact aE) ?_;refine sf ?_;intro _ _ E1 _;have A0:=ac7 E1.2 A0;have A1:=be E1.2 A1;have Af:=aa9 E1.2 Af;have Ao:=aa9 E1.2 Ao;have E:=xt E E1.2;have P0:=pX (Af).rw (i:=0) (show 0<2 by decide);refine I ?_;refine fM P0 ?_ (i:=0) (hlt:=(show 0<2 by decide));have W1:=pX (Af).rw (i:=1) (show 1<2 by decide);refine I ?_;refine fM W1 ?_ (i:=1) (hlt:=(show 1<2 by decide));refine I ?_;refine clb fo (hc:=dp (-2) 1 U U) (hk:=?_);rintro _ _ EW rfl;have A0:=ac7 EW.2 A0;have A1:=be EW.2 A1;have Ao:=aa9 EW.2 Ao;have E:=xt E EW.2;refine I ?_;refine clb fo (hc:=dp (-1) 1 U U) (hk:=?_);rintro _ _ E9 rfl;have A0:=ac7 E9.2 A0;have A1:=be E9.2 A1;have Ao:=aa9 E9.2 Ao;have E:=xt E E9.2;refine I ?_;refine clb fo (hc:=dp 3 1 U U) (hk:=?_);rintro _ H2 E7 rfl;have A0:=ac7 E7.2 A0;have A1:=be E7.2 A1;have Ao:=aa9 E7.2 Ao;have E:=xt E E7.2;refine I ?_
 refine aa (cE (vs:=[(0,.agg #[S ((bh (-2) 1).1),S ((bh (-2) 1).2)]),(1,.agg #[S ((bh (-1) 1).1),S ((bh (-1) 1).2)]),(2,.agg #[S ((bh 3 1).1),S ((bh 3 1).2)])]) (cells:=#[S ((bh (-2) 1).1),S ((bh (-2) 1).2),S ((bh (-1) 1).1),S ((bh (-1) 1).2),S ((bh 3 1).1),S ((bh 3 1).2)]) vY aU Z dc dc Hx Z dc (λKM ES _ a6=>?_));have A0:=ac7 ES A0;have A1:=be ES A1;have Ao:=aa9 ES Ao;have E:=xt E ES;have e6:mj KM H2.heap.size KM.heap.size (some ⟨H2.heap.size,0,none⟩) (ag [bh (-2) 1,bh (-1) 1,bh 3 1]):=ab5 (aa7 a6);refine I ?_;refine clb Nv (hc:=xe (xs:=[bh (-2) 1,bh (-1) 1,bh 3 1]) (Ao).rw (e6).rw dc) (hk:=?_);rintro _ _ H3 rfl;have A0:=ac7 H3.2 A0;have⟨A1,E⟩:=bo H3.2 A1 E;refine I ?_;(try refine aa (aN (cs:=[.slice D2 3 nm,.slice C0 3 Az,.slice B2 3 Ay]) (b:=B0.heap.size) (o:=0) de Z ba Z (aa0 A1 (i:=0) Z) ?_));refine I ?_;refine cl kt (Ms (A0).des (ht.ext E)) ?_;rintro _ _ wr rfl;have E:=xt E wr.2;refine I ?_;refine cl kt (vk (ht.ext E)) ?_;rintro _ _ Q0 rfl;have E:=xt E Q0.2;refine I ?_;exact am (t:=0) (v:=.bool true) Z E Z Z
end
section
def Yi (V:Rows)(rs:List R):Rows:=oR (dw 1 (λj=>mc (bR rs) rs.length j) rs.length (Ia rs.length V))
def RX (V:Rows)(rs:List R):Rows:=oR (dw 1 (Yi V rs) rs.length (bR rs))
structure WtB (V:Rows)(rs:List R):Prop where
 rv:vM rs.length (bR rs)=true
 vv:vM rs.length V=true
 eW:dJ rs.length V=some (Ia rs.length V)
 eQ:dw 1 (λj=>mc (bR rs) rs.length j) rs.length (Ia rs.length V)=some (Yi V rs)
 eS:dw 1 (Yi V rs) rs.length (bR rs)=some (RX V rs)
 sl:(RX V rs 0).length=1
section
variable {Y B:Option Addr}{CY CB m:Nat}{L V:Rows}{ys:List R}
def Qh (hD:eH w A C Y CY B CB L V ys)(ok:eN L V ys)(hm:ys.length=m)(hk:(L 0).length=k)(h:By m k L V ys=true)(ht:Tb w):
 CL 14 #[.agg #[.slice A m C,.slice Y m CY,.slice B m CB]] w (aH w λv w'=>∃u,v=.tuple #[u,.int .i64 0]/\oK w.heap.size w' u k (qq m k L V ys) (r4 m k L V) (ao (y8 m k L V ys 0) 0) (((m:Nat):Int)-(k:Int))):=by
 subst hm
 exact yR hD ok hk (y9 h) ht
def F2 (hD:eH w A C Y CY B CB L V ys)(ok:eN L V ys)(hm:ys.length=m){a:Addr}(hk:(L 0).length=k)(hE:Er w a)(eW:dJ m V=some (Ia m V))(eB:dw k (λj=>mc L m j) m (Ia m V)=some (y7 m k L V))(eG:dw k (y7 m k L V) m L=some (F0 m k L V))(eC:dJ k (F0 m k L V)=none)(ht:Tb w):
 CL 14 #[.agg #[.slice A m C,.slice Y m CY,.slice B m CB]] w (aH w λv w'=>v=.tuple #[.agg #[.slice none 0 0,.slice none 0 0,S [],S [],.int .i64 0],.int .i64 140]):=by
 subst hm
 exact LD hD ok hk hE eW eB eG eC ht
end
end
end Go.Proofs.YtlmihmlnpjkblaaGreatDoor
namespace La
variable {i n cols j:Nat}{p:Nat->Nat}{f:Rat}
inductive RO (n m:Nat) (A:Mx):Mx->Rat->Prop
 |refl:RO n m A A 1
 |eq {B B':Mx} {f:Rat}:RO n m A B f->jB n m B B'->RO n m A B' f
 |swap {B:Mx} {f:Rat} {p r:Nat}:RO n m A B f->p<n->r<n->p≠r->RO n m A (λi j=>B (sx p r i) j) (- f)
 |scale {B:Mx} {f c:Rat} {r:Nat}:RO n m A B f->r<n->c≠0->RO n m A (ur B r (λj=>B r j/c)) (f*c)
 |add {B:Mx} {f c:Rat} {i r:Nat}:RO n m A B f->i<n->r<n->i≠r->RO n m A (ur B i (λj=>B i j+c*B r j)) f
def Mu {p r:Nat}(hp:p<n)(hr:r<n)(hi:i<n):sx p r i<n:=by unfold sx;split <;>(try split) <;>omega
def Yj (p r i:Nat):sx p r (sx p r i)=i:=by unfold sx;grind
def RO.ne {m:Nat}{A B:Mx}(h:RO n m A B f):f≠0:=by
 induction h with
 |refl=>simp
 |eq _ _ ih=>exact ih
 |swap _ _ _ _ ih=>grind
 |scale _ _ hc ih=>intro e;rcases Rat.mul_eq_zero.1 e with e|e <;>contradiction
 |add _ _ _ _ ih=>exact ih
def RO.ker {m:Nat}{A B:Mx}(h:RO n m A B f)(x:Nat->Rat):(∀i,i<n->sm m (λj=>A i j*x j)=0)↔(∀i,i<n->sm m (λj=>B i j*x j)=0):=by
 induction h with
 |refl=>exact Iff.rfl
 | eq _ he ih=>
   rw[ih]
   exact⟨λh i hi=>by rw[<-h i hi];exact ap λj O=>by rw[he i hi j O],λh i hi=>by rw[<-h i hi];exact ap λj O=>by rw[he i hi j O]⟩
 | swap _ hp hr _ ih=>
   rw[ih]
   exact⟨λh i hi=>h _ (Mu hp hr hi),λh i hi=>by have:=h _ (Mu hp hr hi);simp only[Yj]at this;exact this⟩
 | @scale B f c r _ hr hc ih=>
   rw[ih]
   have key:sm m (λj=>ur B r (λj=>B r j/c) r j*x j)=(1/c)*sm m (λj=>B r j*x j):=by
    rw[<-di];exact ap λj _=>by unfold ur;rw[if_pos Z];grind
   refine⟨λh i hi=>?_,λh i hi=>?_⟩
   · by_cases e:i=r
     · subst e;rw[key,h i hi];grind
     · rw[<-h i hi];exact ap λj _=>by unfold ur;rw[if_neg e]
   · by_cases e:i=r
     · subst e;have:=h i hi;rw[key]at this;grind
     · rw[<-h i hi];exact ap λj _=>by unfold ur;rw[if_neg e]
 | @add B f c i r _ hi hr hne ih=>
   rw[ih]
   have key:sm m (λj=>ur B i (λj=>B i j+c*B r j) i j*x j)=sm m (λj=>B i j*x j)+c*sm m (λj=>B r j*x j):=by
    rw[<-di,<-lP];exact ap λj _=>by unfold ur;rw[if_pos Z];grind
   have E:∀k,k≠i->sm m (λj=>ur B i (λj=>B i j+c*B r j) k j*x j)=sm m (λj=>B k j*x j):=λk hk=>ap λj _=>by unfold ur;rw[if_neg hk]
   refine⟨λh k hk=>?_,λh k hk=>?_⟩
   · by_cases e:k=i
     · subst e;rw[key,h k hk,h r hr];grind
     · rw[E k e];exact h k hk
   · by_cases e:k=i
     · subst e
       have h1:=h k hk
       have h2:=h r hr
       rw[key]at h1;rw[E r (λe=>hne e.symm)]at h2;rw[h2]at h1;grind
     · rw[<-E k e];exact h k hk
def BA (k:Nat)(B X:Mx)(p r:Nat):mul k (λi j=>B (sx p r i) j) X=λi j=>mul k B X (sx p r i) j:=rfl
def Mv (k:Nat)(B X:Mx)(r:Nat)(u:Nat->Rat):mul k (ur B r u) X=ur (mul k B X) r (λj=>sm k (λl=>u l*X l j)):=by
 funext i j;unfold mul ur
 by_cases e:i=r
 · simp only[if_pos e]
 · simp only[if_neg e]
def xp (k:Nat)(B X:Mx)(r:Nat)(c:Rat):mul k (ur B r (λj=>B r j/c)) X=ur (mul k B X) r (λj=>mul k B X r j/c):=by
 rw[Mv];congr 1;funext j
 unfold mul
 rw[show sm k (λl=>B r l*X l j)/c=(1/c)*sm k (λl=>B r l*X l j)by grind,<-di]
 exact ap λl _=>by grind
def mul_add (k:Nat)(B X:Mx)(i r:Nat)(c:Rat):mul k (ur B i (λj=>B i j+c*B r j)) X=ur (mul k B X) i (λj=>mul k B X i j+c*mul k B X r j):=by
 rw[Mv];congr 1;funext j
 unfold mul
 rw[<-di,<-lP]
 exact ap λl _=>by grind
def RO.mat {m:Nat}{A B:Mx}(h:RO n m A B f):∃E:Mx,jB n m B (mul n E A):=by
 induction h with
 |refl=>exact⟨one,λi hi j _=>(one_mul hi).symm⟩
 |eq _ he ih=>obtain⟨E,h⟩:=ih;exact⟨E,λi hi j O=>by rw[<-he i hi j O,h i hi j O]⟩
 | @swap B f p r _ hp hr _ ih=>obtain⟨E,h⟩:=ih;exact⟨λi j=>E (sx p r i) j,λi hi j O=>by rw[BA];exact h _ (Mu hp hr hi) j O⟩
 | @scale B f c r _ hr hc ih=>
   obtain⟨E,h⟩:=ih
   refine⟨ur E r (λj=>E r j/c),λi hi j O=>?_⟩
   rw[xp];unfold ur
   split
   · show B r j/c=mul n E A r j/c
     rw[h r hr j O]
   · exact h i hi j O
 | @add B f c i r _ hi hr hne ih=>
   obtain⟨E,h⟩:=ih
   refine⟨ur E i (λj=>E i j+c*E r j),λk hk j O=>?_⟩
   rw[mul_add];unfold ur
   split
   · show B i j+c*B r j=mul n E A i j+c*mul n E A r j
     rw[h i hi j O,h r hr j O]
   · exact h k hk j O
def RO.det {m:Nat}{A B:Mx}(h:RO n m A B f)(hn:n<=m)(X:Mx):det n (mul n A X)=f*La.det n (mul n B X):=by
 induction h with
 |refl=>grind
 |eq _ he ih=>rw[ih];congr 1;exact fk λi hi j _=>eF (λl _=>he i hi l J) (λ_ _=>rfl)
 |swap _ hp hr hne ih=>rw[ih,BA,A8 hp hr hne];grind
 | @scale B f c r _ hr hc ih=>
   rw[ih,xp,show(λj=>mul n B X r j/c)=λj=>(1/c)*mul n B X r j by funext j;grind,xd _ _ hr,tc];grind
 |add _ hi hr hne ih=>rw[ih,mul_add,DG _ hi hr hne]
structure RF (n cols r:Nat)(p:Nat->Nat)(B:Mx):Prop where
 rn:r<=n
 inc:∀a b,a<b->b<r->p a<p b
 lt:∀a,a<r->p a<cols
 unit:∀i,i<n->∀l,l<r->B i (p l)=if i=l then 1 else 0
 zero:∀i,r<=i->i<n->∀j,j<cols->B i j=0
def Qi {m r:Nat}(hp:∀l,l<r->p l<m)(a c:Nat->Rat):
 sm m (λt=>a t*sm r (λl=>if t=p l then c l else 0))=sm r (λl=>a (p l)*c l):=by
 rw[ap (g:=λt=>sm r (λl=>a t*(if t=p l then c l else 0))) (λt _=>by rw[di]),iR]
 refine ap λl hl=>?_
 rw[iL (hp l hl) (λt _ ht=>by rw[if_neg ht];grind),if_pos Z]
def RF.comb {m r:Nat}{A B:Mx}(hr:RO n m A B f)(h:RF n cols r p B)(hc:cols<=m)(hi:i<n)(hj:j<m)(hz:∀k,r<=k->k<n->B k j=0):
 A i j=sm r (λl=>A i (p l)*B l j):=by
 let x:Nat->Rat:=λt=>(if t=j then 1 else 0)-sm r (λl=>if t=p l then B l j else 0)
 have hx:∀D:Mx,∀i,sm m (λt=>D i t*x t)=D i j-sm r (λl=>D i (p l)*B l j):=by
  intro D i
  rw[<-Qi (m:=m) (λl hl=>Nat.lt_of_lt_of_le (h.lt l hl) hc) (D i) (λl=>B l j)]
  rw[ap (g:=λt=>D i t*(if t=j then 1 else 0)-D i t*sm r (λl=>if t=p l then B l j else 0)) (λt _=>by show D i t*(_-_)=_;grind),lQ]
  rw[iL (k:=j) hj (λt _ ht=>by rw[if_neg ht];grind),if_pos Z];grind
 have h1:=(hr.ker x).2 (λk hk=>by
  rw[hx B k]
  by_cases e:k<r
  · rw[iL e (λl hl E=>by rw[h.unit k hk l hl,if_neg (λe=>E e.symm)];grind),h.unit k hk k e,if_pos Z];grind
  · rw[hz k J hk,dD (λl hl=>by rw[h.unit k hk l hl,if_neg J];grind)];grind) i hi
 rw[hx A i]at h1
 grind
def RF.rank {m r:Nat}{A B:Mx}(hr:RO n m A B f)(h:RF n cols r p B)(hc:cols<=m):Rk n cols r A:=by
 obtain⟨E,hE⟩:=hr.mat
 refine⟨λi l=>A i (p l),B,E,λj l=>if j=p l then 1 else 0,⟨λi hi j O=>?_,λi hi j O=>?_,λi hi j O=>?_⟩⟩
 · exact h.comb hr hc hi J (λk h1 h2=>h.zero k h1 h2 j O)
 · have:=hE i kc3 (p j) (qb1 (h.lt j O) hc)
   rw[h.unit i kc3 j O]at this
   exact this.symm
 · show sm cols (λt=>B i t*(if t=p j then 1 else 0))=_
   rw[iL (h.lt j O) (λt _ ht=>by rw[if_neg ht];grind),if_pos Z,h.unit i kc3 j O]
   unfold one;grind
def RF.full {B:Mx}(h:RF n n n p B):jB n n B one:=by
 have h1:∀l,l<n->l<=p l:=by
  intro l
  induction l with
  |zero=>intro _;omega
  |succ l ih=>intro hl;have:=ih J;have:=h.inc l (l+1) J hl;omega
 have h2:∀d l,l+d+1=n->p l<=l:=by
  intro d
  induction d with
  |zero=>intro l hl;have:=h.lt l J;omega
  |succ d ih=>intro l hl;have:=ih (l+1) J;have:=h.inc l (l+1) J J;omega
 intro i hi j E
 have:=h.unit i hi j E
 rw[show p j=j from Nat.le_antisymm (h2 (n-j-1) j J) (h1 j E)]at this
 exact this
def RF.det_full {m:Nat}{A B:Mx}(hr:RO n m A B f)(h:RF n n n p B)(hn:n<=m)(X:Mx):det n (mul n A X)=f*det n X:=by
 rw[hr.det hn];congr 1;exact fk λi hi j _=>by rw[eF (A':=one) (B':=X) (λl hl=>h.full i hi l hl) (λ_ _=>rfl),one_mul hi]
def RF.det_less {m r:Nat}{A B:Mx}(hr:RO n m A B f)(h:RF n n r p B)(hn:n<=m)(hlt:r<n)(X:Mx):det n (mul n A X)=0:=by
 rw[hr.det hn,A7 (k:=n-1) J (λj _=>dD λl hl=>by rw[h.zero (n-1) J J l hl];grind)];grind
def kq (n:Nat)(A:Mx):det n (mul n A one)=det n A:=fk λ_ _ _ E=>mul_one E
def RF.det_mul {m r:Nat}{A B:Mx}(hr:RO n m A B f)(h:RF n n r p B)(hn:n<=m)(X:Mx):det n (mul n A X)=det n A*det n X:=by
 by_cases e:r=n
 · subst e
   rw[h.det_full hr hn,<-kq r A,h.det_full hr hn,yN];grind
 · have:=h.rn
   rw[h.det_less hr hn J,<-kq n A,h.det_less hr hn J];grind
def RF.det_iff {m r:Nat}{A B:Mx}(hr:RO n m A B f)(h:RF n n r p B)(hn:n<=m):(r=n->det n A=f)/\(r<n->det n A=0):=
 ⟨λe=>by subst e;rw[<-kq,h.det_full hr hn,yN];grind,λe=>by rw[<-kq,h.det_less hr hn e]⟩
end La
namespace Go.Proofs.YtlmihmlnpjkblaaGreatDoor
open Go Go.Eng Go.RowKit La Proofs.Tryz
def Q (L:Rows):Mx:=λi j=>qv (ao (L i) j)
def RO.clear {n m:Nat}{A B:Mx}{f:Rat}{r c:Nat}(h:RO n m A B f)(hr:r<n):∀k,k<=n->RO n m A (λi j=>if i=r then B i j else if i<k then B i j-B i c*B r j else B i j) f
 |0,_=>h.eq λi _ j _=>by simp
 | k + 1,hk=>by
   have ih:=RO.clear (c:=c) h hr k J
   by_cases e:k=r
   · refine ih.eq λi _ j _=>?_
     by_cases h1:i=r
     · simp[h1]
     · simp only[if_neg h1,show(i<k+1)=(i<k)from propext ⟨λ_=>by omega,λ_=>by omega⟩]
   · refine(ih.add (c:= -B k c) (i:=k) (r:=r) J hr e).eq λi _ j _=>?_
     unfold ur
     by_cases h1:i=k
     · subst h1
       simp only[if_neg e,Nat.lt_irrefl,if_false,show i<i+1 from Nat.lt_succ_self i,if_true];grind
     · rw[if_neg h1]
       by_cases h2:i=r
       · simp[h2]
       · simp only[if_neg h2,show(i<k+1)=(i<k)from propext ⟨λ_=>by omega,λ_=>by omega⟩]
section steps
variable {n m r i c:Nat}
def F3 (hr:r<n)(pv:R)(y:Rat):∀(f k:Nat) (L:Rows),k+f=m->fH n m L->(∀j,k<=j->j<m->∃q,lF (ao (L r) j) pv=some q/\bN q=true/\qv q=qv (ao (L r) j)/y)->
 ∃L2,mS r pv f k L=some L2/\fH n m L2/\(∀i,i≠r->L2 i=L i)/\(∀j,j<k->ao (L2 r) j=ao (L r) j)/\∀j,k<=j->j<m->qv (ao (L2 r) j)=qv (ao (L r) j)/y
 |0,k,L,_,hok,_=>⟨L,rfl,hok,λ_ _=>rfl,λ_ _=>rfl,λj h1 h2=>by omega⟩
 | f +1,k,L,hk,hok,h=>by
   obtain⟨q,h1,h2,h3⟩:=h k (qa0 _) J
   have hl:k<(L r).length:=by rw[(hok r hr).1];omega
   have E:∀j,ao ((L r).set k q) j=if j=k then q else ao (L r) j:=λj=>pM hl
   obtain⟨L2,e,A0,o1,O,W⟩:=F3 hr pv y f (k+1) (bO L r ((L r).set k q)) J (hok.set J hr h2) (λj h1 h2=>by
    rw[bj,E,if_neg J];exact h j J h2)
   refine⟨L2,by rw[mS,h1];exact e,A0,λi hi=>by rw[o1 i hi,bm _ _ hi],λj _=>by rw[O j J,bj,E,if_neg J],λj _ A1=>?_⟩
   by_cases e2:j=k
   · subst e2;rw[O j J,bj,E,if_pos Z,h3]
   · rw[W j J A1,bj,E,if_neg e2]
def F4 (hi:i<n)(hne:i≠r)(by_:R)(y:Rat):∀(f k:Nat) (L:Rows),k+f=m->fH n m L->
 (∀j,k<=j->j<m->∃p,fe by_ (ao (L r) j)=some p/\∃d,dI (ao (L i) j) p=some d/\bN d=true/\qv d=qv (ao (L i) j)-y*qv (ao (L r) j))->
 ∃L2,mh r i by_ f k L=some L2/\fH n m L2/\(∀i',i'≠i->L2 i'=L i')/\(∀j,j<k->ao (L2 i) j=ao (L i) j)/\∀j,k<=j->j<m->qv (ao (L2 i) j)=qv (ao (L i) j)-y*qv (ao (L r) j)
 |0,k,L,_,hok,_=>⟨L,rfl,hok,λ_ _=>rfl,λ_ _=>rfl,λj h1 h2=>by omega⟩
 | f +1,k,L,hk,hok,h=>by
   obtain⟨p,h0,q,h1,h2,h3⟩:=h k (qa0 _) J
   have hl:k<(L i).length:=by rw[(hok i hi).1];omega
   have E:∀j,ao ((L i).set k q) j=if j=k then q else ao (L i) j:=λj=>pM hl
   obtain⟨L2,e,A0,o1,O,W⟩:=F4 hi hne by_ y f (k+1) (bO L i ((L i).set k q)) J (hok.set J hi h2) (λj h1 h2=>by
    rw[bj,bm _ _ (λe=>hne e.symm),E,if_neg J];exact h j J h2)
   refine⟨L2,by rw[mh,h0];show(match dI (ao (L i) k) p with|none=>none|some d=>_)=_;rw[h1];exact e,A0,λi' hi=>by rw[o1 i' hi,bm _ _ hi],λj _=>by rw[O j J,bj,E,if_neg J],λj _ A1=>?_⟩
   by_cases e2:j=k
   · subst e2;rw[O j J,bj,E,if_pos Z,h3]
   · rw[W j J A1,bj,E,if_neg e2,bm _ _ (λe=>hne e.symm)]
def za (hc:c<m):∀(f k:Nat) (L:Rows),k+f=n->fH n m L->
 (∀i,k<=i->i<n->i≠r->∀j,c<=j->j<m->∃p,fe (ao (L i) c) (ao (L r) j)=some p/\∃d,dI (ao (L i) j) p=some d/\bN d=true/\qv d=qv (ao (L i) j)-qv (ao (L i) c)*qv (ao (L r) j))->
 ∃L2,ky m r c f k L=some L2/\fH n m L2/\L2 r=L r/\(∀i,i<k->L2 i=L i)/\∀i,k<=i->i<n->i≠r->(∀j,j<c->ao (L2 i) j=ao (L i) j)/\∀j,c<=j->j<m->qv (ao (L2 i) j)=qv (ao (L i) j)-qv (ao (L i) c)*qv (ao (L r) j)
 |0,k,L,_,hok,_=>⟨L,rfl,hok,rfl,λ_ _=>rfl,λi h1 h2=>by omega⟩
 | f + 1,k,L,hk,hok,h=>by
   by_cases hs:k=r\/ao (L k) c=z0
   · obtain⟨L2,e,ok2,o1,o2,o3⟩:=za hc f (k+1) L J hok (λi h1 h2=>h i J h2)
     refine⟨L2,by rw[ky,if_pos hs];exact e,ok2,o1,λi hi=>o2 i J,λi h1 h2 h3=>?_⟩
     by_cases e2:i=k
     · subst e2
       rw[o2 i J]
       refine⟨λ_ _=>rfl,λj _ _=>?_⟩
       rcases hs with hs|hs
       · exact absurd hs h3
       · rw[hs,m5];grind
     · exact o3 i J h2 h3
   · have O:k≠r:=λe=>hs (.inl e)
     obtain⟨L1,e1,A0,E,p2,p3⟩:=F4 (r:=r) (by omega:k<n) O (ao (L k) c) (qv (ao (L k) c)) (m-c) c L J hok (λj h1 h2=>h k (qa0 _) J O j h1 h2)
     have W:L1 r=L r:=E r (λe=>O e.symm)
     obtain⟨L2,e,ok2,o1,o2,o3⟩:=za hc f (k+1) L1 J A0 (λi h1 h2 h3 j h4 A1=>by
      rw[E i J,W];exact h i J h2 h3 j h4 A1)
     refine⟨L2,by rw[ky,if_neg hs,e1];exact e,ok2,by rw[o1,W],λi hi=>by rw[o2 i J,E i J],λi h1 h2 h3=>?_⟩
     by_cases e2:i=k
     · subst e2
       rw[o2 i J]
       exact⟨p2,p3⟩
     · have:=o3 i J h2 h3
       rw[E i e2,W]at this
       exact this
def xq (c:Nat)(L:Rows):∀(f p:Nat),(∀i,p<=i->i<iI c L f p->ao (L i) c=z0)/\(iI c L f p<p+f->¬ao (L (iI c L f p)) c=z0)
 |0,p=>⟨λi h1 h2=>by unfold iI at h2;omega,λh=>by unfold iI at h;omega⟩
 | f +1,p=>by
   unfold iI
   by_cases e:ao (L p) c=z0
   · rw[if_pos e]
     have ih:=xq c L f (p+1)
     refine⟨λi h1 h2=>?_,λh=>ih.2 J⟩
     by_cases e2:i=p
     · rw[e2];exact e
     · exact ih.1 i J h2
   · rw[if_neg e]
     exact⟨λi h1 h2=>by omega,λ_=>e⟩
end steps
end Go.Proofs.YtlmihmlnpjkblaaGreatDoor
