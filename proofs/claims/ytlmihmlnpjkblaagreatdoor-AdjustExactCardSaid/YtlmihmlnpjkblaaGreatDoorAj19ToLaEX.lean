/- Part of the proof of a statement about an adjustment. -/
import Derived.Test.YtlmihmlnpjkblaaGreatDoorAjNToCardCX
set_option linter.all false
namespace Go.Proofs.YtlmihmlnpjkblaaGreatDoor
open Go Go.Eng Go.RowKit Proofs.Tryz
variable {a b x0 x1:Int}{xs:List Int}{k x i n lo CX C CR lo5 lo4 pl:Nat}{X A kd:Option Addr}{w:World}
section
attribute [local irreducible] wpListIn Code.wpIn Oper.wpIn Exit.then Exit.inBlock Exit.noGoto
set_option maxHeartbeats 40000000
def FM (xs:List Int)(i k:Nat):R:=aS (ay (kw xs (7*i+k)) 7-3) 1
def fo (xs:List Int)(n i:Nat):List R:=(List.range n).map (FM xs i)
def Bf (xs:List Int)(i k:Nat):R:=if i=k then aS (2+ay (kw xs (5*i+1)) 4) 1 else if i+k=1 then aS (ay (kw xs 2) 3-1) 1 else z0
def iN (xs:List Int)(m i:Nat):List R:=(List.range m).map (Bf xs i)
def yE (xs:List Int)(i:Nat):R:=aS (ay (kw xs (3*i+2)) 41-20) 2
def yA (xs:List Int)(m:Nat):List R:=(List.range m).map (yE xs)
def vn {f:Nat->R}{l:List R}{q:R}(h:l=(List.range k).map f)(hq:q=f k):l++[q]=(List.range (k+1)).map f:=by
 subst h hq;simp[List.range_succ]
def Mi {m:Nat}:(yA xs m).length=m:=by simp[yA]
structure gy (lo hi:Nat)(w:World)(A:Option Addr)(C:Nat)(Y:Option Addr)(CY:Nat)(B:Option Addr)(CB:Nat)(m:Nat)(H G:Nat->Value)(L V:Rows)(ys:List R):Prop where
 yl:ys.length=m
 oM:w.ownsRow lo 28 1 (.slice A m C) m ((List.range m).map H)
 uM:∀g,(Value.slice A m C).ownBlock=some g->g<hi
 wM:Wr w lo hi m H L
 oY:w.ownsRow lo 33 2 (.slice Y m CY) m (ag ys)
 uY:∀g,(Value.slice Y m CY).ownBlock=some g->g<hi
 oV:w.ownsRow lo 28 1 (.slice B m CB) m ((List.range m).map G)
 uV:∀g,(Value.slice B m CB).ownBlock=some g->g<hi
 wV:Wr w lo hi m G V
 nMY:aA (.slice A m C) (.slice Y m CY)
 nMV:aA (.slice A m C) (.slice B m CB)
 nVY:aA (.slice B m CB) (.slice Y m CY)
 nMH:∀z,z<m->aA (.slice A m C) (H z)
 nMG:∀z,z<m->aA (.slice A m C) (G z)
 nVH:∀z,z<m->aA (.slice B m CB) (H z)
 nVG:∀z,z<m->aA (.slice B m CB) (G z)
 nYH:∀z,z<m->aA (.slice Y m CY) (H z)
 nYG:∀z,z<m->aA (.slice Y m CY) (G z)
 nHG:∀z,z<m->∀z',z'<m->aA (H z) (G z')
section
variable {lo' hi hi' m:Nat}{w':World}{Y:Option Addr}{CY:Nat}{B:Option Addr}{CB:Nat}{H G:Nat->Value}{L V:Rows}{ys:List R}
def gy.ext (k:aP w w')(h:gy lo hi w A C Y CY B CB m H G L V ys):gy lo hi w' A C Y CY B CB m H G L V ys:=
 ⟨h.yl,ab k h.oM,h.uM,h.wM.ext k,ab k h.oY,h.uY,ab k h.oV,h.uV,h.wV.ext k,h.nMY,h.nMV,h.nVY,h.nMH,h.nMG,h.nVH,h.nVG,h.nYH,h.nYG,h.nHG⟩
def ac9:=@gy.ext
def gy.put (k:ez w w' x)(hx:x<lo\/hi<=x)(h:gy lo hi w A C Y CY B CB m H G L V ys):gy lo hi w' A C Y CY B CB m H G L V ys:=by
 have hM:(Value.slice A m C).ownBlock≠some x:=λe=>by have h1:=h.uM x e;have h2:=aV h.oM x e;omega
 have hY:(Value.slice Y m CY).ownBlock≠some x:=λe=>by have h1:=h.uY x e;have h2:=aV h.oY x e;omega
 have hV:(Value.slice B m CB).ownBlock≠some x:=λe=>by have h1:=h.uV x e;have h2:=aV h.oV x e;omega
 exact⟨h.yl,aw k hM h.oM,h.uM,h.wM.put k hx,aw k hY h.oY,h.uY,aw k hV h.oV,h.uV,h.wV.put k hx,h.nMY,h.nMV,h.nVY,h.nMH,h.nMG,h.nVH,h.nVG,h.nYH,h.nYG,h.nHG⟩
def gy.des (h:gy lo hi w A C Y CY B CB m H G L V ys):ia lo w A C Y CY B CB L V ys:=by
 obtain rfl:=h.yl
 exact⟨⟨_,h.wM.mt (fh h.oM)⟩,fh h.oY,⟨_,h.wV.mt (fh h.oV)⟩,m0 h.oV⟩
end
def Mj {H G:Nat->Value}{a b:Value}(h:∀z,z<i->∀z',z'<i->aA (H z) (G z'))(ha:∀z,z<i->aA a (G z))(hb:∀z,z<i->aA b (H z))(hab:aA a b):
 ∀z,z<i+1->∀z',z'<i+1->aA (bX H i a z) (bX G i b z'):=λz E z' O=>by
 by_cases e:z=i
 · subst e;rw[bj]
   by_cases e':z'=z
   · subst e';rw[bj];exact hab
   · rw[bm _ _ e'];exact ha _ U
 · rw[bm _ _ e]
   by_cases e':z'=i
   · subst e';rw[bj];exact(hb _ U).symm
   · rw[bm _ _ e'];exact h _ U _ U
set_option maxRecDepth 100000 in
def Hz :
 CL 81 #[] w (aI w λv w'=>v=.agg #[S z0.1,S z0.2]):=by
 refine aE func81 Z (I ?_);refine al aY (λ_ A1 O=>?_);have E:=A1.2;refine I ?_;refine SA O (λ_ A0 W=>?_);have E:=bh A0 E;refine I ?_;refine aX (v:=.agg #[S [48],S [49]]) (bY  rfl ?_) E Z;refine ai (t:=0) (cs:=[S [48],S [49]]) (b:=w.heap.size) (o:=0) iO Z bV ?_ ?_;exact Z;exact aa0 W (i:=0) Z
set_option maxHeartbeats 4000000 in
set_option maxRecDepth 100000 in
def HA {m:Nat}(hx0:In64 x0)(hx1:In64 x1)(hm:2+ay x0 4=(m:Int))(hn:1+ay x1 2=(n:Int))(hx:Rw w lo X (nj xs)):
 CL 33 #[.int .i64 x0,.int .i64 x1,.slice X xs.length CX] w (aI w λv w'=>∃A C Y CY B CB H G lo hi,w.heap.size<=lo/\hi<=w'.heap.size/\v=.agg #[.slice A m C,.slice Y m CY,.slice B m CB]/\gy lo hi w' A C Y CY B CB m H G (fo xs n) (iN xs m) (yA xs m)):=by
 refine aE func33 Z (I ?_);refine al eh (λ_ fc E=>?_);have N0:=fc.2;refine I ?_;refine clb qC (hc:=jA x0 4 _ hx0 U) (hk:=?_);rintro _ _ eD rfl;have⟨E,N0⟩:=bn eD.2 E N0;have hp:=cI x0 4 U;refine gO (I ?_);refine clb qC (hc:=jA x1 2 _ hx1 U) (hk:=?_);rintro _ D1 hF rfl;have⟨E,N0⟩:=bn hF.2 E N0;have i9:=cI x1 2 U;refine gO (I ?_);refine al eh (λ_ fN hA=>?_);have⟨E,N0⟩:=bn fN.2 E N0;refine aa (bB (b:=D1.heap.size) (o:=0) (vs:=[.slice none 0 0,.slice none 0 0,.slice none 0 0]) bf Z Z Hx hA (qa3 Z) (λAp hO A2=>?_));have⟨E,N0,_⟩:=ku hO E N0;refine I ?_;have ha:2<=m/\m<=5:=by have:=cI x0 4 dc;omega
 have ib:1<=n/\n<=2:=by have:=cI x1 2 dc;omega
 rw[hm];rw[hn];have fx:World.ownsRow Ap Ap.heap.size 28 1 (.slice none 0 0) 0 []:=bM;have f3:Wr Ap Ap.heap.size Ap.heap.size 0 (λ_=>.nilIface) (fo xs n):=Wr.nil;have ed:World.ownsRow Ap Ap.heap.size 28 1 (.slice none 0 0) 0 []:=bM;have g0:Wr Ap Ap.heap.size Ap.heap.size 0 (λ_=>.nilIface) (iN xs m):=Wr.nil;have fz:World.ownsRow Ap Ap.heap.size 33 2 (.slice none 0 0) 0 (ag []):=bM
 refine cg [(10,19),(27,117)] (λW0 e W=>∃i:Nat,∃H2:Nat->Value,∃Ar:Value,∃H3:Nat->Value,∃vc:Value,∃acY:List R,∃As:Value,(m-i=W0)/\(e 10=.int .i64 i)/\(i<=m)/\(∀zz,zz<i->aA Ar (H2 zz))/\(∀zz,zz<i->aA Ar (H3 zz))/\(∀zz,zz<i->aA vc (H2 zz))/\(∀zz,zz<i->aA vc (H3 zz))/\(∀zz,zz<i->aA As (H2 zz))/\(∀zz,zz<i->aA As (H3 zz))/\(∀z,z<i->∀z',z'<i->aA (H2 z) (H3 z'))/\(acY.length=i)/\(acY=(List.range i).map (yE xs))/\(Ap.heap.size<=W.heap.size)/\((Ar).ownBlock≠some w.heap.size)/\((Ar).ownBlock≠some D1.heap.size)/\((vc).ownBlock≠some w.heap.size)/\((vc).ownBlock≠some D1.heap.size)/\((As).ownBlock≠some w.heap.size)/\((As).ownBlock≠some D1.heap.size)/\(aA Ar vc)/\(aA Ar As)/\(aA vc As)/\(aP w W)/\(ao W w.heap.size 30 #[.slice none 0 0,.slice none 0 0,.slice none 0 0])/\(W.ownsRow Ap.heap.size 28 1 Ar i ((List.range i).map H2))/\(Wr W Ap.heap.size W.heap.size i H2 (fo xs n))/\(W.ownsRow Ap.heap.size 28 1 vc i ((List.range i).map H3))/\(Wr W Ap.heap.size W.heap.size i H3 (iN xs m))/\(W.ownsRow Ap.heap.size 33 2 As acY.length (ag acY))/\(ao W D1.heap.size 30 #[Ar,As,vc])) (m-0) ⟨0,(λ_=>.nilIface),.slice none 0 0,(λ_=>.nilIface),.slice none 0 0,[],.slice none 0 0,rfl,rfl,(qa7 _),(λj Az=>by omega),(λj Az=>by omega),(λj Az=>by omega),(λj Az=>by omega),(λj Az=>by omega),(λj Az=>by omega),(λj Az=>by omega),rfl,rfl,(qa0 _),(λe=>by cases e),(λe=>by cases e),(λe=>by cases e),(λe=>by cases e),(λe=>by cases e),(λe=>by cases e),(aa4 ac6),(aa4 ac6),(aa4 ac6),N0,E,fx,f3,ed,g0,fz,A2⟩ ?_
 rintro _ _ B2 ⟨i,H2,Ar,H3,vc,acY,As,rfl,he,hw,bZ,c9,bd,b0,ce,cT,cw,halY,hacY,hS,d3,dd,cq,a2,dC,ch,cb,co,bq,VW,E,Ab,A0,A1,O,hyrow,A2⟩;have hR:=bz VW;by_cases hlo:i<m;refine I ?_;have fG:World.ownsRow B2 B2.heap.size 33 2 (.slice none 0 0) 0 (ag []):=bM
 refine cg [(11,11),(13,15),(32,52)] (λW0 e W=>∃k:Nat,∃E5:List R,∃vline:Value,(n-k=W0)/\(e 13=.int .i64 k)/\(e 11=vline)/\(k<=n)/\(E5.length=k)/\(E5=(List.range k).map (FM xs i))/\(B2.heap.size<=W.heap.size)/\((vline).ownBlock≠some w.heap.size)/\((vline).ownBlock≠some D1.heap.size)/\(aA Ar vline)/\(aA vc vline)/\(aA As vline)/\(aP w W)/\(ao W w.heap.size 30 #[.slice none 0 0,.slice none 0 0,.slice none 0 0])/\(W.ownsRow Ap.heap.size 28 1 Ar i ((List.range i).map H2))/\(Wr W Ap.heap.size B2.heap.size i H2 (fo xs n))/\(W.ownsRow Ap.heap.size 28 1 vc i ((List.range i).map H3))/\(Wr W Ap.heap.size B2.heap.size i H3 (iN xs m))/\(W.ownsRow Ap.heap.size 33 2 As acY.length (ag acY))/\(ao W D1.heap.size 30 #[Ar,As,vc])/\(W.ownsRow B2.heap.size 33 2 vline E5.length (ag E5))) (n-0) ⟨0,[],.slice none 0 0,rfl,rfl,rfl,(qa7 _),rfl,rfl,(qa0 _),(λe=>by cases e),(λe=>by cases e),(aa4 ac6),(aa4 ac6),(aa4 ac6),VW,E,Ab,A0,A1,O,hyrow,A2,fG⟩ ?_;rintro _ _ S0 ⟨k,E5,vline,rfl,hg,e1,hi_k,hal_acl,cv,hh,cp,W1,a9,WV,a3,Aw,E,Ab,A0,A1,O,hyrow,A2,hline⟩;have hY:=bz Aw;by_cases hlk:k<n;refine I ?_;refine aa (ri (a:=7) (b:=(i:Int)) (c:=((7*i:Nat):Int)) Z Z zd Z ?_)
 refine I ?_;refine aa (cC (a:=((7*i:Nat):Int)) (b:=(k:Int)) (c:=((7*i+k:Nat):Int)) Z Z zd Z ?_);refine clb xz (hc:=tg (i:=(7*i+k)) (xs:=xs) U (hx.ext Aw)) (hk:=?_);rintro _ _ La rfl;have E:=be La.2 E;have Ab:=ab La.2 Ab;have A0:=aa2 La.2 A0;have A1:=ab La.2 A1;have O:=aa2 La.2 O;have hyrow:=ab La.2 hyrow;have A2:=be La.2 A2;have hline:=ab La.2 hline;have Aw:=xt Aw La.2;refine clb qC (hc:=jA (kw xs (7*i+k)) 7 _ (te U) U) (hk:=?_);rintro _ _ Lk rfl;have E:=be Lk.2 E;have Ab:=ab Lk.2 Ab;have A0:=aa2 Lk.2 A0;have A1:=ab Lk.2 A1;have O:=aa2 Lk.2 O;have hyrow:=ab Lk.2 hyrow;have A2:=be Lk.2 A2;have hline:=ab Lk.2 hline;have Aw:=xt Aw Lk.2;have hZ:=cI (kw xs (7*i+k)) 7 U;refine nY ?_;refine clb Ic (hc:=An ((ay (kw xs (7*i+k)) 7)-3) 1 _ U U) (hk:=?_);rintro _ _ P0 rfl;have E:=be P0.2 E;have Ab:=ab P0.2 Ab;have A0:=aa2 P0.2 A0;have A1:=ab P0.2 A1;have O:=aa2 P0.2 O;have hyrow:=ab P0.2 hyrow;have A2:=be P0.2 A2;have hline:=ab P0.2 hline;have Aw:=xt Aw P0.2;refine I ?_;refine al aY (λ_ Lj g4=>?_);have eP:=bg Ab;have g3:=bg A1;have fT:=bg hyrow
 have f8:=bg hline;have E:=be Lj.2 E;have Ab:=ab Lj.2 Ab;have A0:=aa2 Lj.2 A0;have A1:=ab Lj.2 A1;have O:=aa2 Lj.2 O;have hyrow:=ab Lj.2 hyrow;have A2:=be Lj.2 A2;have hline:=ab Lj.2 hline;have Aw:=xt Aw Lj.2;refine SA g4 (λ_ L2 d0=>?_);have E:=pb L2 E;have Ab:=aw L2 eP Ab;have A0:=ab7 L2 U A0;have A1:=aw L2 g3 A1;have O:=ab7 L2 U O;have hyrow:=aw L2 fT hyrow;have A2:=pb L2 A2;have hline:=aw L2 f8 hline;have Aw:=bh L2 Aw;have i1:=iQ L2;refine I ?_;refine aa (aT (v:=vline) e1 ?_);refine I ?_;refine BS (λ_ nm _ hI=>?_);have E:=be nm E;have Ab:=ab nm Ab;have A0:=aa2 nm A0;have A1:=ab nm A1;have O:=aa2 nm O;have hyrow:=ab nm hyrow;have A2:=be nm A2;have hline:=ab nm hline;have⟨d0,Aw⟩:=bn nm d0 Aw;refine AP hline (aa7 hI) (λd4 _ fB Ne Vm=>?_);have fy:=aU Vm cp (bt E);have gn:=aU Vm W1 (bt A2);have E:=aa3 Ne (λe=>cp e.symm) E;have eq:=aa8 Vm (aa4 a9) Ab;have Ab:=ab4 (aa4 a9) Ne Ab;have A0:=Wr.gr Ne (λg e=>Or.inr (qa8 U (aV hline g e))) A0;have g1:=aa8 Vm (aa4 WV) A1;have A1:=ab4 (aa4 WV) Ne A1
 have O:=Wr.gr Ne (λg e=>Or.inr (qa8 U (aV hline g e))) O;have g2:=aa8 Vm (aa4 a3) hyrow;have hyrow:=ab4 (aa4 a3) Ne hyrow;have A2:=aa3 Ne (λe=>W1 e.symm) A2;have Aw:=bo hline U U Aw Ne;have hT:=Ne.size;refine aa (aL (v:=d4) Z ?_);refine I ?_;refine gO (I ?_);exact bJ ⟨k+1,E5++[(FM xs i k)],d4,rfl,rfl,rfl,U,j0,(vn cv Z),U,fy,gn,(aa4 eq),(aa4 g1),(aa4 g2),Aw,E,Ab,A0,A1,O,hyrow,A2,(aQ fB JT (dn _ (FM xs i k)))⟩;have eQ:E5=fo xs n i:=by have:=cv;rw[show k=n by omega]at this;exact this
 refine I ?_;have fS:World.ownsRow S0 S0.heap.size 33 2 (.slice none 0 0) 0 (ag []):=bM;refine cg [(12,12),(16,17),(53,88)] (λW0 e W=>∃k:Nat,∃acc:List R,∃Av:Value,(m-k=W0)/\(e 16=.int .i64 k)/\(e 12=Av)/\(k<=m)/\(acc.length=k)/\(acc=(List.range k).map (Bf xs i))/\(S0.heap.size<=W.heap.size)/\((Av).ownBlock≠some w.heap.size)/\((Av).ownBlock≠some D1.heap.size)/\(aA Ar Av)/\(aA vc Av)/\(aA As Av)/\(aA vline Av)/\(aP w W)/\(ao W w.heap.size 30 #[.slice none 0 0,.slice none 0 0,.slice none 0 0])/\(W.ownsRow Ap.heap.size 28 1 Ar i ((List.range i).map H2))/\(Wr W Ap.heap.size B2.heap.size i H2 (fo xs n))/\(W.ownsRow Ap.heap.size 28 1 vc i ((List.range i).map H3))/\(Wr W Ap.heap.size B2.heap.size i H3 (iN xs m))/\(W.ownsRow Ap.heap.size 33 2 As acY.length (ag acY))/\(ao W D1.heap.size 30 #[Ar,As,vc])/\(W.ownsRow B2.heap.size 33 2 vline E5.length (ag E5))/\(W.ownsRow S0.heap.size 33 2 Av acc.length (ag acc))) (m-0) ⟨0,[],.slice none 0 0,rfl,rfl,rfl,(qa7 _),rfl,rfl,(qa0 _),(λe=>by cases e),(λe=>by cases e),(aa4 ac6),(aa4 ac6),(aa4 ac6),(aa4 ac6),Aw,E,Ab,A0,A1,O,hyrow,A2,hline,fS⟩ ?_
 rintro _ _ _ ⟨k,acc,Av,rfl,ih,cr,hi_k,hal_acc,e3,it,d6,W2,Wa,W3,a6,an,Am,E,Ab,A0,A1,O,hyrow,A2,hline,Af⟩;have i0:=bz Am;by_cases hlk:k<m;refine I ?_;refine cl VO Hz ?_;rintro _ fQ Kp rfl;have E:=be Kp.2 E;have Ab:=ab Kp.2 Ab;have A0:=aa2 Kp.2 A0;have A1:=ab Kp.2 A1;have O:=aa2 Kp.2 O;have hyrow:=ab Kp.2 hyrow;have A2:=be Kp.2 A2;have hline:=ab Kp.2 hline;have Af:=ab Kp.2 Af;have Am:=xt Am Kp.2;refine al aY (λ_ KM hN=>?_);have ad:=bg Ab;have ac:=bg A1;have cf:=bg hyrow;have bp:=bg hline;have cm:=bg Af;have E:=be KM.2 E;have Ab:=ab KM.2 Ab;have A0:=aa2 KM.2 A0;have A1:=ab KM.2 A1;have O:=aa2 KM.2 O;have hyrow:=ab KM.2 hyrow;have A2:=be KM.2 A2;have hline:=ab KM.2 hline;have Af:=ab KM.2 Af;have Am:=xt Am KM.2;refine SA hN (λfP E6 CG=>?_);have E:=pb E6 E;have Ab:=aw E6 ad Ab;have A0:=ab7 E6 U A0;have A1:=aw E6 ac A1;have O:=ab7 E6 U O;have hyrow:=aw E6 cf hyrow;have A2:=pb E6 A2;have hline:=aw E6 bp hline;have Af:=aw E6 cm Af;have Am:=bh E6 Am;have at2:=iQ E6;refine I ?_
 refine Tw [(62,84)] (λe W=>∃q:R,(q=Bf xs i k)/\(aP w W)/\(fP.heap.size<=W.heap.size)/\(ao W w.heap.size 30 #[.slice none 0 0,.slice none 0 0,.slice none 0 0])/\(W.ownsRow Ap.heap.size 28 1 Ar i ((List.range i).map H2))/\(Wr W Ap.heap.size B2.heap.size i H2 (fo xs n))/\(W.ownsRow Ap.heap.size 28 1 vc i ((List.range i).map H3))/\(Wr W Ap.heap.size B2.heap.size i H3 (iN xs m))/\(W.ownsRow Ap.heap.size 33 2 As acY.length (ag acY))/\(ao W D1.heap.size 30 #[Ar,As,vc])/\(W.ownsRow B2.heap.size 33 2 vline E5.length (ag E5))/\(W.ownsRow S0.heap.size 33 2 Av acc.length (ag acc))/\(ao W fQ.heap.size 33 #[S q.1,S q.2])) ?_ ?_;by_cases aqo:(i:Int)=(k:Int);refine I ?_;refine aa (ri (a:=5) (b:=(i:Int)) (c:=((5*i:Nat):Int)) Z Z zd Z ?_);refine aa (cC (a:=((5*i:Nat):Int)) (b:=1) (c:=((5*i+1:Nat):Int)) Z Z zd Z ?_);refine clb xz (hc:=tg (i:=(5*i+1)) (xs:=xs) U (hx.ext Am)) (hk:=?_);rintro _ _ L1 rfl;have E:=be L1.2 E;have Ab:=ab L1.2 Ab;have A0:=aa2 L1.2 A0;have A1:=ab L1.2 A1;have O:=aa2 L1.2 O;have hyrow:=ab L1.2 hyrow;have A2:=be L1.2 A2;have hline:=ab L1.2 hline;have Af:=ab L1.2 Af;have⟨CG,Am⟩:=bn L1.2 CG Am;refine clb qC (hc:=jA (kw xs (5*i+1)) 4 _ (te U) U) (hk:=?_)
 rintro _ _ K3 rfl;have E:=be K3.2 E;have Ab:=ab K3.2 Ab;have A0:=aa2 K3.2 A0;have A1:=ab K3.2 A1;have O:=aa2 K3.2 O;have hyrow:=ab K3.2 hyrow;have A2:=be K3.2 A2;have hline:=ab K3.2 hline;have Af:=ab K3.2 Af;have⟨CG,Am⟩:=bn K3.2 CG Am;have at8:=cI (kw xs (5*i+1)) 4 U;refine gO ?_;refine clb Ic (hc:=An (2+(ay (kw xs (5*i+1)) 4)) 1 _ U U) (hk:=?_);rintro _ _ FR rfl;have E:=be FR.2 E;have Ab:=ab FR.2 Ab;have A0:=aa2 FR.2 A0;have A1:=ab FR.2 A1;have O:=aa2 FR.2 O;have hyrow:=ab FR.2 hyrow;have A2:=be FR.2 A2;have hline:=ab FR.2 hline;have Af:=ab FR.2 Af;have⟨CG,Am⟩:=bn FR.2 CG Am;refine I ?_;refine SA CG (λ_ ny ea=>?_);have E:=pb ny E;have Ab:=aw ny ad Ab;have A0:=ab7 ny U A0;have A1:=aw ny ac A1;have O:=ab7 ny U O;have hyrow:=aw ny cf hyrow;have A2:=pb ny A2;have hline:=aw ny bp hline;have Af:=aw ny cm Af;have Am:=bh ny Am;have i3:=iQ ny;refine I ?_;exact CF ⟨aS (2+(ay (kw xs (5*i+1)) 4)) 1,DP,Am,U,E,Ab,A0,A1,O,hyrow,A2,hline,Af,ea⟩;refine I ?_;refine gO (I ?_);by_cases aqp:((i:Int)+(k:Int))=1;refine I ?_
 refine clb xz (hc:=tg (i:=2) (xs:=xs) U (hx.ext Am)) (hk:=?_);rintro _ _ od rfl;have E:=be od.2 E;have Ab:=ab od.2 Ab;have A0:=aa2 od.2 A0;have A1:=ab od.2 A1;have O:=aa2 od.2 O;have hyrow:=ab od.2 hyrow;have A2:=be od.2 A2;have hline:=ab od.2 hline;have Af:=ab od.2 Af;have⟨CG,Am⟩:=bn od.2 CG Am;refine clb qC (hc:=jA (kw xs 2) 3 _ (te U) U) (hk:=?_);rintro _ _ L3 rfl;have E:=be L3.2 E;have Ab:=ab L3.2 Ab;have A0:=aa2 L3.2 A0;have A1:=ab L3.2 A1;have O:=aa2 L3.2 O;have hyrow:=ab L3.2 hyrow;have A2:=be L3.2 A2;have hline:=ab L3.2 hline;have Af:=ab L3.2 Af;have⟨CG,Am⟩:=bn L3.2 CG Am;have hV:=cI (kw xs 2) 3 U;refine nY ?_;refine clb Ic (hc:=An ((ay (kw xs 2) 3)-1) 1 _ U U) (hk:=?_);rintro _ _ GC rfl;have E:=be GC.2 E;have Ab:=ab GC.2 Ab;have A0:=aa2 GC.2 A0;have A1:=ab GC.2 A1;have O:=aa2 GC.2 O;have hyrow:=ab GC.2 hyrow;have A2:=be GC.2 A2;have hline:=ab GC.2 hline;have Af:=ab GC.2 Af;have⟨CG,Am⟩:=bn GC.2 CG Am;refine I ?_;refine SA CG (λ_ E1 fW=>?_);have E:=pb E1 E;have Ab:=aw E1 ad Ab;have A0:=ab7 E1 U A0;have A1:=aw E1 ac A1;have O:=ab7 E1 U O;have hyrow:=aw E1 cf hyrow;have A2:=pb E1 A2
 have hline:=aw E1 bp hline;have Af:=aw E1 cm Af;have Am:=bh E1 Am;have i2:=iQ E1;refine I ?_;exact CF ⟨aS ((ay (kw xs 2) 3)-1) 1,DP,Am,U,E,Ab,A0,A1,O,hyrow,A2,hline,Af,fW⟩;refine I ?_;exact CF ⟨z0,DP,Am,U,E,Ab,A0,A1,O,hyrow,A2,hline,Af,CG⟩;rintro _ _ ⟨q,hq,T3,i4,E,Ab,A0,A1,O,hyrow,A2,hline,Af,cz⟩;refine I ?_;refine aa (aT (v:=Av) cr ?_);refine I ?_;refine BS (λ_ ES _ fu=>?_);have E:=be ES E;have Ab:=ab ES Ab;have A0:=aa2 ES A0;have A1:=ab ES A1;have O:=aa2 ES O;have hyrow:=ab ES hyrow;have A2:=be ES A2;have hline:=ab ES hline;have Af:=ab ES Af;have⟨cz,T3⟩:=bn ES cz T3;refine AP Af (aa7 fu) (λd1 _ fl KC T2=>?_);have arr:=aU T2 d6 (bt E);have f9:=aU T2 W2 (bt A2);have E:=aa3 KC (λe=>d6 e.symm) E;have eG:=aa8 T2 (aa4 Wa) Ab;have Ab:=ab4 (aa4 Wa) KC Ab;have A0:=Wr.gr KC (λg e=>Or.inr (qa8 U (aV Af g e))) A0;have eW:=aa8 T2 (aa4 W3) A1;have A1:=ab4 (aa4 W3) KC A1
 have O:=Wr.gr KC (λg e=>Or.inr (qa8 U (aV Af g e))) O;have h6:=aa8 T2 (aa4 a6) hyrow;have hyrow:=ab4 (aa4 a6) KC hyrow;have A2:=aa3 KC (λe=>W2 e.symm) A2;have fX:=aa8 T2 (aa4 an) hline;have hline:=ab4 (aa4 an) KC hline;have T3:=bo Af U U T3 KC;have hW:=KC.size;refine aa (aL (v:=d1) Z ?_);refine I ?_;refine gO (I ?_);exact bJ ⟨k+1,acc++[q],d1,rfl,rfl,rfl,U,j0,(vn e3 hq),U,arr,f9,(aa4 eG),(aa4 eW),(aa4 h6),(aa4 fX),T3,E,Ab,A0,A1,O,hyrow,A2,hline,(aQ fl JT (dn _ q))⟩;have hM:acc=iN xs m i:=by have:=e3;rw[show k=m by omega]at this;exact this
 refine I ?_;refine aa (ri (a:=3) (b:=(i:Int)) (c:=((3*i:Nat):Int)) Z Z zd Z ?_);refine aa (cC (a:=((3*i:Nat):Int)) (b:=2) (c:=((3*i+2:Nat):Int)) Z Z zd Z ?_);refine clb xz (hc:=tg (i:=(3*i+2)) (xs:=xs) U (hx.ext Am)) (hk:=?_);rintro _ _ E9 rfl;have E:=be E9.2 E;have Ab:=ab E9.2 Ab;have A0:=aa2 E9.2 A0;have A1:=ab E9.2 A1;have O:=aa2 E9.2 O;have hyrow:=ab E9.2 hyrow;have A2:=be E9.2 A2;have hline:=ab E9.2 hline;have Af:=ab E9.2 Af;have Am:=xt Am E9.2;refine clb qC (hc:=jA (kw xs (3*i+2)) 41 _ (te U) U) (hk:=?_);rintro _ _ G0 rfl;have E:=be G0.2 E;have Ab:=ab G0.2 Ab;have A0:=aa2 G0.2 A0;have A1:=ab G0.2 A1;have O:=aa2 G0.2 O;have hyrow:=ab G0.2 hyrow;have A2:=be G0.2 A2;have hline:=ab G0.2 hline;have Af:=ab G0.2 Af;have Am:=xt Am G0.2;have hj:=cI (kw xs (3*i+2)) 41 U;refine nY ?_;refine clb Ic (hc:=An ((ay (kw xs (3*i+2)) 41)-20) 2 _ U U) (hk:=?_);rintro _ _ KY rfl;have E:=be KY.2 E;have Ab:=ab KY.2 Ab;have A0:=aa2 KY.2 A0;have A1:=ab KY.2 A1;have O:=aa2 KY.2 O;have hyrow:=ab KY.2 hyrow;have A2:=be KY.2 A2;have hline:=ab KY.2 hline
 have Af:=ab KY.2 Af;have Am:=xt Am KY.2;refine I ?_;refine al aY (λ_ EW h8=>?_);have eB:=bg Ab;have cy:=bg A1;have dq:=bg hyrow;have hK:=bg hline;have ej:=bg Af;have E:=be EW.2 E;have Ab:=ab EW.2 Ab;have A0:=aa2 EW.2 A0;have A1:=ab EW.2 A1;have O:=aa2 EW.2 O;have hyrow:=ab EW.2 hyrow;have A2:=be EW.2 A2;have hline:=ab EW.2 hline;have Af:=ab EW.2 Af;have Am:=xt Am EW.2;refine SA h8 (λ_ D2 Ay=>?_);have E:=pb D2 E;have Ab:=aw D2 eB Ab;have A0:=ab7 D2 U A0;have A1:=aw D2 cy A1;have O:=ab7 D2 U O;have hyrow:=aw D2 dq hyrow;have A2:=pb D2 A2;have hline:=aw D2 hK hline;have Af:=aw D2 ej Af;have Am:=bh D2 Am;have hQ:=iQ D2;refine I ?_;refine aa (aT (v:=vline) e1 ?_);refine aa (cK (vs:=[(0,vline)]) (cells:=#[vline]) R8 jE Z dc dc (jQ _ (bS hline)) Z dc (λ_ K2 _ fR=>?_));have E:=be K2 E;have Ab:=ab K2 Ab;have A0:=aa2 K2 A0;have A1:=ab K2 A1;have O:=aa2 K2 O;have hyrow:=ab K2 hyrow;have A2:=be K2 A2;have hline:=ab K2 hline;have Af:=ab K2 Af;have⟨Ay,Am⟩:=bn K2 Ay Am;refine AP Ab (aa7 fR) (λa4 _ Ax wr Q0=>?_) (h1:=Tx (bS hline))
 have hP:=aU Q0 d3 (bt E);have X0:=aU Q0 dd (bt A2);have f0:∀Aq,Aq<i->aA a4 (H2 Aq):=λAq hi=>aa8 Q0 (bZ Aq hi) (Wr.own A0 Aq hi);have gb:∀Aq,Aq<i->aA a4 (H3 Aq):=λAq hi=>aa8 Q0 (c9 Aq hi) (Wr.own O Aq hi);have E:=aa3 wr (λe=>d3 e.symm) E;have A0:=ad0 wr bZ A0;have e4:=aa8 Q0 cb A1;have A1:=ab4 cb wr A1;have O:=ad0 wr c9 O;have d5:=aa8 Q0 co hyrow;have hyrow:=ab4 co wr hyrow;have A2:=aa3 wr (λe=>dd e.symm) A2;have eC:=aa8 Q0 a9 hline;have hline:=ab4 a9 wr hline;have fD:=aa8 Q0 Wa Af;have Af:=ab4 Wa wr Af;have Ay:=aa3 wr (λe=>eB e.symm) Ay;have Am:=bo Ab U U Am wr;have i5:=wr.size;refine I ?_;refine aa (b7 (b:=D1.heap.size) (o:=0) (v:=a4) y8 Z Z (bS Ax) A2 (qa3 Z) (λ_ No Rm=>?_));have E:=pb No E;have Ax:=aw No X0 Ax
 have A0:=ab7 No U A0;have A1:=aw No a2 A1;have O:=ab7 No U O;have hyrow:=aw No ch hyrow;have hline:=aw No W1 hline;have Af:=aw No W2 Af;have⟨Ay,Am,_⟩:=ku No Ay Am;refine I ?_;refine BS (λ_ H4 _ hB=>?_);have E:=be H4 E;have Ax:=ab H4 Ax;have A0:=aa2 H4 A0;have A1:=ab H4 A1;have O:=aa2 H4 O;have hyrow:=ab H4 hyrow;have Rm:=be H4 Rm;have hline:=ab H4 hline;have Af:=ab H4 Af;have⟨Ay,Am⟩:=bn H4 Ay Am;refine AP hyrow (aa7 hB) (λa8 _ E4 E0 P1=>?_);have fb:=aU P1 dC (bt E);have bb:=aU P1 ch (bt Rm);have fa:∀Aq,Aq<i->aA a8 (H2 Aq):=λAq hi=>aa8 P1 (ce Aq hi) (Wr.own A0 Aq hi);have gs:∀Aq,Aq<i->aA a8 (H3 Aq):=λAq hi=>aa8 P1 (cT Aq hi) (Wr.own O Aq hi);have E:=aa3 E0 (λe=>dC e.symm) E;have eX:=aa8 P1 (aa4 d5) Ax;have Ax:=ab4 (aa4 d5) E0 Ax;have A0:=ad0 E0 ce A0;have e5:=aa8 P1 (aa4 bq) A1;have A1:=ab4 (aa4 bq) E0 A1
 have O:=ad0 E0 cT O;have Rm:=aa3 E0 (λe=>ch e.symm) Rm;have gW:=aa8 P1 a3 hline;have hline:=ab4 a3 E0 hline;have fC:=aa8 P1 a6 Af;have Af:=ab4 a6 E0 Af;have Ay:=aa3 E0 (λe=>dq e.symm) Ay;have Am:=bo hyrow U U Am E0;have hX:=E0.size;refine I ?_;refine aa (b7 (b:=D1.heap.size) (o:=1) (v:=a8) lS Z Z (bS E4) Rm (qa3 Z) (λ_ L4 S9=>?_));have E:=pb L4 E;have Ax:=aw L4 X0 Ax;have A0:=ab7 L4 U A0;have A1:=aw L4 a2 A1;have O:=ab7 L4 U O;have E4:=aw L4 bb E4;have hline:=aw L4 W1 hline;have Af:=aw L4 W2 Af;have⟨Ay,Am,_⟩:=ku L4 Ay Am;refine I ?_;refine aa (aT (v:=Av) cr ?_);refine aa (cK (vs:=[(0,Av)]) (cells:=#[Av]) R8 jE Z dc dc (jQ _ (bS Af)) Z dc (λ_ Ix _ er=>?_));have E:=be Ix E;have Ax:=ab Ix Ax;have A0:=aa2 Ix A0;have A1:=ab Ix A1;have O:=aa2 Ix O;have E4:=ab Ix E4;have S9:=be Ix S9;have hline:=ab Ix hline;have Af:=ab Ix Af;have⟨Ay,Am⟩:=bn Ix Ay Am;refine AP A1 (aa7 er) (λX2 _ a5 E7 P2=>?_) (h1:=Tx (bS Af));have hL:=aU P2 cq (bt E);have ct:=aU P2 a2 (bt S9)
 have hD:∀Aq,Aq<i->aA X2 (H2 Aq):=λAq hi=>aa8 P2 (bd Aq hi) (Wr.own A0 Aq hi);have gv:∀Aq,Aq<i->aA X2 (H3 Aq):=λAq hi=>aa8 P2 (b0 Aq hi) (Wr.own O Aq hi);have E:=aa3 E7 (λe=>cq e.symm) E;have eS:=aa8 P2 (aa4 e4) Ax;have Ax:=ab4 (aa4 e4) E7 Ax;have A0:=ad0 E7 bd A0;have O:=ad0 E7 b0 O;have h7:=aa8 P2 (aa4 e5) E4;have E4:=ab4 (aa4 e5) E7 E4;have S9:=aa3 E7 (λe=>a2 e.symm) S9;have h0:=aa8 P2 WV hline;have hline:=ab4 WV E7 hline;have ask:=aa8 P2 W3 Af;have Af:=ab4 W3 E7 Af;have Ay:=aa3 E7 (λe=>cy e.symm) Ay;have Am:=bo A1 U U Am E7;have hz:=E7.size;refine I ?_;refine aa (b7 (b:=D1.heap.size) (o:=2) (v:=X2) y8 Z Z (bS a5) S9 (qa3 Z) (λdL Li hC=>?_));have E:=pb Li E;have Ax:=aw Li X0 Ax;have A0:=ab7 Li U A0;have a5:=aw Li ct a5;have O:=ab7 Li U O
 have E4:=aw Li bb E4;have hline:=aw Li W1 hline;have Af:=aw Li W2 Af;have⟨Ay,Am,_⟩:=ku Li Ay Am;refine I ?_;refine gO (I ?_);have et:World.ownsRow dL B2.heap.size 33 2 vline ((fo xs n) i).length (ag ((fo xs n) i)):=by have h:=hline;rw[eQ]at h;exact h
 have h5:=cD (lo':=Ap.heap.size) U et;have eb:∀j,j<i->aA vline (H2 j):=Wr.far A0 hline U;have eg:World.ownsRow dL S0.heap.size 33 2 Av ((iN xs m) i).length (ag ((iN xs m) i)):=by have h:=Af;rw[hM]at h;exact h
 have hG:=cD (lo':=Ap.heap.size) U eg;have ft:∀j,j<i->aA Av (H3 j):=Wr.far O Af U;have ga:∀j,j<i->aA vline (H3 j):=Wr.far O hline U;have fi:∀j,j<i->aA Av (H2 j):=Wr.far A0 Af U;refine I ?_;exact bJ ⟨i+1,bX H2 i vline,a4,bX H3 i Av,X2,acY++[yE xs i],a8,rfl,rfl,U,(λj Az=>dZ f0 eC j Az),(λj Az=>dZ gb fD j Az),(λj Az=>dZ hD h0 j Az),(λj Az=>dZ gv ask j Az),(λj Az=>dZ fa gW j Az),(λj Az=>dZ gs fC j Az),(Mj cw ga fi an),j0,(vn hacY Z),U,hP,X0,hL,ct,fb,bb,(aa4 eS),(aa4 eX),h7,Am,E,(aQ Ax Z (eM H2 i vline).symm),(by have h:=Wr.push A0 h5 eb;rwa [kU]at h),(aQ a5 Z (eM H3 i Av).symm),(by have h:=Wr.push O hG ft;rwa [kU]at h),(aQ E4 JT (dn _ (yE xs i))),hC⟩;have Cr:i=m:=J
 have h9:acY=yA xs m:=by rw[hacY,Cr];rfl
 have B1:=dl (by have Ao:=Ab;rw[Cr]at Ao;exact Ao);have C1:=dl (by have Ao:=A1;rw[Cr]at Ao;exact Ao);have cc:=aQ hyrow (halY.trans Cr) (qb2 ag h9);have B0:=dl cc;have bv:ao B2 D1.heap.size 30 #[.slice (sA Ar) m (sC Ar),.slice (sA As) m (sC As),.slice (sA vc) m (sC vc)]:=by rw[<-B1,<-B0,<-C1];exact A2
 clear A2;have cx:=(by have Ao:=Ab;rw[Cr]at Ao;exact Ao);have e6:=(by have Ao:=A1;rw[Cr]at Ao;exact Ao);have bW:gy Ap.heap.size B2.heap.size B2 (sA Ar) (sC Ar) (sA As) (sC As) (sA vc) (sC vc) m H2 H3 (fo xs n) (iN xs m) (yA xs m):=⟨Mi,(by simp only[<-B1,<-B0,<-C1];exact cx),(by simp only[<-B1,<-B0,<-C1];exact(dN cx)),Wr.top (by have Ao:=A0;rw[Cr]at Ao;exact Ao),(by simp only[<-B1,<-B0,<-C1];exact cc),(by simp only[<-B1,<-B0,<-C1];exact(dN cc)),(by simp only[<-B1,<-B0,<-C1];exact e6),(by simp only[<-B1,<-B0,<-C1];exact(dN e6)),Wr.top (by have Ao:=O;rw[Cr]at Ao;exact Ao),(by simp only[<-B1,<-B0,<-C1];exact co),(by simp only[<-B1,<-B0,<-C1];exact cb),(by simp only[<-B1,<-B0,<-C1];exact bq),(by simp only[<-B1,<-B0,<-C1];exact(by have Ao:=bZ;rw[Cr]at Ao;exact Ao)),(by simp only[<-B1,<-B0,<-C1];exact(by have Ao:=c9;rw[Cr]at Ao;exact Ao)),(by simp only[<-B1,<-B0,<-C1];exact(by have Ao:=bd;rw[Cr]at Ao;exact Ao)),(by simp only[<-B1,<-B0,<-C1];exact(by have Ao:=b0;rw[Cr]at Ao;exact Ao)),(by simp only[<-B1,<-B0,<-C1];exact(by have Ao:=ce;rw[Cr]at Ao;exact Ao)),(by simp only[<-B1,<-B0,<-C1];exact(by have Ao:=cT;rw[Cr]at Ao;exact Ao)),(by have Ao:=cw;rw[Cr]at Ao;exact Ao)⟩;refine I ?_
 (try refine aa (aN (cs:=[.slice (sA Ar) m (sC Ar),.slice (sA As) m (sC As),.slice (sA vc) m (sC vc)]) (b:=D1.heap.size) (o:=0) c8 Z bf Z (aa0 bv (i:=0) Z) ?_));refine aa (bB (b:=w.heap.size) (o:=0) (vs:=[.slice (sA Ar) m (sC Ar),.slice (sA As) m (sC As),.slice (sA vc) m (sC vc)]) bf Z Z Hx E (qa3 Z) (λ_ a0 hE=>?_));have bv:=pb a0 bv;have bW:=gy.put a0 U bW;have VW:=bh a0 VW;have hU:=iQ a0;refine I ?_;refine aX (v:=.agg #[.slice (sA Ar) m (sC Ar),.slice (sA As) m (sC As),.slice (sA vc) m (sC vc)]) (bY  rfl ?_) VW ⟨_,_,_,_,_,_,_,_,_,_,U,U,rfl,bW⟩;refine ai (t:=6) (cs:=[.slice (sA Ar) m (sC Ar),.slice (sA As) m (sC As),.slice (sA vc) m (sC vc)]) (b:=w.heap.size) (o:=0) c8 Z bf ?_ ?_;exact Z;exact aa0 hE (i:=0) Z
set_option maxRecDepth 100000
def vK:List R:=[aS 10 1,aS 11 1,aS 15 1]
def kZ:Rows:=bI [aS 1 1,aS 1 1,aS 1 1]
def qm:Rows:=λi=>uR i 3
def Rw.take40 (h:Rw w lo X (nj xs)):Rw w lo X (nj (xs.take 40)):=by
 have:=Rw.take 40 h
 rwa [show(nj xs).take 40=nj (xs.take 40)by simp[nj,List.map_take]]at this
def rO {b:List R}(hb:Rw w lo A (ag b))(hbl:b.length*32<=140737488355328):
 CL 30 #[.slice A b.length C] w (aI w λv w'=>dy w.heap.size w' v b.length (bI b)):=by
 refine aE func30 Z (I ?_);have D2:World.ownsRow w w.heap.size 28 1 (.slice none 0 0) 0 []:=bM;have C1:Wr w w.heap.size w.heap.size 0 (λ_=>.nilIface) (bI b):=Wr.nil;have Ay:=aa1 w;refine cg [(3,18)] (λCr e W=>∃i:Nat,∃H2:Nat->Value,∃A2:Value,(b.length-i=Cr)/\(e 4=.int .i64 i)/\(e 3=A2)/\(i<=b.length)/\(∀zz,zz<i->aA A2 (H2 zz))/\(w.heap.size<=W.heap.size)/\(aP w W)/\(W.ownsRow w.heap.size 28 1 A2 i ((List.range i).map H2))/\(Wr W w.heap.size W.heap.size i H2 (bI b))) (b.length-0) ⟨0,(λ_=>.nilIface),.slice none 0 0,rfl,rfl,rfl,(qa7 _),(λj Av=>by omega),(qa0 _),Ay,D2,C1⟩ ?_;rintro _ _ A0 ⟨i,H2,A2,rfl,E6,Ar,hi_i,Ax,wr,E,A1,O⟩;have E7:=bz E;by_cases hli:i<b.length;refine I ?_;refine aa (aT (v:=A2) Ar ?_);have B1:=bA (hb.ext E) (k:=(i)) U;refine I ?_;refine lU B1 (I ?_);have Aw:=dN A1;refine BS (λCG Aq _ nm=>?_);have E5:=bg A1;have A1:=ab Aq A1;have O:=aa2 Aq O;have E:=xt E Aq;have Ab:World.ownsRow CG A0.heap.size 33 2 (.slice (some ⟨A0.heap.size,0,none⟩) 1 1) [ar b i].length (ag [ar b i]):=aQ nm Z Z;refine BS (λ_ Ao _ Az=>?_);have A1:=ab Ao A1;have O:=aa2 Ao O;have Ab:=ab Ao Ab;have E:=xt E Ao;refine AP A1 (aa7 Az) (λAp E0 B0 Am As=>?_)
 have ny:∀Af,Af<i->aA Ap (H2 Af):=λAf hi=>aa8 As (Ax Af hi) (Wr.own O Af hi);have O:=ad0 Am Ax O;have od:=aa8 As (aa4 (λg h1 h2=>by cases h1;have h3:A0.heap.size<_:=Aw _ h2;omega)) Ab;have Ab:=ab4 (aa4 (λg h1 h2=>by cases h1;have h3:A0.heap.size<_:=Aw _ h2;omega)) Am Ab;have E:=bo A1 U U E Am;have E4:=Am.size;refine aa (aL (v:=Ap) Z ?_);refine I ?_;refine gO (I ?_);have D1:World.ownsRow E0 A0.heap.size 33 2 (.slice (some ⟨A0.heap.size,0,none⟩) 1 1) ((bI b) i).length (ag ((bI b) i)):=aQ Ab Z Z;have B2:=cD (lo':=w.heap.size) U D1;have E1:∀zz,zz<i->aA (.slice (some ⟨A0.heap.size,0,none⟩) 1 1) (H2 zz):=Wr.far O Ab U;refine I ?_;exact bJ ⟨i+1,bX H2 i (.slice (some ⟨A0.heap.size,0,none⟩) 1 1),Ap,rfl,rfl,rfl,U,(λj Av=>dZ ny od j Av),U,E,(aQ B0 Z (eM H2 i (.slice (some ⟨A0.heap.size,0,none⟩) 1 1)).symm),(by have h:=Wr.push O B2 E1;rwa [pM]at h)⟩;refine I ?_;refine aa (aT (v:=A2) Ar ?_);refine aa (aL (v:=A2) Z ?_);refine I ?_;exact am (t:=2) (v:=A2) Z E (by have h:=pO A1 O;rw[show i=b.length by omega]at h;exact h.mono U) Z
def P3 {m:Nat}(hx0:In64 x0)(hx1:In64 x1)(hm:2+ay x0 4=(m:Int))(hn:1+ay x1 2=(n:Int))(hx:Rw w lo X (nj xs))(hxc:xs.length<=CX):
 CL 10 #[.agg #[.int .i64 x0,.int .i64 x1,.slice X xs.length CX]] w (aI w λv w'=>∃A C Y CY B CB H G lo hi,w.heap.size<=lo/\hi<=w'.heap.size/\v=.agg #[.slice A m C,.slice Y m CY,.slice B m CB]/\gy lo hi w' A C Y CY B CB m H G (fo (xs.take 40) n) (iN (xs.take 40) m) (yA (xs.take 40) m)):=by
 refine aE func10 Z (I ?_);refine bx (λAq Av O=>?_);have E:=Av.2;refine al eh (λ_ As W=>?_);have⟨O,E⟩:=bn As.2 O E;refine I ?_;refine bH 11 ?_;refine aB (λ_ _ _ _=>by refine aa (iU (b:=w.heap.size) (o:=0) (off:=0) (oo:=0) wg Z Z ie Z Z ?_);refine I ?_;exact aG) ?_;refine sf ?_;refine aB (λ_ _ _ _=>by refine aa (iU (b:=w.heap.size) (o:=0) (off:=1) (oo:=1) wg Z Z ie Z Z ?_);refine I ?_;exact aG) ?_;refine sf ?_;refine aB (λ_ _ _ _=>by refine aa (iU (b:=w.heap.size) (o:=0) (off:=2) (oo:=2) wg Z Z BK Z Z ?_);refine I ?_;exact aG) ?_;refine sf ?_;refine aB (λ_ _ _ _=>by refine aa (iU (b:=w.heap.size) (o:=0) (off:=2) (oo:=2) wg Z Z BK Z Z ?_);refine I ?_;exact aG) ?_;refine sf ?_;refine aB (λ_ _ _ _=>by refine aa (Xy (a:=((xs.length:Nat):Int)) (b:=40) (m:=(((xs.take 40).length:Nat):Int)) Z Z (by rw[List.length_take];split <;>omega) ?_);refine I ?_;exact aG) ?_;refine aB (λ_ _ _ _=>by refine aa (no (A:=X) (m:=xs.length) (c:=CX) (j:=(xs.take 40).length) kt ie Z Z (by rw[List.length_take];omega) ?_);refine I ?_;exact aG) ?_;refine sf ?_;intro _ _ Ar _;have⟨O,W,E⟩:=cj Ar.2 O W E
 refine cl SF (HA (xs:=xs.take 40) hx0 hx1 hm hn (Rw.take40 (hx.ext E))) ?_;rintro _ _ Aw ⟨A2,Ab,Am,A1,Ap,Ao,B0,Az,Ax,Ay,B1,B2,rfl,Af⟩;have⟨O,W,E⟩:=cj Aw.2 O W E;refine aa (bB (b:=Aq.heap.size) (o:=0) (vs:=[.slice A2 m Ab,.slice Am m A1,.slice Ap m Ao]) bf Z Z Hx W (qa3 Z) (λ_ A0 wr=>?_));have O:=pb A0 O;have Af:=gy.put A0 U Af;have E:=bh A0 E;have C1:=iQ A0;refine I ?_;refine aX (v:=.agg #[.slice A2 m Ab,.slice Am m A1,.slice Ap m Ao]) (bY  rfl ?_) E ⟨_,_,_,_,_,_,_,_,_,_,U,U,rfl,Af⟩;refine ai (t:=2) (cs:=[.slice A2 m Ab,.slice Am m A1,.slice Ap m Ao]) (b:=Aq.heap.size) (o:=0) c8 Z bf ?_ ?_;exact Z;exact aa0 wr (i:=0) Z
def Dx :
 CL 31 #[] w (aI w λv w'=>∃A C Y CY B CB,v=.agg #[.slice A 3 C,.slice Y 3 CY,.slice B 3 CB]/\ia w.heap.size w' A C Y CY B CB kZ qm vK):=by
 refine aE func31 Z (I ?_);refine al eh (λ_ E1 O=>?_);have E:=E1.2;refine I ?_;refine clb dR (hc:=cE 1 1 U U) (hk:=?_);rintro _ _ ny rfl;have⟨O,E⟩:=bn ny.2 O E;refine clb dR (hc:=cE 1 1 U U) (hk:=?_);rintro _ _ od rfl;have⟨O,E⟩:=bn od.2 O E;refine clb dR (hc:=cE 1 1 U U) (hk:=?_);rintro _ Ax D1 rfl;have⟨O,E⟩:=bn D1.2 O E;refine aa (cK (vs:=[(0,.agg #[S ((aS 1 1).1),S ((aS 1 1).2)]),(1,.agg #[S ((aS 1 1).1),S ((aS 1 1).2)]),(2,.agg #[S ((aS 1 1).1),S ((aS 1 1).2)])]) (cells:=#[S ((aS 1 1).1),S ((aS 1 1).2),S ((aS 1 1).1),S ((aS 1 1).2),S ((aS 1 1).1),S ((aS 1 1).2)]) sE aY Z dc dc q0 Z dc (λAw B0 _ Az=>?_));have⟨O,E⟩:=bn B0 O E;have E4:ni Aw Ax.heap.size Aw.heap.size (some ⟨Ax.heap.size,0,none⟩) (ag [aS 1 1,aS 1 1,aS 1 1]):=ab5 (aa7 Az);refine clb BZ (hc:=rO (b:=[aS 1 1,aS 1 1,aS 1 1]) (E4).rw (by first|decide|omega)) (hk:=?_);rintro _ _ E0 wr;have⟨O,E⟩:=bn E0.2 O E;obtain⟨Ab,A2,_,rfl,_,D2⟩:=wr;have W:=ab1 D2;refine clb dR (hc:=cE 10 1 U U) (hk:=?_);rintro _ _ Aq rfl;have O:=be Aq.2 O;have W:=aa5 Aq.2 W;have E:=xt E Aq.2;refine clb dR (hc:=cE 11 1 U U) (hk:=?_);rintro _ _ Av rfl;have O:=be Av.2 O;have W:=aa5 Av.2 W;have E:=xt E Av.2
 refine clb dR (hc:=cE 15 1 U U) (hk:=?_);rintro _ A0 nm rfl;have O:=be nm.2 O;have W:=aa5 nm.2 W;have E:=xt E nm.2;refine aa (cK (vs:=[(0,.agg #[S ((aS 10 1).1),S ((aS 10 1).2)]),(1,.agg #[S ((aS 11 1).1),S ((aS 11 1).2)]),(2,.agg #[S ((aS 15 1).1),S ((aS 15 1).2)])]) (cells:=#[S ((aS 10 1).1),S ((aS 10 1).2),S ((aS 11 1).1),S ((aS 11 1).2),S ((aS 15 1).1),S ((aS 15 1).2)]) sE aY Z dc dc q0 Z dc (λAy As _ CG=>?_));have O:=be As O;have W:=aa5 As W;have E:=xt E As;have A1:ni Ay A0.heap.size Ay.heap.size (some ⟨A0.heap.size,0,none⟩) (ag [aS 10 1,aS 11 1,aS 15 1]):=ab5 (aa7 CG);refine clb YM (hc:=OX (n:=3) dc) (hk:=?_);rintro _ _ Ao B2;have O:=be Ao.2 O;have W:=aa5 Ao.2 W;have A1:=aa9 Ao.2 A1;have E:=xt E Ao.2;obtain⟨Am,Af,_,rfl,Cr,B1⟩:=B2;have Ar:=ab1 B1;refine aa (bR (vs:=[(0,.slice Ab (([aS 1 1,aS 1 1,aS 1 1]).length) A2),(1,.slice (some ⟨A0.heap.size,0,none⟩) 3 3),(2,.slice Am 3 Af)]) (cells:=#[.slice Ab (([aS 1 1,aS 1 1,aS 1 1]).length) A2,.slice (some ⟨A0.heap.size,0,none⟩) 3 3,.slice Am 3 Af]) (pl:=[(0,1),(1,1),(2,1)]) c8 eh q0 Z q0 ?_)
 refine aa (bB (b:=w.heap.size) (o:=0) (vs:=[.slice Ab (([aS 1 1,aS 1 1,aS 1 1]).length) A2,.slice (some ⟨A0.heap.size,0,none⟩) 3 3,.slice Am 3 Af]) bf Z Z Hx O (qa3 Z) (λ_ Ap C1=>?_));have W:=ac5 Ap U W;have A1:=ab9 Ap U A1;have Ar:=ac5 Ap U Ar;have E:=bh Ap E;refine I ?_;refine aX (v:=.agg #[.slice Ab (([aS 1 1,aS 1 1,aS 1 1]).length) A2,.slice (some ⟨A0.heap.size,0,none⟩) 3 3,.slice Am 3 Af]) (bY  rfl ?_) E ⟨_,_,_,_,_,_,rfl,⟨⟨_,((W).mt).mono U⟩,((A1).rw).mono U,⟨_,((Ar).mt).mono U⟩,Cr⟩⟩;refine ai (t:=0) (cs:=[.slice Ab (([aS 1 1,aS 1 1,aS 1 1]).length) A2,.slice (some ⟨A0.heap.size,0,none⟩) 3 3,.slice Am 3 Af]) (b:=w.heap.size) (o:=0) c8 Z bf ?_ ?_;exact Z;exact aa0 C1 (i:=0) Z
end
section
set_option maxRecDepth 100000
def P5 (m:Nat)(V:Rows):Rows:=oR (eN m V)
def xf (m k:Nat)(L V:Rows):Rows:=oR (dp k (λj=>l5 L m j) m (P5 m V))
def Bg (m k:Nat)(L V:Rows):Rows:=oR (dp k (xf m k L V) m L)
def sq (m k:Nat)(L V:Rows):Rows:=oR (eN k (Bg m k L V))
def X8 (m k:Nat)(L V:Rows)(ys:List R):Rows:=oR (dp k (xf m k L V) m (bI ys))
def P6 (m k:Nat)(L V:Rows)(ys:List R):Rows:=oR (dp k (sq m k L V) k (X8 m k L V ys))
def RH (m k:Nat)(L V:Rows)(ys:List R):Rows:=oR (dp m L k (P6 m k L V ys))
def vq (P:Rows)(ys:List R)(i:Nat):R:=(rN (dx (ar ys i) (ar (P i) 0)),rD (dx (ar ys i) (ar (P i) 0)))
def sr (m k:Nat)(L V:Rows)(ys:List R):List R:=(List.range m).map (vq (RH m k L V ys) ys)
def X9 (m k:Nat)(L V:Rows)(ys:List R):Rows:=oR (dp 1 (λj=>l5 (bI (sr m k L V ys)) m j) m (P5 m V))
def HB (m k:Nat)(L V:Rows)(ys:List R):Rows:=oR (dp 1 (X9 m k L V ys) m (bI (sr m k L V ys)))
def vL (m k:Nat)(L V:Rows)(ys:List R):List R:=(List.range k).map λi=>ar (P6 m k L V ys i) 0
def Dy (m k:Nat)(L V:Rows)(ys:List R):Bool:=
 (eN m V).isSome&&(dp k (λj=>l5 L m j) m (P5 m V)).isSome&&(dp k (xf m k L V) m L).isSome&&(eN k (Bg m k L V)).isSome&&(dp k (xf m k L V) m (bI ys)).isSome&&(dp k (sq m k L V) k (X8 m k L V ys)).isSome&&(dp m L k (P6 m k L V ys)).isSome&&
 (List.range m).all (λi=>decide (0<(RH m k L V ys i).length)&&(dx (ar ys i) (ar (RH m k L V ys i) 0)).isSome)&&vM m (bI (sr m k L V ys))&&(dp 1 (λj=>l5 (bI (sr m k L V ys)) m j) m (P5 m V)).isSome&&(dp 1 (X9 m k L V ys) m (bI (sr m k L V ys))).isSome&&(List.range k).all (λi=>decide (0<(P6 m k L V ys i).length))&&decide (0<(HB m k L V ys 0).length)
def iS {o:Option Rows}(h:o.isSome=true):o=some (oR o):=by cases o;cases h;rfl
def ge {f:Nat->R}(h:i<n):ar ((List.range n).map f) i=f i:=by unfold ar;simp[List.getD,h]
def Mk {a b:R}(h:(dx a b).isSome=true):dx a b=some (rN (dx a b),rD (dx a b)):=by
 cases e:dx a b with
 |none=>rw[e]at h;cases h
 |some q=>rfl
def Dz {m:Nat}{L V:Rows}{ys:List R}(h:Dy m k L V ys=true):
 Ps m k L V ys (P5 m V) (xf m k L V) (Bg m k L V) (sq m k L V) (X8 m k L V ys) (P6 m k L V ys) (RH m k L V ys) (sr m k L V ys) (vL m k L V ys) (X9 m k L V ys) (HB m k L V ys):=by
 unfold Dy at h
 simp only[Bool.and_eq_true]at h
 obtain⟨⟨⟨⟨⟨⟨⟨⟨⟨⟨⟨⟨h1,h2⟩,h3⟩,h4⟩,A1⟩,O⟩,Ao⟩,Am⟩,A2⟩,A0⟩,Af⟩,Ab⟩,W⟩:=h
 have E:∀i,i<m->0<(RH m k L V ys i).length/\(dx (ar ys i) (ar (RH m k L V ys i) 0)).isSome=true:=λi hi=>by
  have:=List.all_eq_true.1 Am i (List.mem_range.2 hi)
  simpa only[Bool.and_eq_true,decide_eq_true_eq]using this
 exact⟨iS h1,iS h2,iS h3,iS h4,iS A1,iS O,iS Ao,λi hi=>(E i hi).1,by simp[sr],λi hi=>by rw[sr,ge hi];exact Mk (E i hi).2,A2,iS A0,iS Af,
  λi hi=>by simpa using List.all_eq_true.1 Ab i (List.mem_range.2 hi),by simp[vL],λi hi=>by rw[vL,ge hi],by simpa using W⟩
def RI (ha:fits a=true)(hb:fits b=true)(h0:b≠0):qV (ae a) (ae b)=some (qR a b):=by
 unfold qV
 rw[bi ha,bi hb,Bool.and_self,if_pos Z,aK,aK,s9 h0]
def xg (ha:-1000<=a/\a<=1000)(hb:-1000<=b/\b<=1000)(h0:b≠0):aS a b=qR a b:=by
 unfold aS;rw[RI (iJ ha) (iJ hb) h0];rfl
def ss:Rows:=λi=>(qm i).take 2
def su:List R:=vK.take 2
def q9:fL kZ qm vK:=⟨by decide +kernel,by decide +kernel,by decide +kernel,by decide +kernel,by decide +kernel,by decide +kernel⟩
def Ml:fL kZ ss su:=⟨by decide +kernel,by decide +kernel,by decide +kernel,by decide +kernel,by decide +kernel,by decide +kernel⟩
def exE:Dy 3 1 kZ qm vK=true:=by decide +kernel
def ZN:Dy 2 1 kZ ss su=true:=by decide +kernel
def exX:vL 3 1 kZ qm vK=[aS 12 1]:=by decide +kernel
def ZO:(sq 3 1 kZ qm 0).length=1/\ar (sq 3 1 kZ qm 0) 0=aS 1 3:=by decide +kernel
def exS:ar (HB 3 1 kZ qm vK 0) 0=qR 14 1:=by decide +kernel
def ZP:ar (HB 2 1 kZ ss su 0) 0=qR 1 2:=by decide +kernel
def ZQ:qd kZ qm vK [0,1,2] kZ qm vK:=
 ⟨by decide +kernel,λj E=>by match j,E with|0,_=>decide|1,_=>decide,by decide,λi hi=>by match i,hi with|0,_=>rfl|1,_=>rfl|2,_=>rfl,by decide +kernel,by decide +kernel,rfl,by decide +kernel⟩
def Ya:qd kZ qm vK [0,1] kZ ss su:=
 ⟨by decide +kernel,λj E=>by match j,E with|0,_=>decide,by decide,λi hi=>by match i,hi with|0,_=>rfl|1,_=>rfl,by decide +kernel,by decide +kernel,rfl,by decide +kernel⟩
section
variable {Y B:Option Addr}{CY CB:Nat}
def Bh (hD:eE w A C Y CY B CB kZ qm vK)(ht:Tb w):
 CL 14 #[.agg #[.slice A 3 C,.slice Y 3 CY,.slice B 3 CB]] w (aI w λv w'=>∃u,v=.tuple #[u,.int .i64 0]/\nl w.heap.size w' u 1 [aS 12 1] (sq 3 1 kZ qm) (qR 14 1) 2):=by
 have h:=yF hD q9 (k:=1) Z (Dz exE) ht
 rw[show vL vK.length 1 kZ qm vK=[aS 12 1]from exX,show ar (HB vK.length 1 kZ qm vK 0) 0=qR 14 1 from exS]at h
 exact h
def HC (hD:eE w A C Y CY B CB kZ ss su)(ht:Tb w):
 CL 14 #[.agg #[.slice A 2 C,.slice Y 2 CY,.slice B 2 CB]] w (aI w λv w'=>∃u,v=.tuple #[u,.int .i64 0]/\nl w.heap.size w' u 1 (vL 2 1 kZ ss su) (sq 2 1 kZ ss) (qR 1 2) 1):=by
 have h:=yF hD Ml (k:=1) Z (Dz ZN) ht
 rw[show ar (HB su.length 1 kZ ss su 0) 0=qR 1 2 from ZP]at h
 exact h
def Mm (hD:eE w A C Y CY B CB kZ qm vK)(hR:Rw w lo5 kd (ints [0,1]))(ht:Tb w):
 CL 22 #[.agg #[.slice A 3 C,.slice Y 3 CY,.slice B 3 CB],.slice kd 2 CR] w (aI w λv w'=>∃u,v=.tuple #[u,.int .i64 0]/\∃A C Y CY B CB,u=.agg #[.slice A 2 C,.slice Y 2 CY,.slice B 2 CB]/\ia w.heap.size w' A C Y CY B CB kZ ss su):=
 yQ hD q9 hR Ya Ml ht
def Mn (hD:eE w A C Y CY B CB kZ qm vK)(hz:Rw w lo4 X (ag [aS 12 1]))(ht:Tb w):
 CL 24 #[.agg #[.slice A 3 C,.slice Y 3 CY,.slice B 3 CB],.slice X 1 CX] w (aI w λv w'=>∃u,v=.tuple #[u,.int .i64 0]/\AT w.heap.size w' u [aS (-2) 1,aS (-1) 1,aS 3 1]):=by
 exact Pu hD q9 (zs:=[aS 12 1]) (CX:=CX) hz (P:=oR (dp 3 kZ 1 (bI [aS 12 1]))) (rs:=[aS (-2) 1,aS (-1) 1,aS 3 1]) L7 (iS L7) L7 Z L7 ht
def Mo (hD:eE w A C Y CY B CB kZ qm vK)(ht:Tb w):
 CL 32 #[.agg #[.slice A 3 C,.slice Y 3 CY,.slice B 3 CB]] w (aI w λv w'=>v=.bool true):=by
 obtain⟨⟨_,_,hM⟩,⟨_,hy⟩,⟨_,_,hV⟩,hc⟩:=hD
 exact iK (ys:=vK) (L:=kZ) (V:=qm) hM (k8 q9.hv) hy hV (k8 q9.hv3) hc q9.hv q9.hv3 q9.hVl q9.hLl q9.hyo q9.hp ht
def DC (hD:eE w A C Y CY B CB kZ qm vK)(h12:pl<=12)(hC3:∀A C Y CY B CB W,eE W A C Y CY B CB kZ qm vK->Tb W->CL 19 #[.agg #[.slice A 3 C,.slice Y 3 CY,.slice B 3 CB],.agg #[S (aS 1 20).1,S (aS 1 20).2],.int .i64 pl] W (aI W λv _=>v=.tuple #[.int .i64 2,.int .i64 0]))(hC2:∀A C Y CY B CB W,eE W A C Y CY B CB kZ ss su->Tb W->CL 19 #[.agg #[.slice A 2 C,.slice Y 2 CY,.slice B 2 CB],.agg #[S (aS 1 20).1,S (aS 1 20).2],.int .i64 pl] W (aI W λv _=>v=.tuple #[.int .i64 1,.int .i64 0]))(ht:Tb w):
 CL 21 #[.agg #[.slice A 3 C,.slice Y 3 CY,.slice B 3 CB],.agg #[S (aS 1 20).1,S (aS 1 20).2],.int .i64 pl] w (aI w λv w'=>∃u,v=.tuple #[u,.int .i64 0]/\w'.ownsRow w.heap.size 3 1 u 2 (ints [0,1])):=by
 rw[xg dc dc dc]at hC3 hC2 ⊢
 exact Md hD q9 Z ⟨by decide,by decide,by decide⟩ h12 dc dc ZQ q9 Ya Ml hC3 hC2 ht
end
end
section
attribute [local irreducible] wpListIn Code.wpIn Oper.wpIn Exit.then Exit.inBlock Exit.noGoto
set_option maxHeartbeats 40000000
def P7 {u:Value}{cs:List Value}{t:TypeId}(h:w.ownsRow lo t 1 u k cs):∃P cp,u=.slice P k cp/\ni w lo w.heap.size P cs:=⟨sA u,sC u,dl h,ab5 (fh h)⟩
structure lY (hi:Nat)(w:World)(A:Option Addr)(C:Nat)(Y:Option Addr)(CY:Nat)(B:Option Addr)(CB:Nat)(L V:Rows)(ys:List R):Prop where
 m:∃H,nH w 0 hi A ys.length H L
 y:ni w 0 hi Y (ag ys)
 v:∃G,nH w 0 hi B ys.length G V
 c:ys.length<=CB
section
variable {hi:Nat}{w':World}{Y:Option Addr}{CY:Nat}{B:Option Addr}{CB:Nat}{L V:Rows}{ys:List R}
def lY.ext (k:aP w w')(h:lY hi w A C Y CY B CB L V ys):lY hi w' A C Y CY B CB L V ys:=by
 obtain⟨⟨b,c⟩,e,⟨g,i⟩,j⟩:=h
 exact⟨⟨b,c.ext k⟩,e.ext k,⟨g,i.ext k⟩,j⟩
def ac2:=@lY.ext
def lY.put (k:ez w w' x)(hx:x<0\/hi<=x)(h:lY hi w A C Y CY B CB L V ys):lY hi w' A C Y CY B CB L V ys:=by
 obtain⟨⟨b,c⟩,e,⟨g,i⟩,j⟩:=h
 exact⟨⟨b,c.put k hx⟩,e.put k hx,⟨g,i.put k hx⟩,j⟩
def lY.of (h:ia lo w A C Y CY B CB L V ys):lY w.heap.size w A C Y CY B CB L V ys:=by
 obtain⟨⟨b,c⟩,e,⟨g,i⟩,j⟩:=h
 exact⟨⟨b,ab1 (c.mono (qa7 _))⟩,ab5 (e.mono (qa7 _)),⟨g,ab1 (i.mono (qa7 _))⟩,j⟩
def lY.des (h:lY hi w A C Y CY B CB L V ys):eE w A C Y CY B CB L V ys:=by
 obtain⟨⟨b,c⟩,e,⟨g,i⟩,j⟩:=h
 exact⟨⟨_,b,c.mt⟩,⟨_,e.rw⟩,⟨_,g,i.mt⟩,j⟩
end
set_option maxHeartbeats 4000000 in
set_option maxRecDepth 100000 in
def HD {a:Addr}(hE:Er w a)(hC3:∀A C Y CY B CB W,eE W A C Y CY B CB kZ qm vK->Tb W->CL 19 #[.agg #[.slice A 3 C,.slice Y 3 CY,.slice B 3 CB],.agg #[S (aS 1 20).1,S (aS 1 20).2],.int .i64 6] W (aI W λv _=>v=.tuple #[.int .i64 2,.int .i64 0]))(hC2:∀A C Y CY B CB W,eE W A C Y CY B CB kZ ss su->Tb W->CL 19 #[.agg #[.slice A 2 C,.slice Y 2 CY,.slice B 2 CB],.agg #[S (aS 1 20).1,S (aS 1 20).2],.int .i64 6] W (aI W λv _=>v=.tuple #[.int .i64 1,.int .i64 0]))(ht:Tb w):
 CL 9 #[] w (aI w λv w'=>v=.bool true):=by
 refine aE func9 Z (I ?_);refine cl SE Dx ?_;rintro _ D1 cr ⟨Ay,nm,Cr,C1,Az,Ax,rfl,arr⟩;have E:=cr.2;have A0:=lY.of arr;refine al eh (λ_ L1 a8=>?_);have A0:=ac2 L1.2 A0;have E:=xt E L1.2;refine aa (bB (b:=D1.heap.size) (o:=0) (vs:=[.slice Ay 3 nm,.slice Cr 3 C1,.slice Az 3 Ax]) bf Z Z Hx a8 (qa3 Z) (λ_ FR A1=>?_));have A0:=lY.put FR U A0;have E:=bh FR E;have h5:=iQ FR;refine I ?_;(try refine aa (aN (cs:=[.slice Ay 3 nm,.slice Cr 3 C1,.slice Az 3 Ax]) (b:=D1.heap.size) (o:=0) c8 Z bf Z (aa0 A1 (i:=0) Z) ?_));refine cl qA (Bh (A0).des (ht.ext E)) ?_;rintro _ eW H3 ⟨g2,rfl,od,bq,cf,a2,ny,rfl,h0,Ne,g0,T2⟩;have A0:=ac2 H3.2 A0;have⟨A1,E⟩:=bn H3.2 A1 E;have Ab:=ab5 Ne;have A2:=ab1 T2;refine I ?_;refine al dD (λ_ E5 ed=>?_);have A0:=ac2 E5.2 A0;have A1:=be E5.2 A1;have Ab:=aa9 E5.2 Ab;have A2:=aa5 E5.2 A2;have E:=xt E E5.2;refine aa (bB (b:=eW.heap.size) (o:=0) (vs:=[.slice od 1 bq,.slice cf 1 a2,S (qR 14 1).1,S (qR 14 1).2,.int .i64 2]) dJ Z Z Hx ed (qa3 Z) (λ_ E0 Af=>?_))
 have A0:=lY.put E0 U A0;have A1:=pb E0 A1;have Ab:=ab9 E0 U Ab;have A2:=ac5 E0 U A2;have E:=bh E0 E;have g4:=iQ E0;refine I ?_;refine bH 8 ?_;refine aB (λ_ _ d0 _=>by have A1:=be d0 A1;(try refine aa (aN (cs:=[.slice Ay 3 nm,.slice Cr 3 C1,.slice Az 3 Ax]) (b:=D1.heap.size) (o:=0) c8 Z bf Z (aa0 A1 (i:=0) Z) ?_));refine I ?_;exact aG) ?_;refine aR (V:=.agg #[S ((aS 1 20).1),S ((aS 1 20).2)]) (λ_ _ _ _=>?_) ?_;refine clb dR (hc:=cE 1 20 U U) (hk:=?_);rintro _ _ cv rfl;refine I ?_;exact fs ⟨cv.2,rfl⟩;refine aR (V:=.tuple #[.int .i64 2,.int .i64 0]) (λ_ _ L2 _=>?_) ?_;have A0:=ac2 L2 A0;refine cl qB (hC3 _ _ _ _ _ _ _ (A0).des (ht.ext (xt E L2))) ?_;rintro _ _ ea rfl;refine I ?_;exact fs ⟨ea.2,rfl⟩;refine sf ?_;intro _ _ E1 _;have A0:=ac2 E1.2 A0;have A1:=be E1.2 A1;have Ab:=aa9 E1.2 Ab;have A2:=aa5 E1.2 A2;have⟨Af,E⟩:=bn E1.2 Af E;refine I ?_;refine bH 8 ?_;refine aB (λ_ _ fb _=>by have A1:=be fb A1;(try refine aa (aN (cs:=[.slice Ay 3 nm,.slice Cr 3 C1,.slice Az 3 Ax]) (b:=D1.heap.size) (o:=0) c8 Z bf Z (aa0 A1 (i:=0) Z) ?_));refine I ?_;exact aG) ?_;refine aR (V:=.agg #[S ((aS 1 20).1),S ((aS 1 20).2)]) (λ_ _ _ _=>?_) ?_
 refine clb dR (hc:=cE 1 20 U U) (hk:=?_);rintro _ _ Rm rfl;refine I ?_;exact fs ⟨Rm.2,rfl⟩;refine bC (fun(v:Value) (W:World)=>∃P O,v=Value.tuple #[Value.slice P 2 O,.int .i64 0]/\Rw W 0 P (ints [0,1])) (hs:=λ_ _ _ k h=>by obtain⟨P,O,e,r⟩:=h;exact⟨P,O,e,r.ext k⟩) (λ_ _ La _=>?_) ?_;have A0:=ac2 La A0;refine clb SC (hc:=DC (A0).des dc hC3 hC2 (ht.ext (xt E La))) (hk:=?_);rintro _ _ eQ ⟨gv,rfl,cc⟩;obtain⟨_,_,rfl,ej⟩:=P7 cc;refine I ?_;exact fs ⟨eQ.2,⟨_,_,rfl,((ej).rw).mono (Nat.zero_le _)⟩⟩;refine bC (fun(v:Value) (W:World)=>∃P O,v=Value.tuple #[Value.slice P 2 O,.int .i64 0]/\Rw W 0 P (ints [0,1])) (hs:=λ_ _ _ k h=>by obtain⟨P,O,e,r⟩:=h;exact⟨P,O,e,r.ext k⟩) (λfc Wa _ c9=>?_) ?_;have fx:∃P O,fc 32=Value.tuple #[Value.slice P 2 O,.int .i64 0]/\Rw Wa 0 P (ints [0,1]):=(c9 2 32 Z Z);(with_reducible obtain⟨_,_,_,bW⟩:=fx);have et:=ab5 bW;refine I ?_;exact fs ⟨aa1 _,⟨_,_,rfl,((et).rw).mono (Nat.zero_le _)⟩⟩;refine bC (fun(v:Value) (W:World)=>∃P O,v=Value.slice P 2 O/\Rw W 0 P (ints [0,1])) (hs:=λ_ _ _ k h=>by obtain⟨P,O,e,r⟩:=h;exact⟨P,O,e,r.ext k⟩) (λcm ce _ eC=>?_) ?_;have T3:∃P O,cm 29=Value.tuple #[Value.slice P 2 O,.int .i64 0]/\Rw ce 0 P (ints [0,1]):=(eC 3 29 Z Z)
 (with_reducible obtain⟨dq,ac,X0,ft⟩:=T3);have fD:=ab5 ft;refine aa (bT (v:=.slice dq 2 ac) (by exact X0) Z ?_);refine I ?_;exact fs ⟨aa1 _,⟨_,_,rfl,((fD).rw).mono (Nat.zero_le _)⟩⟩;refine aB (λeG S0 _ eg=>by have eP:∃P O,eG 29=Value.tuple #[Value.slice P 2 O,.int .i64 0]/\Rw S0 0 P (ints [0,1]):=(eg 3 29 Z Z);(with_reducible obtain⟨_,_,ask,f0⟩:=eP);have fz:=ab5 f0;refine aa (bT (v:=.int .i64 0) (by exact ask) Z ?_);refine I ?_;exact aG) ?_;refine bC (fun(v:Value) (W:World)=>∃P O,v=Value.slice P 2 O/\Rw W 0 P (ints [0,1])) (hs:=λ_ _ _ k h=>by obtain⟨P,O,e,r⟩:=h;exact⟨P,O,e,r.ext k⟩) (λX2 eX _ VW=>?_) ?_;have W2:∃P O,X2 33=Value.slice P 2 O/\Rw eX 0 P (ints [0,1]):=(VW 4 33 Z Z);(with_reducible obtain⟨_,_,_,cq⟩:=W2);have fC:=ab5 cq;refine I ?_;exact fs ⟨aa1 _,⟨_,_,rfl,((fC).rw).mono (Nat.zero_le _)⟩⟩;refine sf ?_;intro eS d3 E6 fQ;have A0:=ac2 E6.2 A0;have A1:=be E6.2 A1;have Ab:=aa9 E6.2 Ab;have A2:=aa5 E6.2 A2;have⟨Af,E⟩:=bn E6.2 Af E;have cx:∃P O,eS 6=Value.slice P 2 O/\Rw d3 0 P (ints [0,1]):=(fQ 6 6 Z Z);(with_reducible obtain⟨_,_,_,e1⟩:=cx);have Am:=ab5 e1;refine I ?_
 (try refine aa (aN (cs:=[.slice Ay 3 nm,.slice Cr 3 C1,.slice Az 3 Ax]) (b:=D1.heap.size) (o:=0) c8 Z bf Z (aa0 A1 (i:=0) Z) ?_));refine NW (λ_ B1 _ cz=>?_);have A0:=ac2 B1 A0;have A1:=be B1 A1;have Ab:=aa9 B1 Ab;have A2:=aa5 B1 A2;have Af:=be B1 Af;have Am:=aa9 B1 Am;have E:=xt E B1;refine cl BY (Mm (A0).des (aa7 cz) (ht.ext E)) ?_;rintro _ KC CG ⟨gs,rfl,Kp,H4,L4,G0,L3,KM,rfl,fP⟩;have A0:=ac2 CG.2 A0;have A1:=be CG.2 A1;have Ab:=aa9 CG.2 Ab;have A2:=aa5 CG.2 A2;have Af:=be CG.2 Af;have Am:=aa9 CG.2 Am;have E:=xt E CG.2;have B0:=lY.of fP;refine I ?_;refine al eh (λ_ Aw eD=>?_);have A0:=ac2 Aw.2 A0;have A1:=be Aw.2 A1;have Ab:=aa9 Aw.2 Ab;have A2:=aa5 Aw.2 A2;have Af:=be Aw.2 Af;have Am:=aa9 Aw.2 Am;have B0:=ac2 Aw.2 B0;have E:=xt E Aw.2;refine aa (bB (b:=KC.heap.size) (o:=0) (vs:=[.slice Kp 2 H4,.slice L4 2 G0,.slice L3 2 KM]) bf Z Z Hx eD (qa3 Z) (λ_ As Ap=>?_));have A0:=lY.put As U A0;have A1:=pb As A1;have Ab:=ab9 As U Ab;have A2:=ac5 As U A2;have Af:=pb As Af;have Am:=ab9 As U Am;have B0:=lY.put As U B0;have E:=bh As E;have h7:=iQ As
 refine I ?_;refine bH 8 ?_;refine aB (λ_ _ eq _=>by have Ap:=be eq Ap;(try refine aa (aN (cs:=[.slice Kp 2 H4,.slice L4 2 G0,.slice L3 2 KM]) (b:=KC.heap.size) (o:=0) c8 Z bf Z (aa0 Ap (i:=0) Z) ?_));refine I ?_;exact aG) ?_;refine aR (V:=.agg #[S ((aS 1 20).1),S ((aS 1 20).2)]) (λ_ _ _ _=>?_) ?_;refine clb dR (hc:=cE 1 20 U U) (hk:=?_);rintro _ _ cy rfl;refine I ?_;exact fs ⟨cy.2,rfl⟩;refine aR (V:=.tuple #[.int .i64 1,.int .i64 0]) (λ_ _ Ix _=>?_) ?_;have B0:=ac2 Ix B0;refine cl qB (hC2 _ _ _ _ _ _ _ (B0).des (ht.ext (xt E Ix))) ?_;rintro _ _ P1 rfl;refine I ?_;exact fs ⟨P1.2,rfl⟩;refine sf ?_;intro _ _ B2 _;have A0:=ac2 B2.2 A0;have A1:=be B2.2 A1;have Ab:=aa9 B2.2 Ab;have A2:=aa5 B2.2 A2;have Af:=be B2.2 Af;have Am:=aa9 B2.2 Am;have⟨Ap,E⟩:=bn B2.2 Ap E;refine I ?_;refine bH 9 ?_;refine aB (λ_ _ a5 _=>by have A1:=be a5 A1;(try refine aa (aN (cs:=[.slice Ay 3 nm,.slice Cr 3 C1,.slice Az 3 Ax]) (b:=D1.heap.size) (o:=0) c8 Z bf Z (aa0 A1 (i:=0) Z) ?_));refine I ?_;exact aG) ?_;refine aR (V:=.agg #[S ((aS 12 1).1),S ((aS 12 1).2)]) (λ_ _ _ _=>?_) ?_;refine clb dR (hc:=cE 12 1 U U) (hk:=?_);rintro _ _ bd rfl;refine I ?_;exact fs ⟨bd.2,rfl⟩
 refine bC (fun(v:Value) (W:World)=>∃P O,v=Value.slice P 1 O/\Rw W 0 P (ag [aS 12 1])) (hs:=λ_ _ _ k h=>by obtain⟨P,O,e,r⟩:=h;exact⟨P,O,e,r.ext k⟩) (λ_ Li _ _=>?_) ?_;refine BS (λK2 d1 _ e3=>?_);have S9:ni K2 Li.heap.size K2.heap.size (some ⟨Li.heap.size,0,none⟩) (ag [aS 12 1]):=ab5 (aa7 e3);refine I ?_;exact fs ⟨d1,⟨_,_,rfl,((S9).rw).mono (Nat.zero_le _)⟩⟩;refine bC (fun(v:Value) (W:World)=>∃P O,v=Value.tuple #[Value.slice P 3 O,.int .i64 0]/\Rw W 0 P (ag [aS (-2) 1,aS (-1) 1,aS 3 1])) (hs:=λ_ _ _ k h=>by obtain⟨P,O,e,r⟩:=h;exact⟨P,O,e,r.ext k⟩) (λbp a0 K3 W3=>?_) ?_;have A0:=ac2 K3 A0;have er:∃P O,bp 50=Value.slice P 1 O/\Rw a0 0 P (ag [aS 12 1]):=(W3 2 50 Z Z);(with_reducible obtain⟨_,_,cp,cw⟩:=er);have e5:=ab5 cw;refine cl SD (Mn (A0).des (e5).rw (ht.ext (xt E K3))) ?_ (au Z (au (by exact cp) Z));rintro _ _ P2 ⟨h6,rfl,ga,gb,rfl,g3,W1⟩;have d6:=ab5 W1;refine I ?_;exact fs ⟨P2.2,⟨_,_,rfl,((d6).rw).mono (Nat.zero_le _)⟩⟩;refine bC (fun(v:Value) (W:World)=>∃P O,v=Value.tuple #[Value.slice P 3 O,.int .i64 0]/\Rw W 0 P (ag [aS (-2) 1,aS (-1) 1,aS 3 1])) (hs:=λ_ _ _ k h=>by obtain⟨P,O,e,r⟩:=h;exact⟨P,O,e,r.ext k⟩) (λfR ct _ bb=>?_) ?_
 have fy:∃P O,fR 51=Value.tuple #[Value.slice P 3 O,.int .i64 0]/\Rw ct 0 P (ag [aS (-2) 1,aS (-1) 1,aS 3 1]):=(bb 3 51 Z Z);(with_reducible obtain⟨_,_,_,No⟩:=fy);have N0:=ab5 No;refine I ?_;exact fs ⟨aa1 _,⟨_,_,rfl,((N0).rw).mono (Nat.zero_le _)⟩⟩;refine bC (fun(v:Value) (W:World)=>∃P O,v=Value.slice P 3 O/\Rw W 0 P (ag [aS (-2) 1,aS (-1) 1,aS 3 1])) (hs:=λ_ _ _ k h=>by obtain⟨P,O,e,r⟩:=h;exact⟨P,O,e,r.ext k⟩) (λd4 a9 _ fa=>?_) ?_;have bZ:∃P O,d4 47=Value.tuple #[Value.slice P 3 O,.int .i64 0]/\Rw a9 0 P (ag [aS (-2) 1,aS (-1) 1,aS 3 1]):=(fa 4 47 Z Z);(with_reducible obtain⟨dd,co,b0,fl⟩:=bZ);have fG:=ab5 fl;refine aa (bT (v:=.slice dd 3 co) (by exact b0) Z ?_);refine I ?_;exact fs ⟨aa1 _,⟨_,_,rfl,((fG).rw).mono (Nat.zero_le _)⟩⟩;refine aB (λe6 fX _ eb=>by have Lj:∃P O,e6 47=Value.tuple #[Value.slice P 3 O,.int .i64 0]/\Rw fX 0 P (ag [aS (-2) 1,aS (-1) 1,aS 3 1]):=(eb 4 47 Z Z);(with_reducible obtain⟨_,_,fi,at2⟩:=Lj);have gW:=ab5 at2;refine aa (bT (v:=.int .i64 0) (by exact fi) Z ?_);refine I ?_;exact aG) ?_
 refine bC (fun(v:Value) (W:World)=>∃P O,v=Value.slice P 3 O/\Rw W 0 P (ag [aS (-2) 1,aS (-1) 1,aS 3 1])) (hs:=λ_ _ _ k h=>by obtain⟨P,O,e,r⟩:=h;exact⟨P,O,e,r.ext k⟩) (λat3 at4 _ fS=>?_) ?_;have cb:∃P O,at3 52=Value.slice P 3 O/\Rw at4 0 P (ag [aS (-2) 1,aS (-1) 1,aS 3 1]):=(fS 5 52 Z Z);(with_reducible obtain⟨_,_,_,WV⟩:=cb);have f3:=ab5 WV;refine I ?_;exact fs ⟨aa1 _,⟨_,_,rfl,((f3).rw).mono (Nat.zero_le _)⟩⟩;refine sf ?_;intro dL an D2 P0;have A0:=ac2 D2.2 A0;have A1:=be D2.2 A1;have Ab:=aa9 D2.2 Ab;have A2:=aa5 D2.2 A2;have Af:=be D2.2 Af;have Am:=aa9 D2.2 Am;have⟨Ap,E⟩:=bn D2.2 Ap E;have fN:∃P O,dL 12=Value.slice P 3 O/\Rw an 0 P (ag [aS (-2) 1,aS (-1) 1,aS 3 1]):=(P0 7 12 Z Z);(with_reducible obtain⟨_,_,_,dC⟩:=fN);have Ao:=ab5 dC;refine I ?_;refine cl qA (LB (ad1 E hE) (ht.ext E)) ?_;rintro _ a6 Ar rfl;have A0:=ac2 Ar.2 A0;have A1:=be Ar.2 A1;have Ab:=aa9 Ar.2 Ab;have A2:=aa5 Ar.2 A2;have Af:=be Ar.2 Af;have Am:=aa9 Ar.2 Am;have Ap:=be Ar.2 Ap;have Ao:=aa9 Ar.2 Ao;have E:=xt E Ar.2;refine I ?_;refine al dD (λ_ Aq Vm=>?_);have A0:=ac2 Aq.2 A0;have A1:=be Aq.2 A1;have Ab:=aa9 Aq.2 Ab;have A2:=aa5 Aq.2 A2;have Af:=be Aq.2 Af;have Am:=aa9 Aq.2 Am
 have Ap:=be Aq.2 Ap;have Ao:=aa9 Aq.2 Ao;have E:=xt E Aq.2;refine aa (bB (b:=a6.heap.size) (o:=0) (vs:=[.slice none 0 0,.slice none 0 0,S [],S [],.int .i64 0]) dJ Z Z Hx Vm (qa3 Z) (λ_ Av _=>?_));have A0:=lY.put Av U A0;have A1:=pb Av A1;have Ab:=ab9 Av U Ab;have A2:=ac5 Av U A2;have Af:=pb Av Af;have Am:=ab9 Av U Am;have Ap:=pb Av Ap;have Ao:=ab9 Av U Ao;have E:=bh Av E;have Q0:=ab2 (A2).mt (i:=0) U;refine I ?_;refine gR Q0 ?_ (i:=0);refine I ?_;refine bH 31 ?_;refine sf ?_;refine aB (λ_ _ cT _=>by have Ab:=aa9 cT Ab;have fT:=bA (Ab).rw (k:=0) (show 0<1 by decide);refine I ?_;refine lU fT ?_ (i:=0) (hlt:=(show 0<1 by decide));refine I ?_;exact aG) ?_;refine aB (λ_ _ fu _=>by have Ab:=aa9 fu Ab;have gr:=bA (Ab).rw (k:=0) (show 0<1 by decide);refine I ?_;exact aG) ?_;refine aR (V:=.agg #[S ((aS 12 1).1),S ((aS 12 1).2)]) (λ_ _ _ _=>?_) ?_;refine clb dR (hc:=cE 12 1 U U) (hk:=?_);rintro _ _ fW rfl;refine I ?_;exact fs ⟨fW.2,rfl⟩;refine aB (λ_ _ _ _=>by refine aa (yg (a:=ar [aS 12 1] 0) (b:=aS 12 1) (q:=decide ((ar [aS 12 1] 0)=(aS 12 1))) Z Z Z ?_);refine I ?_;exact aG) ?_;refine sf ?_
 refine aB (λ_ _ f8 _=>by have A2:=aa5 f8 A2;have W0:=ab2 (A2).mt (i:=0) U;refine I ?_;refine gR W0 ?_ (i:=0);refine I ?_;exact aG) ?_;refine aB (λ_ _ a3 _=>by have A2:=aa5 a3 A2;have gn:=ab2 (A2).mt (i:=0) U;refine I ?_;exact aG) ?_;refine aB (λ_ _ f9 _=>by have A2:=aa5 f9 A2;have a4:=ad3 (A2).mt (i:=0) (k:=0) U (show 0<(sq 3 1 kZ qm 0).length by rw[ZO.1];decide);refine I ?_;refine lU a4 ?_ (i:=0) (hlt:=(show 0<(sq 3 1 kZ qm 0).length by rw[ZO.1];decide));refine I ?_;exact aG) ?_;refine aB (λ_ _ d5 _=>by have A2:=aa5 d5 A2;have g1:=ad3 (A2).mt (i:=0) (k:=0) U (show 0<(sq 3 1 kZ qm 0).length by rw[ZO.1];decide);refine I ?_;exact aG) ?_;refine aR (V:=.agg #[S ((aS 1 3).1),S ((aS 1 3).2)]) (λ_ _ _ _=>?_) ?_;refine I ?_;refine clb dR (hc:=cE 1 3 U U) (hk:=?_);rintro _ _ bv rfl;refine I ?_;exact fs ⟨bv.2,rfl⟩;refine aB (λ_ _ _ _=>by refine I ?_;refine aa (yg (a:=ar ((sq 3 1 kZ qm) 0) 0) (b:=aS 1 3) (q:=decide ((ar ((sq 3 1 kZ qm) 0) 0)=(aS 1 3))) Z Z Z ?_);refine I ?_;exact aG) ?_;refine sf ?_;refine aR (V:=.agg #[S ((aS 14 1).1),S ((aS 14 1).2)]) (λ_ _ _ _=>?_) ?_;refine I ?_;refine clb dR (hc:=cE 14 1 U U) (hk:=?_);rintro _ _ eB rfl;refine I ?_
 exact fs ⟨eB.2,rfl⟩;refine aB (λ_ _ _ _=>by refine I ?_;refine aa (yg (a:=qR 14 1) (b:=aS 14 1) (q:=decide ((qR 14 1)=(aS 14 1))) Z Z Z ?_);refine I ?_;exact aG) ?_;refine sf ?_;intro _ _ E4 _;have A0:=ac2 E4.2 A0;have A1:=be E4.2 A1;have Am:=aa9 E4.2 Am;have Ao:=aa9 E4.2 Ao;have E:=xt E E4.2;have ad:=pP (Am).rw (i:=0) (show 0<2 by decide);refine I ?_;refine gR ad ?_ (i:=0) (hlt:=(show 0<2 by decide));have ch:=pP (Am).rw (i:=1) (show 1<2 by decide);refine I ?_;refine gR ch ?_ (i:=1) (hlt:=(show 1<2 by decide));refine I ?_;refine clb dR (hc:=cE (-2) 1 U U) (hk:=?_);rintro _ _ EW rfl;have A0:=ac2 EW.2 A0;have A1:=be EW.2 A1;have Ao:=aa9 EW.2 Ao;have E:=xt E EW.2;refine I ?_;refine clb dR (hc:=cE (-1) 1 U U) (hk:=?_);rintro _ _ E9 rfl;have A0:=ac2 E9.2 A0;have A1:=be E9.2 A1;have Ao:=aa9 E9.2 Ao;have E:=xt E E9.2;refine I ?_;refine clb dR (hc:=cE 3 1 U U) (hk:=?_);rintro _ GC ES rfl;have A0:=ac2 ES.2 A0;have A1:=be ES.2 A1;have Ao:=aa9 ES.2 Ao;have E:=xt E ES.2;refine I ?_
 refine aa (cK (vs:=[(0,.agg #[S ((aS (-2) 1).1),S ((aS (-2) 1).2)]),(1,.agg #[S ((aS (-1) 1).1),S ((aS (-1) 1).2)]),(2,.agg #[S ((aS 3 1).1),S ((aS 3 1).2)])]) (cells:=#[S ((aS (-2) 1).1),S ((aS (-2) 1).2),S ((aS (-1) 1).1),S ((aS (-1) 1).2),S ((aS 3 1).1),S ((aS 3 1).2)]) sE aY Z dc dc q0 Z dc (λKY E7 _ fB=>?_));have A0:=ac2 E7 A0;have A1:=be E7 A1;have Ao:=aa9 E7 Ao;have E:=xt E E7;have Lk:ni KY GC.heap.size KY.heap.size (some ⟨GC.heap.size,0,none⟩) (ag [aS (-2) 1,aS (-1) 1,aS 3 1]):=ab5 (aa7 fB);refine I ?_;refine clb VK (hc:=wW (xs:=[aS (-2) 1,aS (-1) 1,aS 3 1]) (Ao).rw (Lk).rw dc) (hk:=?_);rintro _ _ H2 rfl;have A0:=ac2 H2.2 A0;have⟨A1,E⟩:=bn H2.2 A1 E;refine I ?_;(try refine aa (aN (cs:=[.slice Ay 3 nm,.slice Cr 3 C1,.slice Az 3 Ax]) (b:=D1.heap.size) (o:=0) c8 Z bf Z (aa0 A1 (i:=0) Z) ?_));refine I ?_;refine cl lf (Mo (A0).des (ht.ext E)) ?_;rintro _ _ wr rfl;have E:=xt E wr.2;refine I ?_;refine cl lf (u9 (ht.ext E)) ?_;rintro _ _ e4 rfl;have E:=xt E e4.2;refine I ?_;exact am (t:=0) (v:=.bool true) Z E Z Z
end
section
section
variable {Y B:Option Addr}{CY CB m:Nat}{L V:Rows}{ys:List R}
def P8 (hD:eE w A C Y CY B CB L V ys)(ok:fL L V ys)(hm:ys.length=m)(hk:(L 0).length=k)(h:Dy m k L V ys=true)(ht:Tb w):
 CL 14 #[.agg #[.slice A m C,.slice Y m CY,.slice B m CB]] w (aI w λv w'=>∃u,v=.tuple #[u,.int .i64 0]/\nl w.heap.size w' u k (vL m k L V ys) (sq m k L V) (ar (HB m k L V ys 0) 0) (((m:Nat):Int)-(k:Int))):=by
 subst hm
 exact yF hD ok hk (Dz h) ht
def P9 (hD:eE w A C Y CY B CB L V ys)(ok:fL L V ys)(hm:ys.length=m){a:Addr}(hk:(L 0).length=k)(hE:Er w a)(eW:eN m V=some (P5 m V))(eB:dp k (λj=>l5 L m j) m (P5 m V)=some (xf m k L V))(eG:dp k (xf m k L V) m L=some (Bg m k L V))(eC:eN k (Bg m k L V)=none)(ht:Tb w):
 CL 14 #[.agg #[.slice A m C,.slice Y m CY,.slice B m CB]] w (aI w λv w'=>v=.tuple #[.agg #[.slice none 0 0,.slice none 0 0,S [],S [],.int .i64 0],.int .i64 140]):=by
 subst hm
 exact LA hD ok hk hE eW eB eG eC ht
end
end
end Go.Proofs.YtlmihmlnpjkblaaGreatDoor
namespace La
variable {i n cols j:Nat}{p:Nat->Nat}{f:Rat}
inductive RO (n m:Nat) (A:Mx):Mx->Rat->Prop
 |refl:RO n m A A 1
 |eq {B B':Mx} {f:Rat}:RO n m A B f->lQ n m B B'->RO n m A B' f
 |swap {B:Mx} {f:Rat} {p r:Nat}:RO n m A B f->p<n->r<n->p≠r->RO n m A (λi j=>B (sx p r i) j) (- f)
 |scale {B:Mx} {f c:Rat} {r:Nat}:RO n m A B f->r<n->c≠0->RO n m A (ur B r (λj=>B r j/c)) (f*c)
 |add {B:Mx} {f c:Rat} {i r:Nat}:RO n m A B f->i<n->r<n->i≠r->RO n m A (ur B i (λj=>B i j+c*B r j)) f
def Mp {p r:Nat}(hp:p<n)(hr:r<n)(hi:i<n):sx p r i<n:=by unfold sx;split <;>(try split) <;>omega
def Yb (p r i:Nat):sx p r (sx p r i)=i:=by unfold sx;grind
def RO.ne {m:Nat}{A B:Mx}(h:RO n m A B f):f≠0:=by
 induction h with
 |refl=>simp
 |eq _ _ ih=>exact ih
 |swap _ _ _ _ ih=>grind
 |scale _ _ hc ih=>intro e;rcases Rat.mul_eq_zero.1 e with e|e <;>contradiction
 |add _ _ _ _ ih=>exact ih
def RO.ker {m:Nat}{A B:Mx}(h:RO n m A B f)(x:Nat->Rat):(∀i,i<n->sm m (λj=>A i j*x j)=0)↔(∀i,i<n->sm m (λj=>B i j*x j)=0):=by
 induction h with
 |refl=>exact Iff.rfl
 | eq _ he ih=>
   rw[ih]
   exact⟨λh i hi=>by rw[<-h i hi];exact av λj O=>by rw[he i hi j O],λh i hi=>by rw[<-h i hi];exact av λj O=>by rw[he i hi j O]⟩
 | swap _ hp hr _ ih=>
   rw[ih]
   exact⟨λh i hi=>h _ (Mp hp hr hi),λh i hi=>by have:=h _ (Mp hp hr hi);simp only[Yb]at this;exact this⟩
 | @scale B f c r _ hr hc ih=>
   rw[ih]
   have key:sm m (λj=>ur B r (λj=>B r j/c) r j*x j)=(1/c)*sm m (λj=>B r j*x j):=by
    rw[<-dz];exact av λj _=>by unfold ur;rw[if_pos Z];grind
   refine⟨λh i hi=>?_,λh i hi=>?_⟩
   · by_cases e:i=r
     · subst e;rw[key,h i hi];grind
     · rw[<-h i hi];exact av λj _=>by unfold ur;rw[if_neg e]
   · by_cases e:i=r
     · subst e;have:=h i hi;rw[key]at this;grind
     · rw[<-h i hi];exact av λj _=>by unfold ur;rw[if_neg e]
 | @add B f c i r _ hi hr hne ih=>
   rw[ih]
   have key:sm m (λj=>ur B i (λj=>B i j+c*B r j) i j*x j)=sm m (λj=>B i j*x j)+c*sm m (λj=>B r j*x j):=by
    rw[<-dz,<-lJ];exact av λj _=>by unfold ur;rw[if_pos Z];grind
   have E:∀k,k≠i->sm m (λj=>ur B i (λj=>B i j+c*B r j) k j*x j)=sm m (λj=>B k j*x j):=λk hk=>av λj _=>by unfold ur;rw[if_neg hk]
   refine⟨λh k hk=>?_,λh k hk=>?_⟩
   · by_cases e:k=i
     · subst e;rw[key,h k hk,h r hr];grind
     · rw[E k e];exact h k hk
   · by_cases e:k=i
     · subst e
       have h1:=h k hk
       have h2:=h r hr
       rw[key]at h1;rw[E r (λe=>hne e.symm)]at h2;rw[h2]at h1;grind
     · rw[<-E k e];exact h k hk
def Bi (k:Nat)(B X:Mx)(p r:Nat):mul k (λi j=>B (sx p r i) j) X=λi j=>mul k B X (sx p r i) j:=rfl
def Mq (k:Nat)(B X:Mx)(r:Nat)(u:Nat->Rat):mul k (ur B r u) X=ur (mul k B X) r (λj=>sm k (λl=>u l*X l j)):=by
 funext i j;unfold mul ur
 by_cases e:i=r
 · simp only[if_pos e]
 · simp only[if_neg e]
def xh (k:Nat)(B X:Mx)(r:Nat)(c:Rat):mul k (ur B r (λj=>B r j/c)) X=ur (mul k B X) r (λj=>mul k B X r j/c):=by
 rw[Mq];congr 1;funext j
 unfold mul
 rw[show sm k (λl=>B r l*X l j)/c=(1/c)*sm k (λl=>B r l*X l j)by grind,<-dz]
 exact av λl _=>by grind
def mul_add (k:Nat)(B X:Mx)(i r:Nat)(c:Rat):mul k (ur B i (λj=>B i j+c*B r j)) X=ur (mul k B X) i (λj=>mul k B X i j+c*mul k B X r j):=by
 rw[Mq];congr 1;funext j
 unfold mul
 rw[<-dz,<-lJ]
 exact av λl _=>by grind
def RO.mat {m:Nat}{A B:Mx}(h:RO n m A B f):∃E:Mx,lQ n m B (mul n E A):=by
 induction h with
 |refl=>exact⟨one,λi hi j _=>(one_mul hi).symm⟩
 |eq _ he ih=>obtain⟨E,h⟩:=ih;exact⟨E,λi hi j O=>by rw[<-he i hi j O,h i hi j O]⟩
 | @swap B f p r _ hp hr _ ih=>obtain⟨E,h⟩:=ih;exact⟨λi j=>E (sx p r i) j,λi hi j O=>by rw[Bi];exact h _ (Mp hp hr hi) j O⟩
 | @scale B f c r _ hr hc ih=>
   obtain⟨E,h⟩:=ih
   refine⟨ur E r (λj=>E r j/c),λi hi j O=>?_⟩
   rw[xh];unfold ur
   split
   · show B r j/c=mul n E A r j/c
     rw[h r hr j O]
   · exact h i hi j O
 | @add B f c i r _ hi hr hne ih=>
   obtain⟨E,h⟩:=ih
   refine⟨ur E i (λj=>E i j+c*E r j),λk hk j O=>?_⟩
   rw[mul_add];unfold ur
   split
   · show B i j+c*B r j=mul n E A i j+c*mul n E A r j
     rw[h i hi j O,h r hr j O]
   · exact h k hk j O
def RO.det {m:Nat}{A B:Mx}(h:RO n m A B f)(hn:n<=m)(X:Mx):det n (mul n A X)=f*La.det n (mul n B X):=by
 induction h with
 |refl=>grind
 |eq _ he ih=>rw[ih];congr 1;exact e9 λi hi j _=>ey (λl _=>he i hi l J) (λ_ _=>rfl)
 |swap _ hp hr hne ih=>rw[ih,Bi,AQ hp hr hne];grind
 | @scale B f c r _ hr hc ih=>
   rw[ih,xh,show(λj=>mul n B X r j/c)=λj=>(1/c)*mul n B X r j by funext j;grind,wT _ _ hr,s7];grind
 |add _ hi hr hne ih=>rw[ih,mul_add,Dp _ hi hr hne]
structure RF (n cols r:Nat)(p:Nat->Nat)(B:Mx):Prop where
 rn:r<=n
 inc:∀a b,a<b->b<r->p a<p b
 lt:∀a,a<r->p a<cols
 unit:∀i,i<n->∀l,l<r->B i (p l)=if i=l then 1 else 0
 zero:∀i,r<=i->i<n->∀j,j<cols->B i j=0
def Qa {m r:Nat}(hp:∀l,l<r->p l<m)(a c:Nat->Rat):
 sm m (λt=>a t*sm r (λl=>if t=p l then c l else 0))=sm r (λl=>a (p l)*c l):=by
 rw[av (g:=λt=>sm r (λl=>a t*(if t=p l then c l else 0))) (λt _=>by rw[dz]),ju]
 refine av λl hl=>?_
 rw[iI (hp l hl) (λt _ ht=>by rw[if_neg ht];grind),if_pos Z]
def RF.comb {m r:Nat}{A B:Mx}(hr:RO n m A B f)(h:RF n cols r p B)(hc:cols<=m)(hi:i<n)(hj:j<m)(hz:∀k,r<=k->k<n->B k j=0):
 A i j=sm r (λl=>A i (p l)*B l j):=by
 let x:Nat->Rat:=λt=>(if t=j then 1 else 0)-sm r (λl=>if t=p l then B l j else 0)
 have hx:∀D:Mx,∀i,sm m (λt=>D i t*x t)=D i j-sm r (λl=>D i (p l)*B l j):=by
  intro D i
  rw[<-Qa (m:=m) (λl hl=>Nat.lt_of_lt_of_le (h.lt l hl) hc) (D i) (λl=>B l j)]
  rw[av (g:=λt=>D i t*(if t=j then 1 else 0)-D i t*sm r (λl=>if t=p l then B l j else 0)) (λt _=>by show D i t*(_-_)=_;grind),oC]
  rw[iI (k:=j) hj (λt _ ht=>by rw[if_neg ht];grind),if_pos Z];grind
 have h1:=(hr.ker x).2 (λk hk=>by
  rw[hx B k]
  by_cases e:k<r
  · rw[iI e (λl hl E=>by rw[h.unit k hk l hl,if_neg (λe=>E e.symm)];grind),h.unit k hk k e,if_pos Z];grind
  · rw[hz k J hk,dH (λl hl=>by rw[h.unit k hk l hl,if_neg J];grind)];grind) i hi
 rw[hx A i]at h1
 grind
def RF.rank {m r:Nat}{A B:Mx}(hr:RO n m A B f)(h:RF n cols r p B)(hc:cols<=m):Rk n cols r A:=by
 obtain⟨E,hE⟩:=hr.mat
 refine⟨λi l=>A i (p l),B,E,λj l=>if j=p l then 1 else 0,⟨λi hi j O=>?_,λi hi j O=>?_,λi hi j O=>?_⟩⟩
 · exact h.comb hr hc hi J (λk h1 h2=>h.zero k h1 h2 j O)
 · have:=hE i kb4 (p j) (qb1 (h.lt j O) hc)
   rw[h.unit i kb4 j O]at this
   exact this.symm
 · show sm cols (λt=>B i t*(if t=p j then 1 else 0))=_
   rw[iI (h.lt j O) (λt _ ht=>by rw[if_neg ht];grind),if_pos Z,h.unit i kb4 j O]
   unfold one;grind
def RF.full {B:Mx}(h:RF n n n p B):lQ n n B one:=by
 have h1:∀l,l<n->l<=p l:=by
  intro l
  induction l with
  |zero=>intro _;omega
  |succ l ih=>intro hl;have:=ih J;have:=h.inc l (l+1) J hl;omega
 have h2:∀d l,l+d+1=n->p l<=l:=by
  intro d
  induction d with
  |zero=>intro l hl;have:=h.lt l J;omega
  |succ d ih=>intro l hl;have:=ih (l+1) J;have:=h.inc l (l+1) J J;omega
 intro i hi j E
 have:=h.unit i hi j E
 rw[show p j=j from Nat.le_antisymm (h2 (n-j-1) j J) (h1 j E)]at this
 exact this
def RF.det_full {m:Nat}{A B:Mx}(hr:RO n m A B f)(h:RF n n n p B)(hn:n<=m)(X:Mx):det n (mul n A X)=f*det n X:=by
 rw[hr.det hn];congr 1;exact e9 λi hi j _=>by rw[ey (A':=one) (B':=X) (λl hl=>h.full i hi l hl) (λ_ _=>rfl),one_mul hi]
def RF.det_less {m r:Nat}{A B:Mx}(hr:RO n m A B f)(h:RF n n r p B)(hn:n<=m)(hlt:r<n)(X:Mx):det n (mul n A X)=0:=by
 rw[hr.det hn,AO (k:=n-1) J (λj _=>dH λl hl=>by rw[h.zero (n-1) J J l hl];grind)];grind
def kg (n:Nat)(A:Mx):det n (mul n A one)=det n A:=e9 λ_ _ _ E=>mul_one E
def RF.det_mul {m r:Nat}{A B:Mx}(hr:RO n m A B f)(h:RF n n r p B)(hn:n<=m)(X:Mx):det n (mul n A X)=det n A*det n X:=by
 by_cases e:r=n
 · subst e
   rw[h.det_full hr hn,<-kg r A,h.det_full hr hn,yC];grind
 · have:=h.rn
   rw[h.det_less hr hn J,<-kg n A,h.det_less hr hn J];grind
def RF.det_iff {m r:Nat}{A B:Mx}(hr:RO n m A B f)(h:RF n n r p B)(hn:n<=m):(r=n->det n A=f)/\(r<n->det n A=0):=
 ⟨λe=>by subst e;rw[<-kg,h.det_full hr hn,yC];grind,λe=>by rw[<-kg,h.det_less hr hn e]⟩
end La
namespace Go.Proofs.YtlmihmlnpjkblaaGreatDoor
open Go Go.Eng Go.RowKit La Proofs.Tryz
def Q (L:Rows):Mx:=λi j=>qv (ar (L i) j)
def RO.clear {n m:Nat}{A B:Mx}{f:Rat}{r c:Nat}(h:RO n m A B f)(hr:r<n):∀k,k<=n->RO n m A (λi j=>if i=r then B i j else if i<k then B i j-B i c*B r j else B i j) f
 |0,_=>h.eq λi _ j _=>by simp
 | k + 1,hk=>by
   have ih:=RO.clear (c:=c) h hr k J
   by_cases e:k=r
   · refine ih.eq λi _ j _=>?_
     by_cases h1:i=r
     · simp[h1]
     · simp only[if_neg h1,show(i<k+1)=(i<k)from propext ⟨λ_=>by omega,λ_=>by omega⟩]
   · refine(ih.add (c:= -B k c) (i:=k) (r:=r) J hr e).eq λi _ j _=>?_
     unfold ur
     by_cases h1:i=k
     · subst h1
       simp only[if_neg e,Nat.lt_irrefl,if_false,show i<i+1 from Nat.lt_succ_self i,if_true];grind
     · rw[if_neg h1]
       by_cases h2:i=r
       · simp[h2]
       · simp only[if_neg h2,show(i<k+1)=(i<k)from propext ⟨λ_=>by omega,λ_=>by omega⟩]
section steps
variable {n m r i c:Nat}
def FN (hr:r<n)(pv:R)(y:Rat):∀(f k:Nat) (L:Rows),k+f=m->qt n m L->(∀j,k<=j->j<m->∃q,mB (ar (L r) j) pv=some q/\bL q=true/\qv q=qv (ar (L r) j)/y)->
 ∃L2,mD r pv f k L=some L2/\qt n m L2/\(∀i,i≠r->L2 i=L i)/\(∀j,j<k->ar (L2 r) j=ar (L r) j)/\∀j,k<=j->j<m->qv (ar (L2 r) j)=qv (ar (L r) j)/y
 |0,k,L,_,hok,_=>⟨L,rfl,hok,λ_ _=>rfl,λ_ _=>rfl,λj h1 h2=>by omega⟩
 | f +1,k,L,hk,hok,h=>by
   obtain⟨q,h1,h2,h3⟩:=h k (qa0 _) J
   have hl:k<(L r).length:=by rw[(hok r hr).1];omega
   have E:∀j,ar ((L r).set k q) j=if j=k then q else ar (L r) j:=λj=>pC hl
   obtain⟨L2,e,A1,o1,O,A0⟩:=FN hr pv y f (k+1) (bX L r ((L r).set k q)) J (hok.set J hr h2) (λj h1 h2=>by
    rw[bj,E,if_neg J];exact h j J h2)
   refine⟨L2,by rw[mD,h1];exact e,A1,λi hi=>by rw[o1 i hi,bm _ _ hi],λj _=>by rw[O j J,bj,E,if_neg J],λj _ W=>?_⟩
   by_cases e2:j=k
   · subst e2;rw[O j J,bj,E,if_pos Z,h3]
   · rw[A0 j J W,bj,E,if_neg e2]
def FO (hi:i<n)(hne:i≠r)(by_:R)(y:Rat):∀(f k:Nat) (L:Rows),k+f=m->qt n m L->
 (∀j,k<=j->j<m->∃p,qr by_ (ar (L r) j)=some p/\∃d,dx (ar (L i) j) p=some d/\bL d=true/\qv d=qv (ar (L i) j)-y*qv (ar (L r) j))->
 ∃L2,lW r i by_ f k L=some L2/\qt n m L2/\(∀i',i'≠i->L2 i'=L i')/\(∀j,j<k->ar (L2 i) j=ar (L i) j)/\∀j,k<=j->j<m->qv (ar (L2 i) j)=qv (ar (L i) j)-y*qv (ar (L r) j)
 |0,k,L,_,hok,_=>⟨L,rfl,hok,λ_ _=>rfl,λ_ _=>rfl,λj h1 h2=>by omega⟩
 | f +1,k,L,hk,hok,h=>by
   obtain⟨p,h0,q,h1,h2,h3⟩:=h k (qa0 _) J
   have hl:k<(L i).length:=by rw[(hok i hi).1];omega
   have E:∀j,ar ((L i).set k q) j=if j=k then q else ar (L i) j:=λj=>pC hl
   obtain⟨L2,e,A1,o1,O,A0⟩:=FO hi hne by_ y f (k+1) (bX L i ((L i).set k q)) J (hok.set J hi h2) (λj h1 h2=>by
    rw[bj,bm _ _ (λe=>hne e.symm),E,if_neg J];exact h j J h2)
   refine⟨L2,by rw[lW,h0];show(match dx (ar (L i) k) p with|none=>none|some d=>_)=_;rw[h1];exact e,A1,λi' hi=>by rw[o1 i' hi,bm _ _ hi],λj _=>by rw[O j J,bj,E,if_neg J],λj _ W=>?_⟩
   by_cases e2:j=k
   · subst e2;rw[O j J,bj,E,if_pos Z,h3]
   · rw[A0 j J W,bj,E,if_neg e2,bm _ _ (λe=>hne e.symm)]
def yT (hc:c<m):∀(f k:Nat) (L:Rows),k+f=n->qt n m L->
 (∀i,k<=i->i<n->i≠r->∀j,c<=j->j<m->∃p,qr (ar (L i) c) (ar (L r) j)=some p/\∃d,dx (ar (L i) j) p=some d/\bL d=true/\qv d=qv (ar (L i) j)-qv (ar (L i) c)*qv (ar (L r) j))->
 ∃L2,kq m r c f k L=some L2/\qt n m L2/\L2 r=L r/\(∀i,i<k->L2 i=L i)/\∀i,k<=i->i<n->i≠r->(∀j,j<c->ar (L2 i) j=ar (L i) j)/\∀j,c<=j->j<m->qv (ar (L2 i) j)=qv (ar (L i) j)-qv (ar (L i) c)*qv (ar (L r) j)
 |0,k,L,_,hok,_=>⟨L,rfl,hok,rfl,λ_ _=>rfl,λi h1 h2=>by omega⟩
 | f + 1,k,L,hk,hok,h=>by
   by_cases hs:k=r\/ar (L k) c=z0
   · obtain⟨L2,e,ok2,o1,o2,o3⟩:=yT hc f (k+1) L J hok (λi h1 h2=>h i J h2)
     refine⟨L2,by rw[kq,if_pos hs];exact e,ok2,o1,λi hi=>o2 i J,λi h1 h2 h3=>?_⟩
     by_cases e2:i=k
     · subst e2
       rw[o2 i J]
       refine⟨λ_ _=>rfl,λj _ _=>?_⟩
       rcases hs with hs|hs
       · exact absurd hs h3
       · rw[hs,mI];grind
     · exact o3 i J h2 h3
   · have W:k≠r:=λe=>hs (.inl e)
     obtain⟨L1,A1,A2,E,p2,p3⟩:=FO (r:=r) (by omega:k<n) W (ar (L k) c) (qv (ar (L k) c)) (m-c) c L J hok (λj h1 h2=>h k (qa0 _) J W j h1 h2)
     have O:L1 r=L r:=E r (λe=>W e.symm)
     obtain⟨L2,e,ok2,o1,o2,o3⟩:=yT hc f (k+1) L1 J A2 (λi h1 h2 h3 j h4 A0=>by
      rw[E i J,O];exact h i J h2 h3 j h4 A0)
     refine⟨L2,by rw[kq,if_neg hs,A1];exact e,ok2,by rw[o1,O],λi hi=>by rw[o2 i J,E i J],λi h1 h2 h3=>?_⟩
     by_cases e2:i=k
     · subst e2
       rw[o2 i J]
       exact⟨p2,p3⟩
     · have:=o3 i J h2 h3
       rw[E i e2,O]at this
       exact this
def xi (c:Nat)(L:Rows):∀(f p:Nat),(∀i,p<=i->i<iF c L f p->ar (L i) c=z0)/\(iF c L f p<p+f->¬ar (L (iF c L f p)) c=z0)
 |0,p=>⟨λi h1 h2=>by unfold iF at h2;omega,λh=>by unfold iF at h;omega⟩
 | f +1,p=>by
   unfold iF
   by_cases e:ar (L p) c=z0
   · rw[if_pos e]
     have ih:=xi c L f (p+1)
     refine⟨λi h1 h2=>?_,λh=>ih.2 J⟩
     by_cases e2:i=p
     · rw[e2];exact e
     · exact ih.1 i J h2
   · rw[if_neg e]
     exact⟨λi h1 h2=>by omega,λ_=>e⟩
end steps
end Go.Proofs.YtlmihmlnpjkblaaGreatDoor
