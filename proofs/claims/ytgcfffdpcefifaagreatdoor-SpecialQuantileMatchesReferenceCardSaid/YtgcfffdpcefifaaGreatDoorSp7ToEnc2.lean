/- Part of the proof of a statement about special functions. -/
import Derived.Test.YtgcfffdpcefifaaGreatDoorSp1ToSp6
set_option linter.all false
namespace Go.Proofs.YtgcfffdpcefifaaGreatDoor
variable {up:Bool}{fn:Func}{f:FuncId}{N d a b c n1 d1 n2 d2 x y sg D t:Int}{l m:List UInt8}{args lb:List Value}{pl n sO lo k e b1 b2 g i cp gf:Nat}{A:Option Addr}{P:Program}{w w':World}
section
set_option maxRecDepth 100000
open Go Go.Eng Go.RowKit Tryz
attribute [local irreducible] wpListIn Code.wpIn Oper.wpIn Exit.then Exit.inBlock Exit.noGoto
set_option maxHeartbeats 40000000
def Lp (h:(1:Int)<=((l.length:Nat):Int)):Value.bool (decide (l.take 1=[45]))=.bool (neg l):=by
 cases l with
 |nil=>simp at h
 |cons a t=>congr 1;simp only[neg,List.take_succ_cons,List.take_zero,List.cons.injEq,and_true];cases hh:decide (a=45) <;>simp_all
def Lq (h:¬(1:Int)<=((l.length:Nat):Int)):Value.bool false=.bool (neg l):=by
 cases l with
 |nil=>rfl
 |cons a t=>simp at h;omega
def Jz (h:neg l=true):l.drop 1=body l:=by
 have:=jT h
 rw[this];rfl
def Df (h:neg l=true):1<=l.length:=by rw[jT h];simp
def EV (h:N<0):neg (aa N)=true:=by rw[gO];exact qa1 h
def JB (h:¬N<0):neg (aa N)=false:=by rw[gO];exact qa2 h
def AB (n:Nat):aY n=nS n:=(wy n).symm.trans (by unfold nS;exact iM (u5 n))
def AC (N:Int):body (aa N)=nS N.natAbs:=by rw[dI,AB]
def tC (h:¬N<0):aa N=nS N.natAbs:=by unfold nS;congr 1;omega
def BR (S pl:Nat)(N:Int)(d:Nat):Option (Int×Int):=(Hj S pl N.natAbs d).map λh=>if N<0 then l9 (aM S 1 2) h else zP (dA (aM S 1 2) h)
def AD {S d:Nat}{r:Int×Int}(h:BR S pl N d=some r):∃h,Hj S pl N.natAbs d=some h/\r=if N<0 then l9 (aM S 1 2) h else zP (dA (aM S 1 2) h):=by
 unfold BR at h
 cases hh:Hj S pl N.natAbs d with
 |none=>rw[hh]at h;cases h
 |some x=>rw[hh]at h;cases h;exact⟨x,rfl,rfl⟩
def EX {S d:Nat}{r:N2}(hS:Sc S)(h:Hj S pl n d=some r):Bk 190 r:=by
 obtain⟨_,_,_,_,s,e,c,_,_,_,hs,_,h1,_,rfl⟩:=AA h
 exact rK hS h1 hs
def EY {S d:Nat}(hS:Sc S)(hn:n<10)(hd:0<d):Bk 99 (aM S n d):=by
 have h1:n*S<10^99:=by
  have:=hS.lt
  have E:n*S<=10*S:=Nat.mul_le_mul_right _ U
  omega
 exact⟨Nat.lt_of_le_of_lt (Nat.div_le_self _ _) h1,Nat.lt_of_le_of_lt (iE hd) h1⟩
def kF (l:List UInt8)(w:World):
 CL 93 #[S l,S [45]] w (aH w λv w'=>v=.bool (neg l)):=by
 refine aC func93 Z (I ?_);by_cases cf:((1:Nat):Int)<=(((l).length:Nat):Int);refine I ?_;refine ab (bF (l:=l) U9 Z ?_);refine I ?_;refine ab (eO (l:=[45]) (m:=1) U9 Z Z ?_);refine I ?_;refine ab (eO (l:=[45]) (m:=1) U9 Z Z ?_);refine I ?_;refine ab (eF (l:=l) (i:=0) (j:=1) U9 Z (.inl ⟨rfl,rfl⟩) (.inr ⟨_,qb1 some Z⟩) U U ?_);rw[show((l).take (1)).drop 0=(l).take (1)from rfl];refine I ?_;refine k0 (b:=[45]) (I ?_);exact an (t:=4) (v:=.bool (decide (((l).take (1))=([45])))) Z (aa4 _) (Lp cf) Z;refine I ?_;refine ab (bF (l:=l) U9 Z ?_);refine I ?_;refine ab (eO (l:=[45]) (m:=1) U9 Z Z ?_);refine I ?_;exact an (t:=4) (v:=.bool false) Z (aa4 _) (Lq cf) Z
def AE (h:neg l=true):
 CL 78 #[S l,S [45]] w (aH w λv w'=>v=.tuple #[S (body l),.bool true]):=by
 refine aC func78 Z (I ?_);refine cl Ev (kF l _) ?_;rintro _ _ G rfl;have E:=G.2;refine I ?_;refine ab (eO (l:=[45]) (m:=1) U9 Z Z ?_);refine ab (eF (l:=l) (i:=1) (j:=(l).length) U9 Z (.inr ⟨_,qb1 some Z⟩) (.inl ⟨rfl,rfl⟩) (Df h) (qa0 _) ?_);rw[show((l).take ((l).length)).drop (1)=(l).drop (1)by rw[List.take_length]];refine I ?_;exact aW (t:=4) (u:=5) (v1:=S ((l).drop (1))) (v2:=.bool true) Z E (by rw[Jz h]) Z Z
def wB (h:neg l=true):
 CL 39 #[S l,S [45]] w (aH w λv w'=>v=.tuple #[S (body l),.bool true]):=by
 refine aC func39 Z (I ?_);refine cl yC (AE h) ?_;rintro _ _ G rfl;have E:=G.2;refine I ?_;exact aW (t:=4) (u:=5) (v1:=S (body l)) (v2:=.bool true) Z E Z Z Z
def AF (h:neg l=false):
 CL 78 #[S l,S [45]] w (aH w λv w'=>v=.tuple #[S l,.bool false]):=by
 refine aC func78 Z (I ?_);refine cl Ev (kF l _) ?_;rintro _ _ G rfl;have E:=G.2;refine I ?_;exact aW (t:=4) (u:=5) (v1:=S l) (v2:=.bool false) Z E Z Z Z
def wC (h:neg l=false):
 CL 39 #[S l,S [45]] w (aH w λv w'=>v=.tuple #[S l,.bool false]):=by
 refine aC func39 Z (I ?_);refine cl yC (AF h) ?_;rintro _ _ G rfl;have E:=G.2;refine I ?_;exact aW (t:=4) (u:=5) (v1:=S l) (v2:=.bool false) Z E Z Z Z
def kq {d:Nat}{r:Int×Int}(hS:Sc sO)(hp:pl<81)(hr:BR sO pl N d=some r)(ht:Tb w):
 CL 48 #[.agg #[.int .i64 pl,S (nS sO)],.agg #[S (aa N),S (nS d)]] w (aH w λv w'=>v=.agg #[S (aa r.1),S (aa r.2)]):=by
 obtain⟨h,Ad,rfl⟩:=AD hr;have hb:=EX hS Ad;have ho:=EY (n:=1) (d:=2) hS dc dc;by_cases hN:N<0;rw[if_pos hN];refine aC func48 Z (I ?_);refine bx (λ_ D2 O=>?_);have E:=D2.2;refine bx (λEW Ao W=>?_);have⟨O,E⟩:=bn Ao.2 O E;refine al aI (λ_ E1 kd=>?_);have⟨O,W,E⟩:=aP E1.2 O W E;refine I ?_;refine clb gu (hc:=iR (n:=1) (d:=2) g8 jl hS Jv (bT (k:=1) dc dc) dc Vr (ht.ext E)) (hk:=?_);rintro _ _ Kp rfl;have⟨O,W,kd,E⟩:=br Kp.2 O W kd E;refine al aI (λ_ E9 Av=>?_);have⟨O,W,kd,E⟩:=br E9.2 O W kd E;refine SA Av (λ_ Ax Ab=>?_);have⟨O,W,kd,E,_⟩:=fL Ax O W kd E;refine I ?_;refine cl rc (gT (Y:=.tuple #[S (nS N.natAbs),.bool true]) (wB (EV hN)) (qb1 (λl=>Value.tuple #[S l,.bool true]) (AC _))) ?_;rintro _ _ Jx rfl;have⟨O,W,kd,Ab,E⟩:=dL Jx.2 O W kd Ab E;refine I ?_;refine bB 8 ?_;refine sf ?_;refine ay (V:=.agg #[S (nS h.1),S (nS h.2)]) (λ_ _ B1 _=>?_) ?_;refine cl yE (kE hS hp Ad (ht.ext (xt E B1))) ?_;rintro _ _ Af rfl;have Ap:=Af.2;refine I ?_;exact fs ⟨Ap,rfl⟩;refine sf ?_;intro _ _ M4 _;have⟨O,W,kd,Ab,E⟩:=dL M4.2 O W kd Ab E;refine clb ut (hc:=kW (ho.mono dc) (hb.mono dc) (ht.ext E)) (hk:=?_);rintro _ _ D1 rfl;have⟨O,W,kd,Ab,E⟩:=dL D1.2 O W kd Ab E
 refine SA kd (λ_ Ix Ar=>?_);have⟨O,W,Ab,E,_⟩:=fL Ix O W Ab E;refine I ?_;refine aK (v:=.agg #[S (aa ((l9 (aM sO 1 2) h).1)),S (aa ((l9 (aM sO 1 2) h).2))]) (cn  rfl ?_) E Z;refine ah (t:=4) (cs:=[S (aa ((l9 (aM sO 1 2) h).1)),S (aa ((l9 (aM sO 1 2) h).2))]) (b:=EW.heap.size) (o:=0) dw Z cD ?_ ?_;exact Z;exact aa0 Ar (i:=0) Z;rw[if_neg hN];refine aC func48 Z (I ?_);refine bx (λ_ Ay H=>?_);have G:=Ay.2;refine bx (λAq B2 kk=>?_);have⟨H,G⟩:=bn B2.2 H G;refine al aI (λ_ M0 A1=>?_);have⟨H,kk,G⟩:=aP M0.2 H kk G;refine I ?_;refine clb gu (hc:=iR (n:=1) (d:=2) g8 jl hS Jv (bT (k:=1) dc dc) dc Vr (ht.ext G)) (hk:=?_);rintro _ _ M2 rfl;have⟨H,kk,A1,G⟩:=br M2.2 H kk A1 G;refine al aI (λ_ K2 Am=>?_);have⟨H,kk,A1,G⟩:=br K2.2 H kk A1 G;refine SA Am (λ_ M1 A2=>?_);have⟨H,kk,A1,G,_⟩:=fL M1 H kk A1 G;refine I ?_;refine cl rc (wC (JB hN)) ?_;rintro _ _ Aw rfl;have⟨H,kk,A1,A2,G⟩:=dL Aw.2 H kk A1 A2 G;refine I ?_;refine bB 5 ?_;refine sf ?_;refine ay (V:=.agg #[S (nS h.1),S (nS h.2)]) (λ_ _ L2 _=>?_) ?_;refine clb yE (hc:=show CL 92 #[.agg #[.int .i64 pl,S (nS sO)],.agg #[S (aa N),S (nS d)]] _ _ by rw[tC hN];exact kE hS hp Ad (ht.ext (xt G L2))) (hk:=?_)
 rintro _ _ ny rfl;have M3:=ny.2;refine I ?_;exact fs ⟨M3,rfl⟩;refine sf ?_;intro _ _ od _;have⟨H,kk,A1,A2,G⟩:=dL od.2 H kk A1 A2 G;refine clb uo (hc:=mB (by have:=hb.1;have:=ho.1;unfold Fi;omega) (by have:=hb.2;have:=ho.2;unfold Fi;omega) (ht.ext G)) (hk:=?_);rintro _ _ E7 rfl;have⟨H,kk,A1,A2,G⟩:=dL E7.2 H kk A1 A2 G;refine SA A1 (λ_ As E4=>?_);have⟨H,kk,A2,G,_⟩:=fL As H kk A2 G;refine I ?_;refine aK (v:=.agg #[S (nS ((dA (aM sO 1 2) h).1)),S (nS ((dA (aM sO 1 2) h).2))]) (cn  rfl ?_) G Z;refine ah (t:=4) (cs:=[S (nS ((dA (aM sO 1 2) h).1)),S (nS ((dA (aM sO 1 2) h).2))]) (b:=Aq.heap.size) (o:=0) dw Z cD ?_ ?_;exact Z;exact aa0 E4 (i:=0) Z
def xF (x y:Int):aw x y=-aw y x:=by
 unfold aw;repeat' split
 all_goals first|rfl|omega
def tD (h1:a<b↔c<d)(h2:a=b↔c=d):aw a b=aw c d:=by
 unfold aw
 by_cases h:a<b
 · rw[if_pos h,if_pos (h1.1 h)]
 · rw[if_neg h,if_neg (λe=>h (h1.2 e))]
   by_cases h':a=b
   · rw[if_pos h',if_pos (h2.1 h')]
   · rw[if_neg h',if_neg (λe=>h' (h2.2 e))]
def AG (h:a-b=c-d):aw a b=aw c d:=tD U U
def tE (h1:0<d1)(h2:0<d2)(h:n1/d1<n2/d2):n1*d2<n2*d1:=by
 have G:=Int.lt_ediv_add_one_mul_self n1 h1
 have E:=Int.ediv_mul_le n2 (show d2≠0 by omega)
 have e3:(n1/d1+1)*d1<=(n2/d2)*d1:=Int.mul_le_mul_of_nonneg_right U U
 have kk:n1*d2<(n2/d2)*d1*d2:=Int.mul_lt_mul_of_pos_right U h2
 have H:(n2/d2)*d2*d1<=n2*d1:=Int.mul_le_mul_of_nonneg_right E U
 have O:(n2/d2)*d1*d2=(n2/d2)*d2*d1:=by rw[Int.mul_assoc,Int.mul_comm d1 d2,<-Int.mul_assoc]
 omega
def JC (h1:0<d1)(h2:0<d2)(h:¬aw (n1/d1) (n2/d2)=0):aw (n1/d1) (n2/d2)=aw (n1*d2) (n2*d1):=by
 have E:n1/d1≠n2/d2:=λe=>h (dW e)
 rcases Int.lt_or_gt_of_ne E with hl|hl
 · rw[bZ hl,bZ (tE h1 h2 hl)]
 · rw[bM hl,bM (tE h2 h1 hl)]
def xG (h:aw x y=0):x=y:=by
 unfold aw at h
 split at h
 · omega
 · split at h
   · assumption
   · omega
def wD (h:aw (n1/d1) (n2/d2)=0):aw (n1*d2) (n2*d1)=aw (n1%d1*d2) (n2%d2*d1):=by
 have e:=xG h
 refine AG ?_
 have E:=Int.mul_ediv_add_emod n1 d1
 have G:=Int.mul_ediv_add_emod n2 d2
 generalize n1/d1=p at *;generalize n2/d2=q at *;generalize n1%d1=r at *;generalize n2%d2=s at *
 subst e;subst E;subst G
 rw[Int.add_mul,Int.add_mul,show d1*p*d2=d2*p*d1 by rw[Int.mul_comm d1 p,Int.mul_comm d2 p,Int.mul_assoc,Int.mul_comm d1 d2,<-Int.mul_assoc]]
 omega
def Dh (h:sg=1\/sg=-1):In64 (sg*aw x y):=by
 have h1:aw x y<=1/\-1<=aw x y:=by unfold aw;split;omega;split <;>omega
 unfold In64;rcases h with rfl|rfl <;>omega
section
variable {N1 D1 N2 D2:Int}(hi:aw (N1*D2) (N2*D1)=sg*aw (n1*d2) (n2*d1))(h1:0<d1)(h2:0<d2)
include hi h1 h2
theorem JD (h:¬aw (n1/d1) (n2/d2)=0):sg*aw (n1/d1) (n2/d2)=aw (N1*D2) (N2*D1):=by rw[hi,JC h1 h2 h]
theorem JE (h:aw (n1/d1) (n2/d2)=0)(hr:aa (n1%d1)=[48])(hs:aa (n2%d2)=[48]):0=aw (N1*D2) (N2*D1):=by
 rw[hi,wD h,bS.1 hr,bS.1 hs];simp[aw]
theorem JF (h:aw (n1/d1) (n2/d2)=0)(hr:aa (n1%d1)=[48])(hs:¬aa (n2%d2)=[48]):-sg=aw (N1*D2) (N2*D1):=by
 have E:n2%d2≠0:=λe=>hs (bS.2 e)
 have G:=Int.emod_nonneg n2 (show d2≠0 by omega)
 rw[hi,wD h,bS.1 hr,bZ (by rw[Int.zero_mul];exact Int.mul_pos U h1)];omega
theorem JG (h:aw (n1/d1) (n2/d2)=0)(hr:¬aa (n1%d1)=[48])(hs:aa (n2%d2)=[48]):sg=aw (N1*D2) (N2*D1):=by
 have E:n1%d1≠0:=λe=>hr (bS.2 e)
 have G:=Int.emod_nonneg n1 (show d1≠0 by omega)
 rw[hi,wD h,bS.1 hs,bM (by rw[Int.zero_mul];exact Int.mul_pos U h2)];omega
theorem AH (h:aw (n1/d1) (n2/d2)=0)(hr:¬aa (n1%d1)=[48])(hs:¬aa (n2%d2)=[48]):
 aw (N1*D2) (N2*D1)=-sg*aw (d1*(n2%d2)) (d2*(n1%d1))/\0<n1%d1/\0<n2%d2:=by
 have H:n1%d1≠0:=λe=>hr (bS.2 e)
 have O:=Int.emod_nonneg n1 (show d1≠0 by omega)
 have G:n2%d2≠0:=λe=>hs (bS.2 e)
 have E:=Int.emod_nonneg n2 (show d2≠0 by omega)
 refine⟨?_,by omega,by omega⟩
 rw[hi,wD h,xF (d1*_),Int.mul_comm d1,Int.mul_comm d2,Int.neg_mul_neg]
end
def AI {n:Int}(h:Fz d)(hd:0<d):Fz (n%d):=by
 have h1:=Int.emod_nonneg n (show d≠0 by omega)
 have h2:=Int.emod_lt_of_pos n hd
 unfold Fz at *;omega
set_option maxRecDepth 100000 in
theorem tF {N1 D1 N2 D2:Int}(o1:ew (aa N1,aa D1)=true)(o2:ew (aa N2,aa D2)=true)(fN1:Fz N1)(fD1:Fz D1)(fN2:Fz N2)(fD2:Fz D2)(ht:Tb w):
 CL 46 #[.agg #[S (aa N1),S (aa D1)],.agg #[S (aa N2),S (aa D2)]] w (aH w λv w'=>v=.int .i64 (aw (N1*D2) (N2*D1))):=by
 have P1:0<D1:=by have:=jj o1;rwa [aG]at this
 have P2:0<D2:=by have:=jj o2;rwa [aG]at this
 refine aC func46 rfl ?_;refine I ?_;refine bx (λAq Ou ny=>?_);have Ax:=Ou.2;refine bx (λ_ O8 B2=>?_);have⟨ny,Ax⟩:=bn O8.2 ny Ax;refine I ?_;refine cl pH (dN (aa N1) (aa D1) _ (ht.ext Ax)) ?_;rintro _ _ O7 rfl;have⟨ny,B2,Ax⟩:=aP O7.2 ny B2 Ax;refine I ?_;refine cl pH (dN (aa N2) (aa D2) _ (ht.ext Ax)) ?_;rintro _ _ Ow rfl;have⟨ny,B2,Ax⟩:=aP Ow.2 ny B2 Ax;refine I ?_;refine wpIn_label (mf ?_);refine Jd [(4,12),(21,73)] (λPN e W=>∃n1:Int,∃d1:Int,∃n2:Int,∃d2:Int,∃sg:Int,(d1.toNat=PN)/\(e 5=.int .i64 sg)/\(0<d1)/\(0<d2)/\(Fz n1)/\(Fz d1)/\(Fz n2)/\(Fz d2)/\(sg=1\/sg=-1)/\(aw (N1*D2) (N2*D1)=sg*aw (n1*d2) (n2*d1))/\(a8 w W)/\(ae W (w.heap.size) 23 #[S (aa n1),S (aa d1)])/\(ae W (Aq.heap.size) 23 #[S (aa n2),S (aa d2)])) ((D1).toNat) ⟨N1,D1,N2,D2,1,rfl,rfl,P1,P2,fN1,fD1,fN2,fD2,(Or.inl rfl),(Int.one_mul _).symm,Ax,ny,B2⟩ ?_;rintro _ _ _ ⟨n1,d1,n2,d2,sg,rfl,Q1,As,p2,M3,MF,M1,MA,PM,hi,E,hB1,hB2⟩;have Q0:=bz E;refine I ?_;refine cl xe (gT (Y:=.tuple #[S (aa (n1/d1)),S (aa (n1%d1)),.int .i64 0]) (kf _ _ _ (ht.ext E)) (qb1 lF (jV M3 MF (Int.ne_of_gt As) (eU M3 As)))) ?_;rintro _ _ OI rfl;have⟨hB1,hB2,E⟩:=aP OI.2 hB1 hB2 E;refine I ?_
 refine cl xe (gT (Y:=.tuple #[S (aa (n2/d2)),S (aa (n2%d2)),.int .i64 0]) (kf _ _ _ (ht.ext E)) (qb1 lF (jV M1 MA (Int.ne_of_gt p2) (eU M1 p2)))) ?_;rintro _ _ OC rfl;have⟨hB1,hB2,E⟩:=aP OC.2 hB1 hB2 E;refine I ?_;refine cl i8 (gT (Y:=.int .i64 (aw (n1/d1) (n2/d2))) (lH _ _ _) (qb1 (Value.int .i64) (pp (eU M3 As) (eU M1 p2)))) ?_;rintro _ NB Ox rfl;have⟨hB1,hB2,E⟩:=aP Ox.2 hB1 hB2 E;refine I ?_;by_cases ns:(aw (n1/d1) (n2/d2))=0;refine I ?_;by_cases np:(aa (n1%d1))=([48]);refine I ?_;refine k0 (b:=[48]) ?_;refine I ?_;refine k0 (b:=[48]) ?_;refine I ?_;by_cases wr:(aa (n2%d2))=([48]);refine I ?_;exact an (t:=4) (v:=.int .i64 0) rfl E (qb1 (Value.int .i64) (JE hi As p2 ns np wr)) rfl;refine I ?_;refine k0 (b:=[48]) ?_;refine I ?_;refine ab (sr (a:=sg) rfl (by unfold In64;omega) ?_);refine I ?_;exact an (t:=4) (v:=.int .i64 (-sg)) rfl E (qb1 (Value.int .i64) (JF hi As p2 ns np wr)) rfl;refine I ?_;refine k0 (b:=[48]) ?_;refine I ?_;refine k0 (b:=[48]) ?_;refine I ?_;refine k0 (b:=[48]) ?_;refine I ?_;by_cases p6:(aa (n2%d2))=([48]);refine I ?_;exact an (t:=4) (v:=.int .i64 sg) rfl E (qb1 (Value.int .i64) (JG hi As p2 ns np p6)) rfl;refine I ?_;have Jx:=ab1 NB
 refine kA mj 12 (λe0 ls e W=>(∀t,pY [64,65,66,67,68,69,70,71,72,73] t=false->e t=e0 t)/\(a8 w W)/\(NB.heap.size<=W.heap.size)/\(ls 0=true->e 64=.pointer (some ⟨w.heap.size,1,none⟩))/\(ls 1=true->e 65=S (aa d1))/\(ls 2=true->e 66=S (aa (n1%d1)))/\(ls 3=true->e 67=.agg #[S (aa d1),S (aa (n1%d1))])/\(ls 4=true->e 68=.pointer (some ⟨Aq.heap.size,1,none⟩))/\(ls 5=true->e 69=S (aa d2))/\(ls 6=true->e 70=S (aa (n2%d2)))/\(ls 7=true->e 71=.agg #[S (aa d2),S (aa (n2%d2))])/\(ls 8=true->e 72=.int .i64 sg)/\(ls 9=true->e 73=.int .i64 (-sg))/\(ls 10=false->ae W (w.heap.size) 23 #[S (aa n1),S (aa d1)])/\(ls 10=true->ae W (w.heap.size) 23 #[S (aa d1),S (aa (n1%d1))])/\(ls 11=false->ae W (Aq.heap.size) 23 #[S (aa n2),S (aa d2)])/\(ls 11=true->ae W (Aq.heap.size) 23 #[S (aa d2),S (aa (n2%d2))])) ⟨(λ_ _=>rfl),(xt E Jx),(bz Jx),(ff rfl),(ff rfl),(ff rfl),(ff rfl),(ff rfl),(ff rfl),(ff rfl),(ff rfl),(ff rfl),(ff rfl),(λ_=>(be Jx hB1)),(λh=>ff rfl h),(λ_=>(be Jx hB2)),(λh=>ff rfl h)⟩ (by kernel_rfl) (by kernel_rfl) ?_ ?_;refine⟨λNy NM E9 PD E1 ME _=>?_,?_⟩;obtain⟨Ne,E,Av,kd,kk,Ab,A2,O,Af,Am,A1,G,Ad,Ao,Ap,H,Ar⟩:=PD;obtain⟨Ny,rfl⟩:=cz Ne;have PQ:E9 1=false:=(bK E1 (i:=0) (j:=1) rfl ME)
 have MV:E9 10=false:=(bK E1 (i:=0) (j:=10) rfl ME);have NG:E9 11=false:=(bK E1 (i:=0) (j:=11) rfl ME);have at3:E9 3=false:=(bK E1 (i:=1) (j:=3) rfl PQ);have at4:=bz E;have NI:ae NM (w.heap.size) 23 #[S (aa n1),S (aa d1)]:=Ao MV;have QH:=bt NI;have NA:ae NM (Aq.heap.size) 23 #[S (aa n2),S (aa d2)]:=H NG;have QM:=bt NA;refine I ?_;exact⟨rfl,_,(ai _ _ _ _ _).symm,(ap rfl Ne),E,U,(λ_=>rfl),kk,Ab,A2,O,Af,Am,A1,G,Ad,(λ_=>NI),(λPO=>ff MV PO),(λ_=>NA),(λO5=>ff NG O5)⟩;refine⟨λNS MN E4 On M8 MG Oc=>?_,?_⟩;obtain⟨NL,E,Av,kd,kk,Ab,A2,O,Af,Am,A1,G,Ad,Ao,Ap,H,Ar⟩:=On;obtain⟨NS,rfl⟩:=cz NL;have OZ:E4 0=true:=(Oc 0 rfl);have QD:E4 3=false:=(bK M8 (i:=1) (j:=3) rfl MG);have NH:E4 10=false:=(bK M8 (i:=1) (j:=10) rfl MG);have Np:E4 11=false:=(bK M8 (i:=1) (j:=11) rfl MG);have QJ:NS 64=.pointer (some ⟨w.heap.size,1,none⟩):=kd OZ;have Pv:=bz E;have Mz:ae MN (w.heap.size) 23 #[S (aa n1),S (aa d1)]:=Ao NH;have QO:=bt Mz;have NX:ae MN (Aq.heap.size) 23 #[S (aa n2),S (aa d2)]:=H Np;have Pt:=bt NX;refine I ?_
 exact⟨rfl,_,(ai _ _ _ _ _).symm,(ap rfl NL),E,U,kd,(λ_=>rfl),Ab,A2,O,Af,Am,A1,G,Ad,(λ_=>Mz),(λOM=>ff NH OM),(λ_=>NX),(λOL=>ff Np OL)⟩;refine⟨λOq MY M6 Og Kp MD _=>?_,?_⟩;obtain⟨N7,E,Av,kd,kk,Ab,A2,O,Af,Am,A1,G,Ad,Ao,Ap,H,Ar⟩:=Og;obtain⟨Oq,rfl⟩:=cz N7;have Q5:M6 3=false:=(bK Kp (i:=2) (j:=3) rfl MD);have NP:M6 10=false:=(bK Kp (i:=2) (j:=10) rfl MD);have N9:M6 11=false:=(bK Kp (i:=2) (j:=11) rfl MD);have Pu:=bz E;have NO:ae MY (w.heap.size) 23 #[S (aa n1),S (aa d1)]:=Ao NP;have Pf:=bt NO;have MX:ae MY (Aq.heap.size) 23 #[S (aa n2),S (aa d2)]:=H N9;have QP:=bt MX;refine I ?_;exact⟨rfl,_,(ai _ _ _ _ _).symm,(ap rfl N7),E,U,kd,kk,(λ_=>rfl),A2,O,Af,Am,A1,G,Ad,(λ_=>NO),(λOR=>ff NP OR),(λ_=>MX),(λOF=>ff N9 OF)⟩;refine⟨λM2 N8 Ay OB M4 Na Nn=>?_,?_⟩;obtain⟨ML,E,Av,kd,kk,Ab,A2,O,Af,Am,A1,G,Ad,Ao,Ap,H,Ar⟩:=OB;obtain⟨M2,rfl⟩:=cz ML;have Nx:Ay 2=true:=(Nn 2 rfl);have Nj:Ay 1=true:=(Nn 1 rfl);have Pk:Ay 0=true:=(M4 1 0 rfl Nj);have Nh:Ay 10=false:=(bK M4 (i:=3) (j:=10) rfl Na);have N4:Ay 11=false:=(bK M4 (i:=3) (j:=11) rfl Na);have OU:M2 65=S (aa d1):=kk Nj
 have Nw:M2 66=S (aa (n1%d1)):=Ab Nx;have Ps:=bz E;have MI:ae N8 (w.heap.size) 23 #[S (aa n1),S (aa d1)]:=Ao Nh;have QK:=bt MI;have MJ:ae N8 (Aq.heap.size) 23 #[S (aa n2),S (aa d2)]:=H N4;have QC:=bt MJ;refine ab (aS (vs:=[(0,S (aa d1)),(1,S (aa (n1%d1)))]) (cells:=#[S (aa d1),S (aa (n1%d1))]) (pl:=[(0,1),(1,1)]) j8 bi (by kernel_rfl) (db OU (db Nw rfl)) (by kernel_rfl) ?_);refine I ?_;exact⟨rfl,_,(ai _ _ _ _ _).symm,(ap rfl ML),E,U,kd,kk,Ab,(λ_=>rfl),O,Af,Am,A1,G,Ad,(λ_=>MI),(λOY=>ff Nh OY),(λ_=>MJ),(λPF=>ff N4 PF)⟩;refine⟨λNt O9 M5 Nz MB NK _=>?_,?_⟩;obtain⟨NE,E,Av,kd,kk,Ab,A2,O,Af,Am,A1,G,Ad,Ao,Ap,H,Ar⟩:=Nz;obtain⟨Nt,rfl⟩:=cz NE;have O6:M5 5=false:=(bK MB (i:=4) (j:=5) rfl NK);have Ng:M5 11=false:=(bK MB (i:=4) (j:=11) rfl NK);have Q2:M5 7=false:=(bK MB (i:=5) (j:=7) rfl O6);have Pd:=bz E;have Nr:ae O9 (Aq.heap.size) 23 #[S (aa n2),S (aa d2)]:=H Ng;have Pp:=bt Nr;refine I ?_;exact⟨rfl,_,(ai _ _ _ _ _).symm,(ap rfl NE),E,U,kd,kk,Ab,A2,(λ_=>rfl),Af,Am,A1,G,Ad,(λarr=>Ao arr),(λPT=>Ap PT),(λ_=>Nr),(λP0=>ff Ng P0)⟩;refine⟨λNi OO M9 OW NC NR PH=>?_,?_⟩
 obtain⟨Nl,E,Av,kd,kk,Ab,A2,O,Af,Am,A1,G,Ad,Ao,Ap,H,Ar⟩:=OW;obtain⟨Ni,rfl⟩:=cz Nl;have OX:M9 4=true:=(PH 4 rfl);have Pn:M9 7=false:=(bK NC (i:=5) (j:=7) rfl NR);have NZ:M9 11=false:=(bK NC (i:=5) (j:=11) rfl NR);have Pw:Ni 68=.pointer (some ⟨Aq.heap.size,1,none⟩):=O OX;have Pj:=bz E;have MK:ae OO (Aq.heap.size) 23 #[S (aa n2),S (aa d2)]:=H NZ;have PY:=bt MK;refine I ?_;exact⟨rfl,_,(ai _ _ _ _ _).symm,(ap rfl Nl),E,U,kd,kk,Ab,A2,O,(λ_=>rfl),Am,A1,G,Ad,(λON=>Ao ON),(λOA=>Ap OA),(λ_=>MK),(λOf=>ff NZ Of)⟩;refine⟨λP5 PK MW PG MR My _=>?_,?_⟩;obtain⟨NJ,E,Av,kd,kk,Ab,A2,O,Af,Am,A1,G,Ad,Ao,Ap,H,Ar⟩:=PG;obtain⟨P5,rfl⟩:=cz NJ;have Q8:MW 7=false:=(bK MR (i:=6) (j:=7) rfl My);have Nk:MW 11=false:=(bK MR (i:=6) (j:=11) rfl My);have Pb:=bz E;have N0:ae PK (Aq.heap.size) 23 #[S (aa n2),S (aa d2)]:=H Nk;have PV:=bt N0;refine I ?_;exact⟨rfl,_,(ai _ _ _ _ _).symm,(ap rfl NJ),E,U,kd,kk,Ab,A2,O,Af,(λ_=>rfl),A1,G,Ad,(λOb=>Ao Ob),(λPS=>Ap PS),(λ_=>N0),(λPR=>ff Nk PR)⟩;refine⟨λMC P8 K2 OD MS O1 MQ=>?_,?_⟩;obtain⟨NQ,E,Av,kd,kk,Ab,A2,O,Af,Am,A1,G,Ad,Ao,Ap,H,Ar⟩:=OD;obtain⟨MC,rfl⟩:=cz NQ
 have O3:K2 6=true:=(MQ 6 rfl);have Nc:K2 5=true:=(MQ 5 rfl);have PZ:K2 4=true:=(MS 5 4 rfl Nc);have Nm:K2 11=false:=(bK MS (i:=7) (j:=11) rfl O1);have OT:MC 69=S (aa d2):=Af Nc;have OJ:MC 70=S (aa (n2%d2)):=Am O3;have PW:=bz E;have ND:ae P8 (Aq.heap.size) 23 #[S (aa n2),S (aa d2)]:=H Nm;have Pi:=bt ND;refine ab (aS (vs:=[(0,S (aa d2)),(1,S (aa (n2%d2)))]) (cells:=#[S (aa d2),S (aa (n2%d2))]) (pl:=[(0,1),(1,1)]) j8 bi (by kernel_rfl) (db OT (db OJ rfl)) (by kernel_rfl) ?_);refine I ?_;exact⟨rfl,_,(ai _ _ _ _ _).symm,(ap rfl NQ),E,U,kd,kk,Ab,A2,O,Af,Am,(λ_=>rfl),G,Ad,(λO0=>Ao O0),(λNu=>Ap Nu),(λ_=>ND),(λOH=>ff Nm OH)⟩;refine⟨λPI _ Ov ask PL P7 _=>?_,?_⟩;obtain⟨NV,E,Av,kd,kk,Ab,A2,O,Af,Am,A1,G,Ad,Ao,Ap,H,Ar⟩:=ask;obtain⟨PI,rfl⟩:=cz NV;have Pz:Ov 9=false:=(bK PL (i:=8) (j:=9) rfl P7);have Pm:=bz E;refine I ?_;exact⟨rfl,_,(ai _ _ _ _ _).symm,(ap rfl NV),E,U,kd,kk,Ab,A2,O,Af,Am,A1,(λ_=>rfl),Ad,(λOl=>Ao Ol),(λOm=>Ap Om),(λPP=>H PP),(λNv=>Ar Nv)⟩;refine⟨λN3 _ OQ Oo _ _ OP=>?_,?_⟩;obtain⟨NN,E,Av,kd,kk,Ab,A2,O,Af,Am,A1,G,Ad,Ao,Ap,H,Ar⟩:=Oo;obtain⟨N3,rfl⟩:=cz NN
 have Oe:OQ 8=true:=(OP 8 rfl);have O4:N3 72=.int .i64 (sg):=G Oe;have Pe:=bz E;refine ab (sr (a:=sg) O4 (by unfold In64;omega) ?_);refine I ?_;exact⟨rfl,_,(ai _ _ _ _ _).symm,(ap rfl NN),E,U,kd,kk,Ab,A2,O,Af,Am,A1,G,(λ_=>rfl),(λOi=>Ao Oi),(λO2=>Ap O2),(λOz=>H Oz),(λOy=>Ar Oy)⟩;refine⟨λMP NW B1 Ns E7 NY P6=>?_,?_⟩;obtain⟨No,E,Av,kd,kk,Ab,A2,O,Af,Am,A1,G,Ad,Ao,Ap,H,Ar⟩:=Ns;obtain⟨MP,rfl⟩:=cz No;have L2:B1 3=true:=(P6 3 rfl);have QE:B1 2=true:=(E7 3 2 rfl L2);have Oh:B1 1=true:=(E7 3 1 rfl L2);have Px:B1 0=true:=(E7 1 0 rfl Oh);have Nq:B1 11=false:=(bK E7 (i:=10) (j:=11) rfl NY);have QF:MP 67=.agg #[S (aa d1),S (aa (n1%d1))]:=A2 L2;have QN:=bz E;have NT:ae NW (w.heap.size) 23 #[S (aa n1),S (aa d1)]:=Ao NY;have QI:=bt NT;have Ix:ae NW (Aq.heap.size) 23 #[S (aa n2),S (aa d2)]:=H Nq;have Pr:=bt Ix;refine SA NT (λ_ OK Oj=>?_);have⟨Ix,E,_⟩:=dE OK Ix E;refine I ?_;exact⟨rfl,undef,rfl,No,E,U,kd,kk,Ab,A2,O,Af,Am,A1,G,Ad,(λPE=>tf rfl PE),(λ_=>Oj),(λ_=>Ix),(λPU=>ff Nq PU)⟩;refine⟨λNU Nf Aw OS od P9 NF=>?_,?_⟩;obtain⟨MU,E,Av,kd,kk,Ab,A2,O,Af,Am,A1,G,Ad,Ao,Ap,H,Ar⟩:=OS;obtain⟨NU,rfl⟩:=cz MU
 have MH:Aw 10=true:=(NF 10 rfl);have Nb:Aw 3=true:=(od 10 3 rfl MH);have Q4:Aw 2=true:=(od 3 2 rfl Nb);have OV:Aw 1=true:=(od 3 1 rfl Nb);have PX:Aw 0=true:=(od 1 0 rfl OV);have M7:Aw 7=true:=(NF 7 rfl);have Pq:Aw 6=true:=(od 7 6 rfl M7);have OG:Aw 5=true:=(od 7 5 rfl M7);have Pg:Aw 4=true:=(od 5 4 rfl OG);have Py:NU 71=.agg #[S (aa d2),S (aa (n2%d2))]:=A1 M7;have QA:=bz E;have EW:ae Nf (w.heap.size) 23 #[S (aa d1),S (aa (n1%d1))]:=Ap MH;have Q3:=bt EW;have MO:ae Nf (Aq.heap.size) 23 #[S (aa n2),S (aa d2)]:=H P9;have Po:=bt MO;refine SA MO (λ_ Oa Ot=>?_);have⟨EW,E,_⟩:=dE Oa EW E;refine I ?_;exact⟨rfl,undef,rfl,MU,E,U,kd,kk,Ab,A2,O,Af,Am,A1,G,Ad,(λP3=>tf MH P3),(λ_=>EW),(λPC=>tf rfl PC),(λ_=>Ot)⟩;exact trivial;intro MZ N5 _ M0 OE;obtain⟨Od,E,Av,kd,kk,Ab,A2,O,Af,Am,A1,G,Ad,Ao,Ap,H,Ar⟩:=OE;obtain⟨MZ,rfl⟩:=cz Od;have Q7:=bz E;have N6:ae N5 (w.heap.size) 23 #[S (aa d1),S (aa (n1%d1))]:=Ap (M0 10 rfl);have Q6:=bt N6;have MM:ae N5 (Aq.heap.size) 23 #[S (aa d2),S (aa (n2%d2))]:=Ar (M0 11 rfl);have QG:=bt MM;have QB:MZ 73=.int .i64 (-sg):=(Ad (M0 9 rfl));refine I ?_
 exact bQ (hk:=by have:=Int.emod_lt_of_pos n1 As;have:=Int.emod_nonneg n1 (Int.ne_of_gt As);omega) ⟨d1,n1%d1,d2,n2%d2,-sg,rfl,rfl,(AH hi As p2 ns np p6).2.1,(AH hi As p2 ns np p6).2.2,MF,(AI MF As),MA,(AI MA p2),U,(AH hi As p2 ns np p6).1,E,N6,MM⟩;refine I ?_;refine ab (jp (a:=sg) (b:=aw (n1/d1) (n2/d2)) (c:=sg*aw (n1/d1) (n2/d2)) rfl rfl (Dh PM) rfl ?_);refine I ?_;exact an (t:=4) (v:=.int .i64 (sg*aw (n1/d1) (n2/d2))) rfl E (qb1 (Value.int .i64) (JD hi As p2 ns)) rfl
def AJ (n:Int):Lib.itoa n=aa n:=by
 unfold Lib.itoa aa
 split
 · rw[gy]
 · rw[gy];congr 1;omega
def qR (a b:Int):R:=(aa (cE a b),aa (bI a b))
def nP (hb:b≠0):jq a b=some (qR a b):=by unfold jq;rw[if_neg hb];rfl
section
variable {b:Nat}
def Di (hB:ae w b 87 #[.bool false])(ht:Tb w)(hl:l=aa x)(hm:m=aa y)(fx:Fz x)(fy:Fz y)(fz:Fz (x*y)):
 CL 145 #[pT b,S l,S m] w (jv λv w'=>w.grownBy w' (some b)/\ae w' b 87 #[.bool false]/\v=S (aa (x*y))):=by
 have h:=mu hB ht l m
 subst hl hm
 rw[uZ fx fy fz]at h
 exact h
def Dj (hB:ae w b 87 #[.bool false])(ht:Tb w)(hl:l=aa x)(hm:m=aa y)(fx:Fz x)(fy:Fz y)(fz:Fz (x+y)):
 CL 117 #[pT b,.func (.func 63) #[] #[],S l,S m] w (jv λv w'=>w.grownBy w' (some b)/\ae w' b 87 #[.bool false]/\v=S (aa (x+y))):=by
 have h:=mV (o:=pJ l m) hB ht yn (λW hW=>rC _ _ W hW)
 subst hl hm
 rw[uY fx fy fz]at h
 exact h
def nQ (hB:ae w b 87 #[.bool false])(ht:Tb w)(hl:l=aa x)(hm:m=aa y)(fx:Fz x)(fy:Fz y)(h0:y≠0):
 CL 65 #[pT b,S l,S m] w (jv λv w'=>w.grownBy w' (some b)/\(∃q,ae w' b 87 #[.bool q])/\v=.tuple #[.agg #[S (qR x y).1,S (qR x y).2],.int .i64 0]):=by
 have h:=uN hB ht l m
 subst hl hm
 rw[qw fx.int fy.int,aG,aG,nP h0]at h
 exact h
def Hl (hB:ae w b 87 #[.bool false])(ht:Tb w){x y:List UInt8}{c:Nat}(hr:Rw w lo A [S x,S y])(hn:1=n)(hAb:∀ad,A=some ad->ad.block≠b)(ho:ew (x,y)=true):
 CL 144 #[pT b,.slice A n c] w (jv λv w'=>w.grownBy w' (some b)/\ae w' b 87 #[.bool false]/\v=.tuple #[]):=by
 have h:=o9 (rs:=[(x,y)]) (c:=c) hB ht hr hn U hAb
 rw[show cC false [(x,y)]=false by simp[cC,ho]]at h
 exact h
end
def pw (N D t:Int)(up:Bool):Int:=if up=true/\¬aa (N*t%D)=[48]then N*t/D+1 else N*t/D
def Qv (a b:Int):Value:=.tuple #[.agg #[S (qR a b).1,S (qR a b).2],.int .i64 0]
def Lr (h:up=true)(h0:¬aa (N*t%D)=[48]):Qv (N*t/D+1) t=Qv (pw N D t up) t:=by unfold pw;rw[if_pos ⟨h,h0⟩]
def Ls (h0:aa (N*t%D)=[48]):Qv (N*t/D) t=Qv (pw N D t up) t:=by unfold pw;rw[if_neg (λe=>e.2 h0)]
def Lt (h:up=false):Qv (N*t/D) t=Qv (pw N D t up) t:=by unfold pw;rw[if_neg (λe=>by rw[h]at e;exact absurd e.1 dc)]
def AK (h:N.natAbs<10^199)(hd:0<D):Fz (N/D+1):=by
 have h1:Fz (N/D):=eU z1 hd
 have h2:(N/D).natAbs<10^199:=by
  rcases Int.le_total 0 N with h0|h0
  · have h1:=Int.ediv_nonneg h0 (Int.le_of_lt hd)
    have h2:=Int.ediv_le_self (b:=D) h0
    omega
  · have h1:N/D<=0:=Int.ediv_nonpos_of_nonpos_of_neg h0 hd
    have h2:N<=N/D:=by
     refine Int.le_ediv_of_mul_le hd ?_
     have E:0<=(-N)*(D-1):=Int.mul_nonneg U U
     rw[Int.neg_mul,Int.mul_sub,Int.mul_one]at E
     omega
    omega
 unfold Fz;omega
def cH (hl:l=aa a)(hm:m=aa b)(fa:Fz a)(fb:Fz b)(h0:b≠0)(ht:Tb w):
 CL 25 #[S l,S m] w (aH w λv w'=>v=.tuple #[.agg #[S (qR a b).1,S (qR a b).2],.int .i64 0]):=by
 subst hl hm;have Ap:(!isInt (aa b))=false:=by rw[fb.int];rfl
 refine aC func25 Z (I ?_);refine al bi (λ_ A1 G=>?_);have ht:=aa6 A1.2 ht;have E:=A1.2;refine I ?_;refine cl ow (fR (aa a) _) ?_;rintro _ _ kd rfl;have ht:=aa6 kd.2 ht;have⟨G,E⟩:=bn kd.2 G E;refine I ?_;refine og (s:=10) Z (qb1 Value.bool (qb1 Bool.not fa.int)) (I ?_);refine og (s:=10) Z (qb1 Value.bool (qb1 Bool.not fa.int)) ?_;refine cl ow (fR (aa b) _) ?_;rintro _ kk O rfl;have ht:=aa6 O.2 ht;have⟨G,E⟩:=bn O.2 G E;refine og (s:=10) Z (qb1 Value.bool (qb1 Bool.not fa.int)) (I ?_);refine ab (nY (t:=false) (v:=.bool (!(isInt (aa b)))) (qb1 Value.bool (qb1 Bool.not fa.int)) Z ?_);refine ab (aS (vs:=[(0,.bool (!(isInt (aa b))))]) (cells:=#[.bool (!(isInt (aa b)))]) (pl:=[(0,1)]) It um q0 Z q0 ?_);refine bx (λAb W Aq=>?_);have ht:=aa6 W.2 ht;have⟨G,E⟩:=bn W.2 G E;refine I ?_;have Ao:ae Ab kk.heap.size 87 #[.bool false]:=by have h:=Aq;rw[Ap]at h;exact h
 refine I ?_;refine ab (bG (vs:=[pT kk.heap.size,S (aa a),S (aa b)]) qa Z (nQ Ao ht Z Z fa fb h0) ?_);rintro _ _ ⟨H,⟨Ar,A2⟩,rfl⟩;have G:=aa2 H Va G;have E:=cK E H (bz E) (λg Am=>by cases Am;omega);have As:=H.size;refine I ?_;refine SA G (λ_ Af Ad=>?_);have⟨A2,E,_⟩:=dE Af A2 E;refine I ?_;refine aK (v:=.tuple #[.agg #[S (qR a b).1,S (qR a b).2],.int .i64 0]) (cJ (r1:=.cell 4 23) (r2:=.tmp 5) Z ?_ ?_) E Z;refine ah (t:=4) (cs:=[S (qR a b).1,S (qR a b).2]) (b:=w.heap.size) (o:=0) j8 Z dv ?_ ?_;exact Z;exact aa0 Ad (i:=0) Z;exact aE (t:=5) Ve _
def tG {n:Int}(hn:In64 n)(ht:Tb w):
 CL 54 #[.int .i64 n] w (aH w λv w'=>v=S (aa n)):=by
 have h1:-9223372036854775808<=n:=by unfold In64 at hn;omega
 have h2:n<=9223372036854775807:=by unfold In64 at hn;omega
 refine aC func54 Z (I ?_);refine cl yl (gT (Y:=S (aa n)) (rr _ _ h1 h2 (ht.ext (aa4 _))) (qb1 S (AJ n))) ?_;rintro _ _ G rfl;have E:=G.2;refine I ?_;exact an (t:=2) (v:=S (aa n)) Z E Z Z
def JH {n:Int}(h:In64 n):Fz n:=by unfold In64 at h;unfold Fz;omega
def Dk (ha:In64 a)(hb:In64 b)(h0:b≠0)(ht:Tb w):
 CL 15 #[.int .i64 a,.int .i64 b] w (aH w λv w'=>v=.tuple #[.agg #[S (qR a b).1,S (qR a b).2],.int .i64 0]):=by
 refine aC func15 Z (I ?_);refine al bi (λ_ O G=>?_);have E:=O.2;refine I ?_;refine cl oA (tG ha (ht.ext E)) ?_;rintro _ _ kk rfl;have⟨G,E⟩:=bn kk.2 G E;refine I ?_;refine cl oA (tG hb (ht.ext E)) ?_;rintro _ _ kd rfl;have⟨G,E⟩:=bn kd.2 G E;refine cl eP (cH Z Z (JH ha) (JH hb) h0 (ht.ext E)) ?_;rintro _ _ W rfl;have⟨G,E⟩:=bn W.2 G E;refine I ?_;refine SA G (λ_ H A1=>?_);have E:=eK H E;have A2:=dX H;refine I ?_;refine aK (v:=.tuple #[.agg #[S (qR a b).1,S (qR a b).2],.int .i64 0]) (cJ (r1:=.cell 4 23) (r2:=.tmp 5) Z ?_ ?_) E Z;refine ah (t:=4) (cs:=[S (qR a b).1,S (qR a b).2]) (b:=w.heap.size) (o:=0) j8 Z dv ?_ ?_;exact Z;exact aa0 A1 (i:=0) Z;exact aE (t:=5) Ve _
def qF (ho:ew (aa N,aa D)=true)(fN:Fz N)(fD:Fz D)(hp:pl<=30)(hNT:(N*((10^pl:Nat):Int)).natAbs<10^199)(ht:Tb w):
 CL 184 #[.agg #[S (aa N),S (aa D)],.int .i64 pl,.bool up] w (aH w λv w'=>v=Qv (pw N D ((10^pl:Nat):Int) up) ((10^pl:Nat):Int)):=by
 have As:((10^pl:Nat):Int)≠0:=by have:=Nat.pow_pos (n:=pl) (show 0<10 by decide);omega
 have pD:0<D:=by have:=jj ho;rwa [aG]at this
 have fNT:Fz (N*((10^pl:Nat):Int)):=z1;have Ab:pl<200:=U;have fT:Fi (10^pl):=Nat.pow_lt_pow_right dc U;refine aC func184 Z (I ?_);refine bx (λAq B1 G=>?_);have ht:=aa6 B1.2 ht;have E:=B1.2;refine al bi (λkk Ax H=>?_);have ht:=aa6 Ax.2 ht;have⟨G,E⟩:=bn Ax.2 G E;refine I ?_;refine ab (aS (vs:=[(0,.bool (decide (30<(pl:Int))))]) (cells:=#[.bool (decide (30<(pl:Int)))]) (pl:=[(0,1)]) It um q0 Z q0 ?_);refine bx (λAy E7 M0=>?_);have ht:=aa6 E7.2 ht;have⟨G,H,E⟩:=aP E7.2 G H E;refine I ?_;have Af:ae Ay kk.heap.size 87 #[.bool false]:=by have h:=M0;rw[decide_eq_false U]at h;exact h
 refine I ?_;refine BS (λ_ Ar _ K2=>?_);have ht:=aa6 Ar ht;have⟨G,H,Af,E⟩:=br Ar G H Af E;have MA:=bz Ar;refine ab (bG (vs:=[pT kk.heap.size,.slice (some ⟨Ay.heap.size,0,none⟩) 1 1]) yo Z (Hl Af ht (aa3 K2) Z (λ_ e=>by cases e;simp;omega) ho) ?_);rintro _ _ ⟨kd,Am,rfl⟩;have ht:=Tb.gr kd Af dc ht;have G:=aa2 kd Va G;have H:=aa2 kd Va H;have E:=cK E kd (bz E) (λg O=>by cases O;omega);have M7:=kd.size;refine I ?_;refine clb ym (hc:=mr [48] pl _ U dc) (hk:=?_);rintro _ _ B2 rfl;have ht:=aa6 B2.2 ht;have⟨G,H,Am,E⟩:=br B2.2 G H Am E;refine ab (me (a:=[49]) (b:=Lib.repeatL [48] pl) Z Z (by rw[mA];simp;omega) ?_);refine I ?_;refine ab (bG (vs:=[pT kk.heap.size,S (aa N),S (([49])++(Lib.repeatL [48] pl))]) p9 Z (Di Am ht Z (lU Ab) fN fT.z fNT) ?_);rintro _ _ ⟨W,Ap,rfl⟩;have ht:=Tb.gr W Am dc ht;have G:=aa2 W Va G;have H:=aa2 W Va H;have E:=cK E W (bz E) (λg O=>by cases O;omega);have M3:=W.size;refine I ?_;refine cl xe (gT (Y:=.tuple #[S (aa (N*((10^pl:Nat):Int)/D)),S (aa (N*((10^pl:Nat):Int)%D)),.int .i64 0]) (kf _ _ _ ht) (qb1 lF (jV fNT fD (Int.ne_of_gt pD) (eU fNT pD)))) ?_;rintro _ _ E1 rfl;have ht:=aa6 E1.2 ht
 have⟨G,H,Ap,E⟩:=br E1.2 G H Ap E;refine I ?_;refine SO Ap (λ_ E4 A2=>?_);have ht:=Tb.put E4 Ap dc ht;have⟨G,H,E,_⟩:=fq E4 G H E;refine I ?_;rcases qa4 up with cw|cw;refine I ?_;refine KP (b:=[48]) (I ?_);by_cases wr:(aa (N*((10^pl:Nat):Int)%D))=([48]);refine I ?_;refine ab (bG (vs:=[pT kk.heap.size,S (aa (N*((10^pl:Nat):Int)/D)),S (([49])++(Lib.repeatL [48] pl))]) qa Z (nQ A2 ht Z (lU Ab) (eU fNT pD) fT.z As) ?_);rintro _ _ ⟨Ao,⟨M8,Av⟩,rfl⟩;have G:=aa2 Ao Va G;have H:=aa2 Ao Va H;have E:=cK E Ao (bz E) (λg O=>by cases O;omega);have M6:=Ao.size;refine I ?_;refine SA H (λ_ Jx Kp=>?_);have⟨G,Av,E,_⟩:=fq Jx G Av E;refine I ?_;refine aK (v:=.tuple #[.agg #[S ((qR (N*((10^pl:Nat):Int)/D) ((10^pl:Nat):Int)).1),S ((qR (N*((10^pl:Nat):Int)/D) ((10^pl:Nat):Int)).2)],.int .i64 0]) (cJ (r1:=.cell 6 23) (r2:=.tmp 7) Z ?_ ?_) E (Ls wr);refine ah (t:=6) (cs:=[S ((qR (N*((10^pl:Nat):Int)/D) ((10^pl:Nat):Int)).1),S ((qR (N*((10^pl:Nat):Int)/D) ((10^pl:Nat):Int)).2)]) (b:=Aq.heap.size) (o:=0) j8 Z dv ?_ ?_
 exact Z;exact aa0 Kp (i:=0) Z;exact aE (t:=7) Ve _;refine I ?_;refine ab (bG (vs:=[pT kk.heap.size,.func (.func 63) #[] #[],S (aa (N*((10^pl:Nat):Int)/D)),S [49]]) mQ Z (Dj A2 ht Z g8 (eU fNT pD) (by unfold Fz;decide) (AK hNT pD)) ?_);rintro _ _ ⟨A1,EW,rfl⟩;have ht:=Tb.gr A1 A2 dc ht;have G:=aa2 A1 Va G;have H:=aa2 A1 Va H;have E:=cK E A1 (bz E) (λg O=>by cases O;omega);have MB:=A1.size;refine I ?_;refine ab (bG (vs:=[pT kk.heap.size,S (aa (N*((10^pl:Nat):Int)/D+1)),S (([49])++(Lib.repeatL [48] pl))]) qa Z (nQ EW ht Z (lU Ab) (AK hNT pD) fT.z As) ?_);rintro _ _ ⟨ny,⟨M9,Aw⟩,rfl⟩;have G:=aa2 ny Va G;have H:=aa2 ny Va H;have E:=cK E ny (bz E) (λg O=>by cases O;omega);have M2:=ny.size;refine I ?_;refine SA H (λ_ od M1=>?_);have⟨G,Aw,E,_⟩:=fq od G Aw E;refine I ?_;refine aK (v:=.tuple #[.agg #[S ((qR (N*((10^pl:Nat):Int)/D+1) ((10^pl:Nat):Int)).1),S ((qR (N*((10^pl:Nat):Int)/D+1) ((10^pl:Nat):Int)).2)],.int .i64 0]) (cJ (r1:=.cell 6 23) (r2:=.tmp 7) Z ?_ ?_) E (Lr cw wr)
 refine ah (t:=6) (cs:=[S ((qR (N*((10^pl:Nat):Int)/D+1) ((10^pl:Nat):Int)).1),S ((qR (N*((10^pl:Nat):Int)/D+1) ((10^pl:Nat):Int)).2)]) (b:=Aq.heap.size) (o:=0) j8 Z dv ?_ ?_;exact Z;exact aa0 M1 (i:=0) Z;exact aE (t:=7) Ve _;refine I ?_;refine ab (bG (vs:=[pT kk.heap.size,S (aa (N*((10^pl:Nat):Int)/D)),S (([49])++(Lib.repeatL [48] pl))]) qa Z (nQ A2 ht Z (lU Ab) (eU fNT pD) fT.z As) ?_);rintro _ _ ⟨Ad,⟨M5,E9⟩,rfl⟩;have G:=aa2 Ad Va G;have H:=aa2 Ad Va H;have E:=cK E Ad (bz E) (λg O=>by cases O;omega);have M4:=Ad.size;refine I ?_;refine SA H (λ_ Ix L2=>?_);have⟨G,E9,E,_⟩:=fq Ix G E9 E;refine I ?_;refine aK (v:=.tuple #[.agg #[S ((qR (N*((10^pl:Nat):Int)/D) ((10^pl:Nat):Int)).1),S ((qR (N*((10^pl:Nat):Int)/D) ((10^pl:Nat):Int)).2)],.int .i64 0]) (cJ (r1:=.cell 6 23) (r2:=.tmp 7) Z ?_ ?_) E (Lt cw);refine ah (t:=6) (cs:=[S ((qR (N*((10^pl:Nat):Int)/D) ((10^pl:Nat):Int)).1),S ((qR (N*((10^pl:Nat):Int)/D) ((10^pl:Nat):Int)).2)]) (b:=Aq.heap.size) (o:=0) j8 Z dv ?_ ?_;exact Z;exact aa0 L2 (i:=0) Z;exact aE (t:=7) Ve _
def AL (ho:ew (aa N,aa D)=true)(fN:Fz N)(fD:Fz D)(hp:pl<=30)(hNT:(N*((10^pl:Nat):Int)).natAbs<10^199)(ht:Tb w):
 CL 140 #[.agg #[S (aa N),S (aa D)],.int .i64 pl] w (aH w λv w'=>v=.tuple #[.agg #[S ((qR (pw N D ((10^pl:Nat):Int) false) ((10^pl:Nat):Int)).1),S ((qR (pw N D ((10^pl:Nat):Int) false) ((10^pl:Nat):Int)).2)],.int .i64 0]):=by
 refine aC func140 Z (I ?_);refine bx (λkk kd G=>?_);have E:=kd.2;refine al bi (λ_ O H=>?_);have⟨G,E⟩:=bn O.2 G E;refine I ?_;refine cl yx (qF ho fN fD hp hNT (ht.ext E)) ?_;rintro _ _ A1 rfl;have⟨G,H,E⟩:=aP A1.2 G H E;refine I ?_;refine SA H (λ_ W A2=>?_);have⟨G,E,_⟩:=dE W G E;refine I ?_;refine aK (v:=.tuple #[.agg #[S ((qR (pw N D ((10^pl:Nat):Int) false) ((10^pl:Nat):Int)).1),S ((qR (pw N D ((10^pl:Nat):Int) false) ((10^pl:Nat):Int)).2)],.int .i64 0]) (cJ (r1:=.cell 4 23) (r2:=.tmp 5) Z ?_ ?_) E Z;refine ah (t:=4) (cs:=[S ((qR (pw N D ((10^pl:Nat):Int) false) ((10^pl:Nat):Int)).1),S ((qR (pw N D ((10^pl:Nat):Int) false) ((10^pl:Nat):Int)).2)]) (b:=kk.heap.size) (o:=0) j8 Z dv ?_ ?_;exact Z;exact aa0 A2 (i:=0) Z;exact aE (t:=5) Ve _
def Hm (ho:ew (aa N,aa D)=true)(fN:Fz N)(fD:Fz D)(hp:pl<=30)(hNT:(N*((10^pl:Nat):Int)).natAbs<10^199)(ht:Tb w):
 CL 141 #[.agg #[S (aa N),S (aa D)],.int .i64 pl] w (aH w λv w'=>v=.tuple #[.agg #[S ((qR (pw N D ((10^pl:Nat):Int) true) ((10^pl:Nat):Int)).1),S ((qR (pw N D ((10^pl:Nat):Int) true) ((10^pl:Nat):Int)).2)],.int .i64 0]):=by
 refine aC func141 Z (I ?_);refine bx (λkk kd G=>?_);have E:=kd.2;refine al bi (λ_ O H=>?_);have⟨G,E⟩:=bn O.2 G E;refine I ?_;refine cl yx (qF ho fN fD hp hNT (ht.ext E)) ?_;rintro _ _ A1 rfl;have⟨G,H,E⟩:=aP A1.2 G H E;refine I ?_;refine SA H (λ_ W A2=>?_);have⟨G,E,_⟩:=dE W G E;refine I ?_;refine aK (v:=.tuple #[.agg #[S ((qR (pw N D ((10^pl:Nat):Int) true) ((10^pl:Nat):Int)).1),S ((qR (pw N D ((10^pl:Nat):Int) true) ((10^pl:Nat):Int)).2)],.int .i64 0]) (cJ (r1:=.cell 4 23) (r2:=.tmp 5) Z ?_ ?_) E Z;refine ah (t:=4) (cs:=[S ((qR (pw N D ((10^pl:Nat):Int) true) ((10^pl:Nat):Int)).1),S ((qR (pw N D ((10^pl:Nat):Int) true) ((10^pl:Nat):Int)).2)]) (b:=kk.heap.size) (o:=0) j8 Z dv ?_ ?_;exact Z;exact aa0 A2 (i:=0) Z;exact aE (t:=5) Ve _
end
section
open Go Go.Eng Go.RowKit Tryz
section
variable {n:Int}
def im (hd:0<d):0<((Int.gcd n d:Nat):Int):=by have:=Int.gcd_pos_of_ne_zero_right n (show d≠0 by omega);omega
def rQ (hd:0<d):cE n d*((Int.gcd n d:Nat):Int)=n:=by
 unfold cE;rw[if_neg U];exact Int.ediv_mul_cancel (Int.gcd_dvd_left ..)
def rR (hd:0<d):bI n d*((Int.gcd n d:Nat):Int)=d:=by
 unfold bI;rw[if_neg U];exact Int.ediv_mul_cancel (Int.gcd_dvd_right ..)
def gl (hd:0<d):cE n d*d=n*bI n d:=by
 have h1:=rQ (n:=n) hd
 have h2:=rR (n:=n) hd
 generalize cE n d=a at *
 generalize bI n d=b at *
 generalize ((Int.gcd n d:Nat):Int)=g at *
 rw[<-h1,<-h2,Int.mul_comm b g,Int.mul_assoc]
def jn (hd:0<d):0<bI n d:=by
 have h2:=rR (n:=n) hd
 have E:=im (n:=n) hd
 rcases Int.lt_or_le 0 (bI n d)with h|h
 · exact h
 · have:=Int.mul_nonpos_of_nonpos_of_nonneg h (Int.le_of_lt E);omega
def wE (hd:0<d):bI n d<=d:=by
 have h2:=rR (n:=n) hd
 have G:=im (n:=n) hd
 have E:=jn (n:=n) hd
 have:=Int.mul_le_mul_of_nonneg_left (show(1:Int)<=((Int.gcd n d:Nat):Int)by omega) (Int.le_of_lt E)
 omega
def rT (hd:0<d):(cE n d).natAbs<=n.natAbs:=by
 have h2:=qb1 Int.natAbs (rQ (n:=n) hd)
 have E:=im (n:=n) hd
 rw[Int.natAbs_mul,Int.natAbs_natCast]at h2
 exact qa8 (Nat.le_mul_of_pos_right _ U) (Nat.le_of_eq h2)
def u6 (hd:0<d):Int.gcd (cE n d) (bI n d)=1:=by
 have E:=im (n:=n) hd
 have e:=Int.gcd_mul_right (cE n d) ((Int.gcd n d:Nat):Int) (bI n d)
 rw[rQ hd,rR hd,Int.natAbs_natCast]at e
 exact Nat.eq_of_mul_eq_mul_right (show 0<Int.gcd n d by omega) U
def JI (ha:Fz a)(hb:Fz b)(h0:0<b)(hg:Int.gcd a b=1):ew (aa a,aa b)=true:=by
 have e:bD (aa a) (aa b)=some [49]:=by
  unfold bD;rw[if_pos VF,aG,aG,hg]
  decide +kernel
 unfold ew
 simp only[ha.int,hb.int,e]
 rw[gQ hb.int,aG,decide_eq_false (by rw[bw];omega)]
 rfl
def qG (hd:0<d)(h:Fz n):Fz (cE n d):=Nat.lt_of_le_of_lt (rT hd) h
def qH (hd:0<d)(h:Fz d):Fz (bI n d):=by have:=jn (n:=n) hd;have:=wE (n:=n) hd;unfold Fz at *;omega
def AM (hd:0<d)(fn:Fz n)(fd:Fz d):ew (qR n d)=true:=JI (qG hd fn) (qH hd fd) (jn hd) (u6 hd)
end
def AN {n:Int}(hd:0<d)(hg:Int.gcd n d=1):qR n d=(aa n,aa d):=by
 unfold qR cE bI;rw[hg,if_neg U,if_neg U];simp
def tH (h:a∣b*c)(hg:Int.gcd a c=1):a∣b:=by
 have h1:a.natAbs∣b.natAbs*c.natAbs:=by rw[<-Int.natAbs_mul];exact Int.natAbs_dvd_natAbs.2 h
 exact Int.natAbs_dvd_natAbs.1 (Nat.Coprime.dvd_of_dvd_mul_right (show Nat.Coprime a.natAbs c.natAbs from hg) h1)
def AO (hb:0<b)(hd:0<d)(h1:Int.gcd a b=1)(h2:Int.gcd c d=1)(h:a*d=c*b):a=c/\b=d:=by
 have G:b∣d:=by
  have:b∣d*a:=⟨c,by rw[Int.mul_comm d a,h,Int.mul_comm]⟩
  exact tH this (by rw[Int.gcd_comm];exact h1)
 have E:d∣b:=by
  have:d∣b*c:=⟨a,by rw[Int.mul_comm b c,<-h,Int.mul_comm]⟩
  exact tH this (by rw[Int.gcd_comm];exact h2)
 have e:=Int.dvd_antisymm U U G E
 subst e
 exact⟨Int.eq_of_mul_eq_mul_right U h,rfl⟩
def xH (hb:0<b)(hd:0<d)(h:a*d=c*b):cE a b=cE c d/\bI a b=bI c d:=by
 have h1:=gl (n:=a) hb
 have h2:=gl (n:=c) hd
 refine AO (jn hb) (jn hd) (u6 hb) (u6 hd) ?_
 have e:cE a b*bI c d*(b*d)=cE c d*bI a b*(b*d):=by
  calc cE a b*bI c d*(b*d)=(cE a b*b)*(bI c d*d):=by grind
   _=(a*bI a b)*(bI c d*d):=by rw[h1]
   _=(a*d)*(bI a b*bI c d):=by grind
   _=(c*b)*(bI a b*bI c d):=by rw[h]
   _=(c*bI c d)*(bI a b*b):=by grind
   _=(cE c d*d)*(bI a b*b):=by rw[h2]
   _=cE c d*bI a b*(b*d):=by grind
 exact Int.eq_of_mul_eq_mul_right (Int.ne_of_gt (Int.mul_pos hb hd)) e
def gm (hb:0<b)(hd:0<d)(h:a*d=c*b):qR a b=qR c d:=by
 obtain⟨h1,h2⟩:=xH hb hd h
 unfold qR;rw[h1,h2]
def Hn (hb:0<b)(hd:0<d)(h:qR a b=qR c d):a*d=c*b:=by
 unfold qR at h
 have H:=gP (qb1 Prod.fst h)
 have O:=gP (qb1 Prod.snd h)
 have h1:=rQ (n:=a) hb
 have h2:=rR (n:=a) hb
 have G:=rQ (n:=c) hd
 have E:=rR (n:=c) hd
 rw[<-H]at G
 rw[<-O]at E
 generalize cE a b=p at *
 generalize bI a b=q at *
 rw[<-h1,<-h2,<-G,<-E];grind
def tI {k:Int}(hk:0<k):aw (x*k) (y*k)=aw x y:=tD ⟨λh=>Int.lt_of_mul_lt_mul_right h (Int.le_of_lt hk),λh=>Int.mul_lt_mul_of_pos_right h hk⟩ ⟨λh=>Int.eq_of_mul_eq_mul_right U h,λh=>by rw[h]⟩
def Dl (hb:0<b)(hd:0<d):aw (cE a b*bI c d) (cE c d*bI a b)=aw (a*d) (c*b):=by
 rw[<-tI (Int.mul_pos (im (n:=a) hb) (im (n:=c) hd))]
 have h1:=rQ (n:=a) hb
 have h2:=rR (n:=a) hb
 have E:=rQ (n:=c) hd
 have G:=rR (n:=c) hd
 generalize cE a b=p at *
 generalize bI a b=q at *
 generalize cE c d=r at *
 generalize bI c d=s at *
 generalize ((Int.gcd a b:Nat):Int)=g at *
 generalize ((Int.gcd c d:Nat):Int)=k at *
 rw[<-h1,<-h2,<-E,<-G,show p*s*(g*k)=p*g*(s*k)by grind,show r*q*(g*k)=r*k*(q*g)by grind]
def AQ (hb:0<b)(hd:0<d)(fa:Fz a)(fb:Fz b)(fc:Fz c)(fd:Fz d)(ht:Tb w):
 CL 46 #[.agg #[S (qR a b).1,S (qR a b).2],.agg #[S (qR c d).1,S (qR c d).2]] w (aH w λv _=>v=.int .i64 (aw (a*d) (c*b))):=
 gT (tF (AM hb fa fb) (AM hd fc fd) (qG hb fa) (qH hb fb) (qG hd fc) (qH hd fd) ht) (qb1 (Value.int .i64) (Dl hb hd))
def gD :ao (qR a b).1=cE a b/\ao (qR a b).2=bI a b:=⟨aG _,aG _⟩
def Q9 (a b:Int):Prop:=a.natAbs<10^90/\0<b/\b<10^90
def Q9.fz (h:Q9 a b):Fz a/\Fz b:=by obtain⟨_,_,_⟩:=h;unfold Fz;omega
def Q9.red (h:Q9 a b):Q9 (cE a b) (bI a b):=⟨Nat.lt_of_le_of_lt (rT h.2.1) h.1,jn h.2.1,by have:=wE (n:=a) h.2.1;have:=h.2.2;omega⟩
def Q9.ok (h:Q9 a b):ew (qR a b)=true:=AM h.2.1 h.fz.1 h.fz.2
def io (ha:a.natAbs<10^90)(hb:b.natAbs<10^90):(a*b).natAbs<10^180:=by rw[Int.natAbs_mul];exact dl ha hb
def j0 (h:a.natAbs<10^180):Fz a:=by unfold Fz;omega
def u7 {n e:Int}(fn:Fz n)(fd:Fz d)(h:jq n d=some (qR c e)):mU n d=some (qR c e):=by
 unfold mU;rw[fn.fits,fd.fits];exact h
def Ho (h1:Q9 a b)(h2:Q9 c d):pL (qR a b) (qR c d)=some (qR (a*d+c*b) (b*d)):=by
 unfold pL
 rw[h1.ok,h2.ok,gD.1,gD.2,gD.1,gD.2]
 have r1:=h1.red
 have r2:=h2.red
 have E:=io r1.1 (b:=bI c d) V0
 have G:=io r2.1 (b:=bI a b) V1
 have H:=io (a:=bI a b) (b:=bI c d) V1 V0
 rw[(j0 E).fits,(j0 G).fits]
 have O:=Int.mul_pos r1.2.1 r2.2.1
 simp only[Bool.and_self,if_true]
 refine u7 z1 (j0 H) ?_
 rw[nP U]
 congr 1
 refine gm O (Int.mul_pos h1.2.1 h2.2.1) ?_
 have kk:=gl (n:=a) h1.2.1
 have W:=gl (n:=c) h2.2.1
 generalize cE a b=p at *
 generalize bI a b=q at *
 generalize cE c d=r at *
 generalize bI c d=s at *
 grind
def Hp (h1:Q9 a b)(h2:Q9 c d):pM (qR a b) (qR c d)=some (qR (a*d-c*b) (b*d)):=by
 unfold pM
 rw[h1.ok,h2.ok,gD.1,gD.2,gD.1,gD.2]
 have r1:=h1.red
 have r2:=h2.red
 have E:=io r1.1 (b:=bI c d) V0
 have G:=io r2.1 (b:=bI a b) V1
 have H:=io (a:=bI a b) (b:=bI c d) V1 V0
 rw[(j0 E).fits,(j0 G).fits]
 have O:=Int.mul_pos r1.2.1 r2.2.1
 simp only[Bool.and_self,if_true]
 refine u7 z1 (j0 H) ?_
 rw[nP U]
 congr 1
 refine gm O (Int.mul_pos h1.2.1 h2.2.1) ?_
 have kk:=gl (n:=a) h1.2.1
 have W:=gl (n:=c) h2.2.1
 generalize cE a b=p at *
 generalize bI a b=q at *
 generalize cE c d=r at *
 generalize bI c d=s at *
 grind
def Hq (h1:Q9 a b)(h2:Q9 c d)(hc:0<c):CO (qR a b) (qR c d)=some (qR (a*d) (b*c)):=by
 unfold CO
 rw[h1.ok,h2.ok,gD.1,gD.2,gD.1,gD.2]
 have r1:=h1.red
 have r2:=h2.red
 have H:=io r1.1 (b:=bI c d) V0
 have O:=io (a:=bI a b) (b:=cE c d) V1 r2.1
 have G:0<cE c d:=by
  have h:=rQ (n:=c) h2.2.1
  have E:=im (n:=c) h2.2.1
  rcases Int.lt_or_le 0 (cE c d)with h'|h'
  · exact h'
  · have:=Int.mul_nonpos_of_nonpos_of_nonneg h' (Int.le_of_lt E);omega
 have kk:=Int.mul_pos r1.2.1 G
 simp only[Bool.and_self,if_true]
 refine u7 (j0 H) (j0 O) ?_
 rw[nP U]
 congr 1
 refine gm kk (Int.mul_pos h1.2.1 hc) ?_
 have W:=gl (n:=a) h1.2.1
 have kd:=gl (n:=c) h2.2.1
 generalize cE a b=p at *
 generalize bI a b=q at *
 generalize cE c d=r at *
 generalize bI c d=s at *
 grind
section
def Dm (h1:Q9 a b)(h2:Q9 c d)(ht:Tb w):CL 88 #[.agg #[S (qR a b).1,S (qR a b).2],.agg #[S (qR c d).1,S (qR c d).2]] w (aH w λv _=>v=Qv (a*d+c*b) (b*d)):=gT (CV _ _ _ _ _ ht) (qb1 gg (Ho h1 h2))
def Dn (h1:Q9 a b)(h2:Q9 c d)(ht:Tb w):CL 50 #[.agg #[S (qR a b).1,S (qR a b).2],.agg #[S (qR c d).1,S (qR c d).2]] w (aH w λv _=>v=Qv (a*d-c*b) (b*d)):=gT (CW _ _ _ _ _ ht) (qb1 gg (Hp h1 h2))
def Do (h1:Q9 a b)(h2:Q9 c d)(hc:0<c)(ht:Tb w):CL 87 #[.agg #[S (qR a b).1,S (qR a b).2],.agg #[S (qR c d).1,S (qR c d).2]] w (aH w λv _=>v=Qv (a*d) (b*c)):=gT (CR _ _ _ _ _ ht) (qb1 gg (Hq h1 h2 hc))
end
def Dp {a b:Nat}(hk:0<k):gF (a*k) (b*k)=gF a b:=by
 unfold gF
 rw[Nat.mul_mod_mul_right,Nat.mul_div_mul_right _ _ hk]
 have:(a%b*k=0)↔(a%b=0):=⟨λh=>(Nat.mul_eq_zero.1 h).resolve_right U,λh=>by rw[h,Nat.zero_mul]⟩
 simp only[this]
def Dq {S d:Nat}(hk:0<k):aM S (n*k) (d*k)=aM S n d:=by
 unfold aM
 rw[show n*k*S=n*S*k by rw[Nat.mul_assoc,Nat.mul_comm k,<-Nat.mul_assoc],Dp hk,Nat.mul_div_mul_right _ _ hk]
abbrev QV (a b:Int):Value:=.agg #[S (qR a b).1,S (qR a b).2]
abbrev IV (a b c d:Int):Value:=.agg #[S (qR a b).1,S (qR a b).2,S (qR c d).1,S (qR c d).2]
abbrev qx (ma mb sa sb ea eb la lb ha hb oa ob ga gb:Int):Array Value:=#[S (qR ma mb).1,S (qR ma mb).2,S (qR sa sb).1,S (qR sa sb).2,S (qR ea eb).1,S (qR ea eb).2,S (qR la lb).1,S (qR la lb).2,S (qR ha hb).1,S (qR ha hb).2,S (qR oa ob).1,S (qR oa ob).2,S (qR ga gb).1,S (qR ga gb).2]
end
section
open Go Go.Eng Go.RowKit Tryz
attribute [local irreducible] wpListIn Code.wpIn Oper.wpIn Exit.then Exit.inBlock Exit.noGoto
set_option maxHeartbeats 40000000
def Lu:(([50],[49]):R)=qR 2 1:=by decide +kernel
def JJ:(([49],[49]):R)=qR 1 1:=by decide +kernel
def H8:(([48],[49]):R)=qR 0 1:=by decide +kernel
def Mm:(([49],[50]):R)=qR 1 2:=by decide +kernel
section
variable {l' m':List UInt8}
def iS (e1:(l,m)=qR a b)(e2:(l',m')=qR c d)(h1:Q9 a b)(h2:Q9 c d)(ht:Tb w):CL 46 #[.agg #[S l,S m],.agg #[S l',S m']] w (aH w λv _=>v=.int .i64 (aw (a*d) (c*b))):=by
 rw[show l=(qR a b).1 from congrArg Prod.fst e1,show m=(qR a b).2 from congrArg Prod.snd e1,show l'=(qR c d).1 from congrArg Prod.fst e2,show m'=(qR c d).2 from congrArg Prod.snd e2]
 exact AQ h1.2.1 h2.2.1 h1.fz.1 h1.fz.2 h2.fz.1 h2.fz.2 ht
def JK (e1:(l,m)=qR a b)(e2:(l',m')=qR c d)(h1:Q9 a b)(h2:Q9 c d)(ht:Tb w):CL 88 #[.agg #[S l,S m],.agg #[S l',S m']] w (aH w λv _=>v=Qv (a*d+c*b) (b*d)):=by
 rw[show l=(qR a b).1 from congrArg Prod.fst e1,show m=(qR a b).2 from congrArg Prod.snd e1,show l'=(qR c d).1 from congrArg Prod.fst e2,show m'=(qR c d).2 from congrArg Prod.snd e2]
 exact Dm h1 h2 ht
def EZ (e1:(l,m)=qR a b)(e2:(l',m')=qR c d)(h1:Q9 a b)(h2:Q9 c d)(ht:Tb w):CL 50 #[.agg #[S l,S m],.agg #[S l',S m']] w (aH w λv _=>v=Qv (a*d-c*b) (b*d)):=by
 rw[show l=(qR a b).1 from congrArg Prod.fst e1,show m=(qR a b).2 from congrArg Prod.snd e1,show l'=(qR c d).1 from congrArg Prod.fst e2,show m'=(qR c d).2 from congrArg Prod.snd e2]
 exact Dn h1 h2 ht
def E0 (e1:(l,m)=qR a b)(e2:(l',m')=qR c d)(h1:Q9 a b)(h2:Q9 c d)(hc:0<c)(ht:Tb w):CL 87 #[.agg #[S l,S m],.agg #[S l',S m']] w (aH w λv _=>v=Qv (a*d) (b*c)):=by
 rw[show l=(qR a b).1 from congrArg Prod.fst e1,show m=(qR a b).2 from congrArg Prod.snd e1,show l'=(qR c d).1 from congrArg Prod.fst e2,show m'=(qR c d).2 from congrArg Prod.snd e2]
 exact Do h1 h2 hc ht
def AR (hb:0<b)(hd:0<d)(h:a*d=c*b):Qv a b=Qv c d:=by unfold Qv;rw[gm hb hd h]
end
def E2 {d:Nat}(hn:n<10^90)(h0:0<d)(hd:d<10^90):Q9 (n:Int) (d:Int):=⟨by simpa using hn,by omega,by omega⟩
def AS:Q9 1 1:=⟨by decide,by decide,by decide⟩
def Hr:Q9 2 1:=⟨by decide,by decide,by decide⟩
def Hs:Q9 0 1:=⟨by decide,by decide,by decide⟩
def kr {a b:Nat}(hb:0<b):cE (a:Int) (b:Int)=((a/Nat.gcd a b:Nat):Int)/\bI (a:Int) (b:Int)=((b/Nat.gcd a b:Nat):Int):=by
 unfold cE bI
 rw[if_neg U,if_neg U]
 exact⟨rfl,rfl⟩
def iT {a b:Nat}(hS:Sc sO)(ha:a<10^90)(hb:b<10^90)(h0:0<b)(ht:Tb w):
 CL 43 #[.agg #[.int .i64 pl,S (nS sO)],.agg #[S (qR (a:Int) (b:Int)).1,S (qR (a:Int) (b:Int)).2]] w (aH w λv _=>v=.agg #[S (nS (aM sO a b).1),S (nS (aM sO a b).2)]):=by
 have E:0<Nat.gcd a b:=Nat.gcd_pos_of_pos_right _ h0
 have O:a/Nat.gcd a b*Nat.gcd a b=a:=Nat.div_mul_cancel (Nat.gcd_dvd_left _ _)
 have kk:b/Nat.gcd a b*Nat.gcd a b=b:=Nat.div_mul_cancel (Nat.gcd_dvd_right _ _)
 have h1:=Dq (S:=sO) (n:=a/Nat.gcd a b) (d:=b/Nat.gcd a b) E
 rw[O,kk]at h1
 have G:a/Nat.gcd a b<10^90:=Nat.lt_of_le_of_lt (Nat.div_le_self _ _) ha
 have H:b/Nat.gcd a b<10^90:=Nat.lt_of_le_of_lt (Nat.div_le_self _ _) hb
 have W:0<b/Nat.gcd a b:=Nat.div_pos (Nat.le_of_dvd h0 (Nat.gcd_dvd_right _ _)) E
 rw[h1]
 unfold qR
 rw[(kr h0).1,(kr h0).2]
 exact wu hS (bT G dc) (bT H dc) W (bC G hS.lt dc) ht
def x5:Nat->Nat->Nat->Nat->Option (Nat×Nat)
 |0,_,_,_=>none
 |f+1,n,d,k=>if 2*d<n then x5 f n (2*d) (k+1)else some (d,k)
def pR (S n d:Nat):Option N2:=if n<10^80/\d<10^80/\0<d/\d<=n then(x5 100 n d 0).bind λp=>(pP S (aM S 1 3)).bind λh=>(pP S (aM S (n-p.1) (n+p.1))).map λa=>dA a (ba h p.2 1)else none
def wF {S d:Nat}{r:N2}(h:pR S n d=some r):n<10^80/\d<10^80/\0<d/\d<=n/\∃p x a,x5 100 n d 0=some p/\pP S (aM S 1 3)=some x/\pP S (aM S (n-p.1) (n+p.1))=some a/\r=dA a (ba x p.2 1):=by
 unfold pR at h
 split at h
 · rename_i h1
   refine⟨h1.1,h1.2.1,h1.2.2.1,h1.2.2.2,?_⟩
   cases hp:x5 100 n d 0 with
   |none=>rw[hp]at h;cases h
   | some p=>
     rw[hp,Option.bind_some]at h
     cases hx:pP S (aM S 1 3)with
     |none=>rw[hx]at h;cases h
     | some x=>
       rw[hx,Option.bind_some]at h
       cases ha:pP S (aM S (n-p.1) (n+p.1))with
       |none=>rw[ha]at h;cases h
       |some a=>rw[ha]at h;cases h;exact⟨p,x,a,rfl,rfl,ha,rfl⟩
 · cases h
def Lv {f d:Nat}{p:Nat×Nat}(h:x5 f n d k=some p)(hl:2*d<n):∃g,f=g+1/\x5 g n (2*d) (k+1)=some p:=by
 cases f with
 |zero=>cases h
 |succ g=>unfold x5 at h;rw[if_pos hl]at h;exact⟨g,rfl,h⟩
def Lw {f d:Nat}{p:Nat×Nat}(h:x5 f n d k=some p)(hl:¬2*d<n):p=(d,k):=by
 cases f with
 |zero=>cases h
 |succ g=>unfold x5 at h;rw[if_neg hl]at h;cases h;rfl
def rU {S:Nat}{t r:N2}(h:pP S t=some r):Bk 101 r:=by
 obtain⟨_,_,s,hs,rfl⟩:=ws h
 obtain⟨m,hR,hr⟩:=iQ hs
 have h1:Bk 100 s:=hr▸hR.res
 exact pq (m:=1) dc h1 dc
def Ht (h:2*e<n):0<aw ((n:Int)*1) (2*(e:Int)):=by rw[bM U];decide
def Hu (h:¬2*e<n):¬0<aw ((n:Int)*1) (2*(e:Int)):=by have:=(bw (x:=(n:Int)*1) (y:=2*(e:Int))).2 U;omega
def Hw :Qv ((n:Int)*1) ((e:Int)*2)=Qv (n:Int) ((2*e:Nat):Int):=by rw[Int.mul_one,show(e:Int)*2=((2*e:Nat):Int)by omega]
def JM (h:e<=n):Qv ((n:Int)*1-1*(e:Int)) ((e:Int)*1)=Qv ((n-e:Nat):Int) (e:Int):=by rw[show(n:Int)*1-1*(e:Int)=((n-e:Nat):Int)by omega,Int.mul_one]
def JN :Qv ((n:Int)*1+1*(e:Int)) ((e:Int)*1)=Qv ((n+e:Nat):Int) (e:Int):=by rw[show(n:Int)*1+1*(e:Int)=((n+e:Nat):Int)by omega,Int.mul_one]
def JO (h0:0<e):Qv (((n-e:Nat):Int)*(e:Int)) ((e:Int)*((n+e:Nat):Int))=Qv ((n-e:Nat):Int) ((n+e:Nat):Int):=
 AR (Int.mul_pos U U) U (by rw[Int.mul_assoc])
def Lx:([51]:List UInt8)=nS 3:=by decide +kernel
set_option maxRecDepth 100000 in
def AT {d:Nat}{r:N2}(hS:Sc sO)(hh:pR sO n d=some r)(ht:Tb w):
 CL 47 #[.agg #[.int .i64 pl,S (nS sO)],.agg #[S ((qR ((n:Nat):Int) ((d:Nat):Int)).1),S ((qR ((n:Nat):Int) ((d:Nat):Int)).2)]] w (aH w λv w'=>v=.agg #[S (nS r.1),S (nS r.2)]):=by
 obtain⟨_,_,NC,K2,p,x,a,MO,hx,E4,rfl⟩:=wF hh;have As:=rU hx;have Aq:=rU E4;refine aC func47 Z (I ?_);refine bx (λN4 MG E=>?_);have Ab:=MG.2;refine bx (λAw MF Ad=>?_);have⟨E,Ab⟩:=bn MF.2 E Ab;refine al aI (λNB N8 H=>?_);have⟨E,Ad,Ab⟩:=aP N8.2 E Ad Ab;refine I ?_;refine al bi (λN7 MC Ao=>?_);have⟨E,Ad,H,Ab⟩:=br MC.2 E Ad H Ab;refine al bi (λ_ Mz Ap=>?_);have⟨E,Ad,H,Ao,Ab⟩:=dL Mz.2 E Ad H Ao Ab;refine SA Ao (λ_ MB O=>?_);have⟨E,Ad,H,Ap,Ab,_⟩:=ka MB E Ad H Ap Ab;refine SA Ap (λMV MW kk=>?_);have⟨E,Ad,H,O,Ab,_⟩:=ka MW E Ad H O Ab;refine I ?_;refine cM [(7,7),(17,28)] (λMQ e W=>∃f:Nat,∃z:Nat,∃k:Nat,(f=MQ)/\(e 7=.int .i64 k)/\(x5 f n z k=some p)/\(0<z)/\(z<=n)/\(z<10^81)/\(k+f<=100)/\(MV.heap.size<=W.heap.size)/\(a8 w W)/\(ae W w.heap.size 45 #[.int .i64 pl,S (nS sO)])/\(ae W Aw.heap.size 59 #[S [],S []])/\(ae W NB.heap.size 23 #[S [50],S [49]])/\(ae W N7.heap.size 23 #[S [49],S [49]])/\(ae W N4.heap.size 23 #[S ((qR ((n:Nat):Int) ((z:Nat):Int)).1),S ((qR ((n:Nat):Int) ((z:Nat):Int)).2)])) (100) ⟨100,d,0,rfl,rfl,MO,NC,K2,U,U,(qa0 _),Ab,E,H,O,kk,Ad⟩ ?_;rintro _ _ _ ⟨f,z,k,rfl,NK,hf,MU,MI,NI,NJ,NE,G,E,H,O,kk,kd⟩;have NH:=bz G
 by_cases hl:2*z<n;obtain⟨g,rfl,MN⟩:=Lv hf hl;refine I ?_;refine clb ky (hc:=iS Z Lu (E2 U U U) Hr (ht.ext G)) (hk:=?_);rintro _ _ MZ rfl;have⟨E,H,O,kk,kd,G⟩:=lk MZ.2 E H O kk kd G;have ND:=Ht hl;refine I ?_;refine clb Ew (hc:=gT (Y:=.tuple #[.agg #[S ((qR ((n:Nat):Int) ((2*z:Nat):Int)).1),S ((qR ((n:Nat):Int) ((2*z:Nat):Int)).2)],.int .i64 0]) (E0 Z Lu (E2 U U U) Hr dc (ht.ext G)) Hw) (hk:=?_);rintro _ _ M6 rfl;have⟨E,H,O,kk,kd,G⟩:=lk M6.2 E H O kk kd G;refine I ?_;refine SA kd (λ_ Kp M7=>?_);have⟨E,H,O,kk,G,_⟩:=ka Kp E H O kk G;refine I ?_;refine ab (bb (a:=(k:Int)) (b:=1) (c:=((k+1:Nat):Int)) Z Z JT U ?_);refine I ?_;exact bQ ⟨g,2*z,k+1,rfl,rfl,MN,U,U,U,U,U,G,E,H,O,kk,M7⟩;have M2:=Lw hf hl;subst M2;have B2:=pq (n:=k) (d:=1) (m:=9) dc As U;refine I ?_;refine clb ky (hc:=iS Z Lu (E2 U U U) Hr (ht.ext G)) (hk:=?_);rintro _ _ M1 rfl;have⟨E,H,O,kk,kd,G⟩:=lk M1.2 E H O kk kd G;have NG:=Hu hl;refine I ?_;refine clb Ex (hc:=gT (Y:=.tuple #[.agg #[S ((qR ((n-z:Nat):Int) ((z:Nat):Int)).1),S ((qR ((n-z:Nat):Int) ((z:Nat):Int)).2)],.int .i64 0]) (EZ Z JJ (E2 U U U) AS (ht.ext G)) (JM MI)) (hk:=?_);rintro _ _ M9 rfl
 have⟨E,H,O,kk,kd,G⟩:=lk M9.2 E H O kk kd G;refine I ?_;refine al bi (λ_ ML N5=>?_);have⟨E,H,O,kk,kd,G⟩:=lk ML.2 E H O kk kd G;refine SA N5 (λ_ MM A1=>?_);have⟨E,H,O,kk,kd,G,_⟩:=xV MM E H O kk kd G;refine I ?_;refine clb IH (hc:=gT (Y:=.tuple #[.agg #[S ((qR ((n+z:Nat):Int) ((z:Nat):Int)).1),S ((qR ((n+z:Nat):Int) ((z:Nat):Int)).2)],.int .i64 0]) (JK Z JJ (E2 U U U) AS (ht.ext G)) JN) (hk:=?_);rintro _ _ EW rfl;have⟨E,H,O,kk,kd⟩:=dC EW.2 E H O kk kd;have⟨A1,G⟩:=bn EW.2 A1 G;refine I ?_;refine al bi (λ_ Ar M4=>?_);have⟨E,H,O,kk,kd⟩:=dC Ar.2 E H O kk kd;have⟨A1,G⟩:=bn Ar.2 A1 G;refine SA M4 (λ_ Av A2=>?_);have⟨E,H,O,kk,kd⟩:=jx Av E H O kk kd;have⟨A1,G,_⟩:=dE Av A1 G;refine I ?_;refine clb Ew (hc:=gT (Y:=.tuple #[.agg #[S ((qR ((n-z:Nat):Int) ((n+z:Nat):Int)).1),S ((qR ((n-z:Nat):Int) ((n+z:Nat):Int)).2)],.int .i64 0]) (E0 Z Z (E2 U U U) (E2 U U U) U (ht.ext G)) (JO MU)) (hk:=?_);rintro _ _ E1 rfl;have⟨E,H,O,kk,kd⟩:=dC E1.2 E H O kk kd;have⟨A1,A2,G⟩:=aP E1.2 A1 A2 G;refine I ?_;refine al bi (λ_ Ax MH=>?_);have⟨E,H,O,kk,kd⟩:=dC Ax.2 E H O kk kd;have⟨A1,A2,G⟩:=aP Ax.2 A1 A2 G;refine SA MH (λMS od Af=>?_);have⟨E,H,O,kk,kd⟩:=jx od E H O kk kd
 have⟨A1,A2,G,_⟩:=fq od A1 A2 G;refine I ?_;refine bB 6 ?_;refine sf ?_;refine ay (V:=.agg #[S (nS ((aM sO 1 3).1)),S (nS ((aM sO 1 3).2))]) (λ_ _ MD _=>?_) ?_;refine clb gu (hc:=iR (n:=1) (d:=3) g8 Lx hS Jv (bT (k:=1) dc dc) dc Vr (ht.ext (xt G MD))) (hk:=?_);rintro _ _ M5 rfl;have My:=M5.2;refine I ?_;exact fs ⟨My,rfl⟩;refine ay (V:=.agg #[S (nS x.1),S (nS x.2)]) (λ_ _ M8 _=>?_) ?_;refine cl yD (qE hS hx (ht.ext (xt G M8))) ?_;rintro _ _ ME rfl;have MJ:=ME.2;refine I ?_;exact fs ⟨MJ,rfl⟩;refine da (λv M3=>∃b:Nat,v=pT b/\MS.heap.size<=b/\ae M3 b 59 #[S [],S []]) (hs:=λ_ _ _ k ⟨b,e,l,h⟩=>⟨b,e,l,h.ext k⟩) (λ_ _ N0 _=>?_) ?_;refine al aI (λ_ wr N3=>?_);have MX:=wr.2;refine I ?_;exact fs ⟨MX,⟨_,rfl,(by have:=bz N0;omega),N3⟩⟩;refine sf ?_;intro _ _ E7 MP;have⟨E,H,O,kk,kd⟩:=dC E7.2 E H O kk kd;have⟨A1,A2,Af,G⟩:=br E7.2 A1 A2 Af G;obtain⟨_,_,_,B1⟩:=(MP 5 14 Z Z);have NF:=bt B1;refine SA B1 (λ_ Ay Am=>?_);have⟨E,H,O,kk,kd⟩:=jx Ay E H O kk kd;have⟨A1,A2,Af,G,_⟩:=fL Ay A1 A2 Af G;refine I ?_;refine bB 10 ?_;refine sf ?_;refine ay (V:=.agg #[S (nS ((aM sO (n-z) (n+z)).1)),S (nS ((aM sO (n-z) (n+z)).2))]) (λ_ _ MA _=>?_) ?_
 refine clb gu (hc:=iT (a:=(n-z)) (b:=(n+z)) hS U U U (ht.ext (xt G MA))) (hk:=?_);rintro _ _ MK rfl;have MR:=MK.2;refine I ?_;exact fs ⟨MR,rfl⟩;refine ay (V:=.agg #[S (nS a.1),S (nS a.2)]) (λ_ _ NA _=>?_) ?_;refine cl yD (qE hS E4 (ht.ext (xt G NA))) ?_;rintro _ _ MY rfl;have Jx:=MY.2;refine I ?_;exact fs ⟨Jx,rfl⟩;refine sf ?_;refine ay (V:=.agg #[S (nS ((ba x k 1).1)),S (nS ((ba x k 1).2))]) (λ_ _ N6 _=>?_) ?_;refine clb fJ (hc:=eA (As.mono dc) U dc dc (ht.ext (xt G N6))) (hk:=?_);rintro _ _ N9 rfl;have M0:=N9.2;refine I ?_;exact fs ⟨M0,rfl⟩;refine sf ?_;intro _ _ E9 _;have⟨E,H,O,kk,kd⟩:=dC E9.2 E H O kk kd;have⟨A1,A2,Af,Am,G⟩:=dL E9.2 A1 A2 Af Am G;refine clb uo (hc:=mB (by have:=Aq.1;have:=B2.1;unfold Fi;omega) (by have:=Aq.2;have:=B2.2;unfold Fi;omega) (ht.ext G)) (hk:=?_);rintro _ _ Ix rfl;have⟨E,H,O,kk,kd⟩:=dC Ix.2 E H O kk kd;have⟨A1,A2,Af,Am,G⟩:=dL Ix.2 A1 A2 Af Am G;refine SA H (λ_ ny L2=>?_);have⟨E,O,kk,kd,A1⟩:=jx ny E O kk kd A1;have⟨A2,Af,Am,G,_⟩:=fL ny A2 Af Am G;refine I ?_;refine aK (v:=.agg #[S (nS ((dA a (ba x k 1)).1)),S (nS ((dA a (ba x k 1)).2))]) (cn  rfl ?_) G Z;refine ah (t:=4) (cs:=[S (nS ((dA a (ba x k 1)).1)),S (nS ((dA a (ba x k 1)).2))]) (b:=Aw.heap.size) (o:=0) dw Z cD ?_ ?_
 exact Z;exact aa0 L2 (i:=0) Z
end
section
set_option maxRecDepth 100000
open Go Go.Eng Go.RowKit Tryz
def no {c:Code}{args:Array Value}{u:FrameMode}{R:Ending->FrameMode->World->Prop}(hf:P.funcs[f]?=some fn)(hb:fn.body=some c)(h:∀(c₀:Frame) (cs:List Frame),c₀.mode=u->
 c.wpS P (bodyPostS P fn c₀ cs R) {tmps:=args++Array.replicate (fn.ntmps-args.size) undef,defers:=[]} (c₀::cs) w):
 CallsDIn Fence.wide n P f args u w R:=by
 refine⟨trivial,λc₀ cs hu _=>?_⟩
 let b:Frame:={(default:Frame)with fn:=f,kind:=.deferred}
 have henter:Frame.enter P f args .deferred=
  b.at {tmps:=args++Array.replicate (fn.ntmps-args.size) undef,defers:=[]} [.code c]:=by
  simp[Frame.enter,Frame.at,hf,hb,b]
 obtain⟨e,_,_,w',hq,G⟩:=h c₀ cs hu b [] Z Z
 rw[<-henter]at G
 cases e with
 | normal=>
   obtain⟨hd,E,rfl,v,hr,hR⟩:=hq
   exact⟨.returned v,E,w',_,hR,comesIn_wide.2 (Steps.trans G (.one step_end)),rfl,rfl,rfl,hd,fn,hf,hr⟩
 | ret=>
   obtain⟨hd,E,rfl,v,hr,hR⟩:=hq
   obtain⟨H,hs⟩:=G
   exact⟨.returned v,E,w',_,hR,comesIn_wide.2 hs,rfl,rfl,rfl,hd,fn,hf,hr⟩
 | panic chain=>
   obtain⟨hd,E,rfl,hR⟩:=hq
   obtain⟨H,hs⟩:=G
   exact⟨.panicked chain,E,w',_,hR,comesIn_wide.2 hs,rfl,rfl,rfl,hd,fn,hf⟩
 |exit id=>exact hq.elim
 |goto l=>exact hq.elim
 | outgrown=>
   obtain⟨E,hR⟩:=hq
   exact⟨.outgrown,E,w',b,hR,G.resolve_left (by simp[b]),rfl,rfl,trivial⟩
def Mf {c:Code}{u:FrameMode}{R:Ending->FrameMode->World->Prop}(hf:P.funcs[f]?=some fn)(hb:fn.body=some c)(h:∀(c₀:Frame) (cs:List Frame),c₀.mode=u->c.wpS P (bodyPostS P fn c₀ cs R) (act (args.length+(fn.ntmps-args.length)) (BP args) []) (c₀::cs) w):CallsDIn Fence.wide n P f args.toArray u w R:=by
 refine no hf hb (λc₀ cs hu=>?_)
 rw[iK]
 exact h c₀ cs hu
section
variable {r:Option Nat}{N:Nat}{e:Nat->Value}{ds:List Deferred}{Q:Exit->Act->World->Prop}{K:Act->World->Prop}
variable {d ty:Nat}{pos:String}{af:Array Edge}{ats:Array TypeId}{g:Option (Nat×Bool)}{v u:Value}{x y:Operand}{t t':TypeId}
def tJ (hx:ev N e x=.func (.func f) #[] lb.toArray)(hk:K (act N e ({target:=.fn (.func f) lb.toArray,args:=#[]}::ds)) w):
 Oper.wpIn (Fw none) n P ⟨none,.defer {callee:=.value x,args:=#[],argTypes:=ats},ty,pos,af,g⟩ (act N e ds) w K Q:=by
 refine⟨λf _=>k5 none f,?_⟩
 rw[sn,Oper.semAt_none,c6]
 have:(execOp (ev N e) (⟨none,.defer {callee:=.value x,args:=#[],argTypes:=ats},ty,pos,af,g⟩:Oper)).run P w=.ok (.defer {target:=.fn (.func f) lb.toArray,args:=#[]}) w:=by
  simp[execOp,resolve,Deferred.ofValue,hx]
 rw[this]
 exact hk
end
section
variable {N:Nat}{e:Nat->Value}{d id ty:Nat}{pos:String}{af:Array Edge}{ats:Array TypeId}{cs:List Frame}{v:Value}{Q:Exit->Act->List Frame->World->Prop}{ops:Array Oper}{rest:List Nat}{op:Op}{dst:Option Tmp}
def Hy (hn:List.range ops.size=0::rest)(h0:ops[0]?=some ⟨some d,.call {callee:=.builtin .recover,args:=#[],argTypes:=ats},ty,pos,af,none⟩)(hr:recoverD cs=none)(h:wpOpsS P ops Q rest (act N (upd e d .nilIface) []) cs w):
 (Code.region id ops false).wpS P Q (act N e []) cs w:=by
 refine wpS_region ?_
 rw[hn]
 have hx:(execOp (act N e []).eval ⟨some d,.call {callee:=.builtin .recover,args:=#[],argTypes:=ats},ty,pos,af,none⟩).run P w=.ok .recover w:=by
  simp[execOp,resolve,invoke,builtin]
 simp only[wpOpsS,h0,Region.wanted,if_true,hx,hr]
 rw[ai]
 exact h
def mD (h0:ops[i]?=some ⟨some d,op,ty,pos,af,none⟩)(hx:(execOp (ev N e) (⟨some d,op,ty,pos,af,none⟩:Oper)).run P w=.ok (.value v) w)(h:wpOpsS P ops Q rest (act N (upd e d v) []) cs w):
 wpOpsS P ops Q (i::rest) (act N e []) cs w:=by
 have hx':(execOp (act N e []).eval (⟨some d,op,ty,pos,af,none⟩:Oper)).run P w=.ok (.value v) w:=by rw[c6];exact hx
 simp only[wpOpsS,h0,Region.wanted,if_true,hx']
 show wpOpsS P ops Q rest ((act N e []).put (some d) v) cs w
 rw[ai]
 exact h
def Hz (h:Q .normal (act N e []) cs w):wpOpsS P ops Q [] (act N e []) cs w:=h
end
def AU {N:Nat}{e:Nat->Value}{d id ty:Nat}{pos:String}{af:Array Edge}{ats:Array TypeId}{cs:List Frame}{Q:Exit->Act->List Frame->World->Prop}{d1 ty1 d2 ty2 d3 ty3 d4 ty4 d5 ty5 d6 ty6:Nat}{pos1 pos2 pos3 pos4 pos5 pos6:String}{af1 af2 af3 af4 af5 af6:Array Edge}{op1 op2 op3 op4 op5 op6:Op}{v1 v2 v3 v4 v5 v6:Value}(hr:recoverD cs=none)(h1:(execOp (ev N (upd e d .nilIface)) (⟨some d1,op1,ty1,pos1,af1,none⟩:Oper)).run P w=.ok (.value v1) w)(h2:(execOp (ev N (upd (upd e d .nilIface) d1 v1)) (⟨some d2,op2,ty2,pos2,af2,none⟩:Oper)).run P w=.ok (.value v2) w)(h3:(execOp (ev N (upd (upd (upd e d .nilIface) d1 v1) d2 v2)) (⟨some d3,op3,ty3,pos3,af3,none⟩:Oper)).run P w=.ok (.value v3) w)(h4:(execOp (ev N (upd (upd (upd (upd e d .nilIface) d1 v1) d2 v2) d3 v3)) (⟨some d4,op4,ty4,pos4,af4,none⟩:Oper)).run P w=.ok (.value v4) w)(h5:(execOp (ev N (upd (upd (upd (upd (upd e d .nilIface) d1 v1) d2 v2) d3 v3) d4 v4)) (⟨some d5,op5,ty5,pos5,af5,none⟩:Oper)).run P w=.ok (.value v5) w)(h6:(execOp (ev N (upd (upd (upd (upd (upd (upd e d .nilIface) d1 v1) d2 v2) d3 v3) d4 v4) d5 v5)) (⟨some d6,op6,ty6,pos6,af6,none⟩:Oper)).run P w=.ok (.value v6) w)(h:Q .normal (act N (upd (upd (upd (upd (upd (upd (upd e d .nilIface) d1 v1) d2 v2) d3 v3) d4 v4) d5 v5) d6 v6) []) cs w):
 (Code.region id #[⟨some d,.call {callee:=.builtin .recover,args:=#[],argTypes:=ats},ty,pos,af,none⟩,⟨some d1,op1,ty1,pos1,af1,none⟩,⟨some d2,op2,ty2,pos2,af2,none⟩,⟨some d3,op3,ty3,pos3,af3,none⟩,⟨some d4,op4,ty4,pos4,af4,none⟩,⟨some d5,op5,ty5,pos5,af5,none⟩,⟨some d6,op6,ty6,pos6,af6,none⟩] false).wpS P Q (act N e []) cs w:=
 Hy (rest:=[1,2,3,4,5,6]) Z Z hr (mD Z h1 (mD Z h2 (mD Z h3 (mD Z h4 (mD Z h5 (mD Z h6 (Hz h)))))))
def AV :
 CallsDIn Fence.wide n prog 178 #[pT b1,pT b2] .returning w (λe u' w'=>(∃v,e=.returned v)/\u'=.returning/\w'=w):=by
 refine Mf (args:=[pT b1,pT b2]) func178 Z (λ_ _ hu=>?_)
 refine wpS_seq ?_
 refine AU (v1:=.tuple #[.nilIface,.bool false]) (v2:=.tuple #[.nilIface,.bool false]) (v3:=.nilIface) (v4:=.bool false) (v5:=.nilIface) (v6:=.bool false) (by simp[recoverD,hu]) ?_ ?_ ?_ ?_ ?_ ?_ ?_
 · have h:(Instr.typeAssert .nilIface 20 117 true).run prog w=.ok (.tuple #[.nilIface,.bool false]) w:=by
    unfold Instr.typeAssert
    simp[run_underlying underlying117]
   simp only[execOp]
   exact qb1 (λr=>Result.andThen r λa w'=>Result.ok (Next.value a) w') h
 · rfl
 · rfl
 · rfl
 · rfl
 · rfl
 refine wpS_of_wp (wpIn_wide (n:=0).1 ?_)
 refine ss (r:=none) ?_
 refine vq (r:=none) ?_
 refine ab (r:=none) (cW (v:=.bool false) Z ?_)
 refine ab (r:=none) (cW (v:=.bool false) Z ?_)
 with_reducible refine mO (r:=none) (d:=12) (s:=11) ?_ ?_ ?_
 exact Z
 exact Z
 with_reducible refine mO (r:=none) (d:=13) (s:=11) ?_ ?_ ?_
 exact Z
 exact Z
 with_reducible refine mO (r:=none) (d:=14) (s:=11) ?_ ?_ ?_
 exact Z
 exact Z
 refine ab (r:=none) (nY (t:=false) (v:=.bool false) Z Z ?_)
 refine pW ?_
 refine mf ?_
 refine lh (r:=none) Z ?_
 refine oh (r:=none) ?_
 exact⟨rfl,.returning,by rw[<-hu],_,xc Z,⟨_,rfl⟩,rfl,rfl⟩
def AW :
 CallsDIn Fence.wide n prog 185 #[pT b1,pT b2] .returning w (λe u' w'=>(∃v,e=.returned v)/\u'=.returning/\w'=w):=by
 refine Mf (args:=[pT b1,pT b2]) func185 Z (λ_ _ hu=>?_)
 refine wpS_seq ?_
 refine AU (v1:=.tuple #[.nilIface,.bool false]) (v2:=.tuple #[.nilIface,.bool false]) (v3:=.nilIface) (v4:=.bool false) (v5:=.nilIface) (v6:=.bool false) (by simp[recoverD,hu]) ?_ ?_ ?_ ?_ ?_ ?_ ?_
 · have h:(Instr.typeAssert .nilIface 20 117 true).run prog w=.ok (.tuple #[.nilIface,.bool false]) w:=by
    unfold Instr.typeAssert
    simp[run_underlying underlying117]
   simp only[execOp]
   exact qb1 (λr=>Result.andThen r λa w'=>Result.ok (Next.value a) w') h
 · rfl
 · rfl
 · rfl
 · rfl
 · rfl
 refine wpS_of_wp (wpIn_wide (n:=0).1 ?_)
 refine ss (r:=none) ?_
 refine vq (r:=none) ?_
 refine ab (r:=none) (cW (v:=.bool false) Z ?_)
 refine ab (r:=none) (cW (v:=.bool false) Z ?_)
 with_reducible refine mO (r:=none) (d:=12) (s:=11) ?_ ?_ ?_
 exact Z
 exact Z
 with_reducible refine mO (r:=none) (d:=13) (s:=11) ?_ ?_ ?_
 exact Z
 exact Z
 with_reducible refine mO (r:=none) (d:=14) (s:=11) ?_ ?_ ?_
 exact Z
 exact Z
 refine ab (r:=none) (nY (t:=false) (v:=.bool false) Z Z ?_)
 refine pW ?_
 refine mf ?_
 refine lh (r:=none) Z ?_
 refine oh (r:=none) ?_
 exact⟨rfl,.returning,by rw[<-hu],_,xc Z,⟨_,rfl⟩,rfl,rfl⟩
abbrev dV (g b1 b2:Nat):Deferred:={target:=.fn (.func g) [Value.pointer (some ⟨b1,0,none⟩),Value.pointer (some ⟨b2,0,none⟩)].toArray,args:=#[]}
def JP (g b1 b2:Nat):Prop:=∀(n:Nat) (w:World),CallsDIn Fence.wide n prog g #[pT b1,pT b2] .returning w (λe u' w'=>(∃v,e=.returned v)/\u'=.returning/\w'=w)
def E3 {c:Code}{R:Ending->World->Prop}(hf:P.funcs[f]?=some fn)(hb:fn.body=some c)(h:c.wpIn (Fw none) 0 P (bodyPostDIn Fence.wide 0 P fn R) (act (args.length+(fn.ntmps-args.length)) (BP args) []) w):Calls P f args.toArray w R:=by
 refine callsIn_wide.1 (callsIn_of_wp_defers (n:=0) hf hb trivial ?_)
 rw[iK]
 exact h
def AX {N:Nat}{e:Nat->Value}{R:Value->World->Prop}{v:Value}(hg:Enters prog g)(hc:JP g b1 b2)(hx:a8 w w')(hr:(results fn (act N e [dV g b1 b2]).tmps).run prog w'=.ok v w')(hR:R v w'):
 bodyPostDIn Fence.wide 0 prog fn (aH w R) .ret (act N e [dV g b1 b2]) w':=by
 refine leavesIn_cons (f:=g) (args:=#[pT b1,pT b2]) Vk (by simp[Fence.wide]) ?_ (λ_ _=>trivial) ?_
 · have h:=hg #[pT b1,pT b2] w'
   simpa[invoke]using h
 · refine CallsDIn.mono (hc _ _) ?_
   rintro _ _ _ ⟨⟨E,rfl⟩,rfl,rfl⟩
   exact⟨v,hr,hx,hR⟩
end
section
set_option maxRecDepth 100000
open Go Go.Eng Go.RowKit Tryz
attribute [local irreducible] wpListIn Code.wpIn Oper.wpIn Exit.then Exit.inBlock Exit.noGoto
set_option maxHeartbeats 40000000
def JQ (x:R×R):Prop:=∃a b c d,x.1=qR a b/\x.2=qR c d/\Q9 a b/\Q9 c d/\a*d<=c*b
def hH (l:List (R×R)):List Value:=l.flatMap λx=>[S x.1.1,S x.1.2,S x.2.1,S x.2.2]
def mc (l:List (R×R))(i:Nat):R×R:=l.getD i (([],[]),([],[]))
def px:∀{l:List (R×R)} {i:Nat},i<l.length->(hH l)[i*4]?=some (S (mc l i).1.1)/\(hH l)[i*4+1]?=some (S (mc l i).1.2)/\(hH l)[i*4+2]?=some (S (mc l i).2.1)/\(hH l)[i*4+3]?=some (S (mc l i).2.2)
 |a::t,0,_=>by simp[hH,mc]
 | a::t,i+1,h=>by
   have ih:=px (l:=t) (i:=i) VJ
   rw[show(i+1)*4=i*4+4 by omega,show i*4+4+1=i*4+1+4 by omega,show i*4+4+2=i*4+2+4 by omega,show i*4+4+3=i*4+3+4 by omega]
   simpa[hH,mc]using ih
def Dr {l:List (R×R)}(h:Rw w lo A (hH l))(hi:i<l.length):
 ∃b o,A=some ⟨b,o,none⟩/\∀j u,[S (mc l i).1.1,S (mc l i).1.2,S (mc l i).2.1,S (mc l i).2.2][j]?=some u->w.cell? ⟨b,o+i*4+j,none⟩=some u:=by
 obtain⟨h1,h2,W,kk⟩:=px hi
 obtain⟨b,o,hA,O⟩:=h.cells _ _ h1
 obtain⟨_,_,hA2,H⟩:=h.cells _ _ h2
 obtain⟨_,_,hA3,E⟩:=h.cells _ _ W
 obtain⟨_,_,hA4,G⟩:=h.cells _ _ kk
 rw[hA]at hA2 hA3 hA4;cases hA2;cases hA3;cases hA4
 refine⟨b,o,hA,λj u hu=>?_⟩
 match j,hu with
 |0,hu=>simp at hu;subst hu;simpa using O
 |1,hu=>simp at hu;subst hu;simpa[Nat.add_assoc]using H
 |2,hu=>simp at hu;subst hu;simpa[Nat.add_assoc]using E
 |3,hu=>simp at hu;subst hu;simpa[Nat.add_assoc]using G
def wG {l:List (R×R)}(h:i<l.length):mc l i∈l:=by unfold mc;simp[h]
def Kx (e:(l,m)=qR a b)(h:Q9 a b):ew (l,m)=true:=e▸h.ok
def j1 :
 CL 180 #[.bool true] w (aH w λv w'=>v=.tuple #[]):=by
 refine aC func180 Z (I ?_);exact Ip (xc Z) (aa4 _) Z
def m5 {x:R×R}(hx:JQ x)(ht:Tb w):
 CL 183 #[.agg #[S x.1.1,S x.1.2,S x.2.1,S x.2.2]] w (aH w λv w'=>v=.bool true):=by
 obtain⟨a,b,c,d,O,H,W,kk,A2⟩:=hx;refine aC func183 Z (I ?_);refine bx (λ_ Ab G=>?_);have E:=Ab.2;refine I ?_;refine cl pH (cB (dN _ _ _ (ht.ext E)) (Kx O W)) ?_;rintro _ _ kd rfl;have⟨G,E⟩:=bn kd.2 G E;refine I ?_;refine cl pH (cB (dN _ _ _ (ht.ext E)) (Kx H kk)) ?_;rintro _ _ Ad rfl;have⟨G,E⟩:=bn Ad.2 G E;refine I ?_;refine cl ky (iS O H W kk (ht.ext E)) ?_;rintro _ _ A1 rfl;have E:=xt E A1.2;refine I ?_;exact an (t:=2) (v:=.bool (decide ((aw (a*d) (c*b))<=0))) Z E (qb1 Value.bool (qa1 (bw.2 A2))) Z
def u9 {x:R×R}(hx:JQ x)(ht:Tb w):
 CL 182 #[.agg #[S x.1.1,S x.1.2,S x.2.1,S x.2.2]] w (aH w λv w'=>v=.bool false):=by
 refine aC func182 Z (I ?_);refine bx (λ_ O G=>?_);have E:=O.2;refine I ?_;refine ab (aX (cs:=[S x.1.1,S x.1.2,S x.2.1,S x.2.2]) (b:=w.heap.size) (o:=0) bp Z bc Z (aa0 G (i:=0) Z) ?_);refine cl yu (m5 hx (ht.ext E)) ?_;rintro _ _ H rfl;have E:=xt E H.2;refine I ?_;exact an (t:=2) (v:=.bool false) Z E Z Z
def vd {x:R×R}(hx:JQ x)(ht:Tb w):
 CL 186 #[.agg #[S x.1.1,S x.1.2,S x.2.1,S x.2.2]] w (aH w λv w'=>v=.bool false):=by
 refine aC func186 Z (I ?_);refine bx (λ_ O G=>?_);have E:=O.2;refine I ?_;refine ab (aX (cs:=[S x.1.1,S x.1.2,S x.2.1,S x.2.2]) (b:=w.heap.size) (o:=0) bp Z bc Z (aa0 G (i:=0) Z) ?_);refine cl yu (m5 hx (ht.ext E)) ?_;rintro _ _ H rfl;have E:=xt E H.2;refine I ?_;exact an (t:=2) (v:=.bool false) Z E Z Z
def AY {l:List (R×R)}(hr:Rw w lo A (hH l))(hn:l.length=n)(hb:n<=1000)(hg:Enters prog g)(hf:∀i<n,∀W,a8 w W->CL g #[.agg #[S (mc l i).1.1,S (mc l i).1.2,S (mc l i).2.1,S (mc l i).2.2]] W (aH W λv _=>v=.bool false)):
 CL 205 #[.slice A n cp,.func (.func g) #[] #[]] w (aH w λv w'=>v=.int .i64 (-1)):=by
 refine aC func205 Z (I ?_);have G:=aa4 w;refine cM [(4,5),(8,18)] (λO e W=>∃i:Nat,(n-i=O)/\(e 8=.int .i64 i)/\(i<=n)/\(a8 w W)) (n-0) ⟨0,rfl,rfl,(qa7 _),G⟩ ?_;rintro _ _ _ ⟨i,rfl,kd,hi,E⟩;have A1:=bz E;by_cases hl:i<n;obtain⟨bk,o,hA,H⟩:=Dr (hr.ext E) (i:=i) U;refine I ?_;refine ab (am (i:=i) (oo:=o+i*4) Iu bc Z hA Z U Z ?_);refine ab (aX (cs:=[S (mc l i).1.1,S (mc l i).1.2,S (mc l i).2.1,S (mc l i).2.2]) (b:=bk) (o:=o+i*4) bp Z bc Z H ?_);refine ab (vS (vs:=[.agg #[S (mc l i).1.1,S (mc l i).1.2,S (mc l i).2.1,S (mc l i).2.2]]) (lb:=[]) hg Z Z (hf i U _ E) ?_);rintro _ _ kk rfl;have E:=xt E kk.2;refine I ?_;refine ab (bb (a:=(i:Int)) (b:=1) (c:=((i+1:Nat):Int)) kd Z JT U ?_);refine I ?_;exact bQ ⟨i+1,rfl,rfl,U,E⟩;refine I ?_;exact an (t:=4) (v:=.int .i64 (-1)) Z E Z Z
def m6 {l:List (R×R)}(hr:Rw w lo A (hH l))(hn:l.length=n)(hb:n<=1000)(hg:Enters prog g)(hf:∀i<n,∀W,a8 w W->CL g #[.agg #[S (mc l i).1.1,S (mc l i).1.2,S (mc l i).2.1,S (mc l i).2.2]] W (aH W λv _=>v=.bool false)):
 CL 181 #[.slice A n cp,.func (.func g) #[] #[]] w (aH w λv w'=>v=.bool false):=by
 refine aC func181 Z (I ?_);refine cl F4 (AY (hr.ext (aa4 _)) hn hb hg (λi hi W e=>hf i hi W (xt (aa4 _) e))) ?_;rintro _ _ G rfl;have E:=G.2;refine I ?_;exact an (t:=4) (v:=.bool false) Z E Z Z
def tK {l:List (R×R)}{x:R×R}(hg:Enters prog gf)(hr:Rw w lo A (hH l))(hn:l.length=n)(hb:n<=1000)(hv:∀x∈l,JQ x)(hc:∀W,a8 w W->CL gf lb.toArray W (aH W λv _=>v=.agg #[S x.1.1,S x.1.2,S x.2.1,S x.2.2]))(ht:Tb w):
 CL 137 #[.func (.func gf) #[] lb.toArray,.slice A n cp] w (aH w λv w'=>v=.tuple #[.agg #[S x.1.1,S x.1.2,S x.2.1,S x.2.2],.int .i64 0]):=by
 refine E3 func137 Z (I ?_);refine al aL (λO Am H=>?_);have E:=Am.2;refine al Em (λ_ Ad G=>?_);have⟨H,E⟩:=bn Ad.2 H E;refine I ?_;refine ab (bE (vf:=[]) (vc:=[pT w.heap.size,pT O.heap.size]) Z Z ?_);refine ab (tJ (lb:=[pT w.heap.size,pT O.heap.size]) Z ?_);refine I ?_;refine clb yv (hc:=m6 (hr.ext E) hn hb FZ (λi hi W e=>u9 (hv _ (wG U)) ((ht.ext E).ext e))) (hk:=?_);rintro _ _ A2 rfl;have⟨H,G,E⟩:=aP A2.2 H G E;refine I ?_;refine cl uu j1 ?_;rintro _ _ A1 rfl;have⟨H,G,E⟩:=aP A1.2 H G E;refine I ?_;refine ab (vS (f:=gf) (lb:=lb) (vs:=[]) hg Z Z (hc _ E) ?_);rintro _ _ kd rfl;have⟨H,G,E⟩:=aP kd.2 H G E;refine SA H (λ_ Af kk=>?_);have⟨G,E,_⟩:=dE Af G E;refine SO G (λ_ Ab Ao=>?_);have⟨kk,E,_⟩:=dE Ab kk E;refine I ?_;refine AX (b1:=w.heap.size) (b2:=O.heap.size) (v:=.tuple #[.agg #[S x.1.1,S x.1.2,S x.2.1,S x.2.2],.int .i64 0]) FY (λ_ _=>AV) E (cJ (r1:=.cell 4 30) (r2:=.cell 5 31) Z ?_ ?_) Z;refine ah (t:=4) (cs:=[S x.1.1,S x.1.2,S x.2.1,S x.2.2]) (b:=w.heap.size) (o:=0) bp Z bc ?_ ?_;exact Z;exact aa0 kk (i:=0) Z;refine du (t:=5) (b:=O.heap.size) (o:=0) L8 Z ?_ ?_;exact Z;exact aa8 Ao Z
def tL {l:List (R×R)}{x:R}(hg:Enters prog gf)(hr:Rw w lo A (hH l))(hn:l.length=n)(hb:n<=1000)(hv:∀x∈l,JQ x)(hc:∀W,a8 w W->CL gf lb.toArray W (aH W λv _=>v=.agg #[S x.1,S x.2]))(ht:Tb w):
 CL 142 #[.func (.func gf) #[] lb.toArray,.slice A n cp] w (aH w λv w'=>v=.tuple #[.agg #[S x.1,S x.2],.int .i64 0]):=by
 refine E3 func142 Z (I ?_);refine al bi (λO Am H=>?_);have E:=Am.2;refine al Em (λ_ Ad G=>?_);have⟨H,E⟩:=bn Ad.2 H E;refine I ?_;refine ab (bE (vf:=[]) (vc:=[pT w.heap.size,pT O.heap.size]) Z Z ?_);refine ab (tJ (lb:=[pT w.heap.size,pT O.heap.size]) Z ?_);refine I ?_;refine clb yv (hc:=m6 (hr.ext E) hn hb F3 (λi hi W e=>vd (hv _ (wG U)) ((ht.ext E).ext e))) (hk:=?_);rintro _ _ A2 rfl;have⟨H,G,E⟩:=aP A2.2 H G E;refine I ?_;refine cl uu j1 ?_;rintro _ _ A1 rfl;have⟨H,G,E⟩:=aP A1.2 H G E;refine I ?_;refine ab (vS (f:=gf) (lb:=lb) (vs:=[]) hg Z Z (hc _ E) ?_);rintro _ _ kd rfl;have⟨H,G,E⟩:=aP kd.2 H G E;refine SA H (λ_ Af kk=>?_);have⟨G,E,_⟩:=dE Af G E;refine SO G (λ_ Ab Ao=>?_);have⟨kk,E,_⟩:=dE Ab kk E;refine I ?_;refine AX (b1:=w.heap.size) (b2:=O.heap.size) (v:=.tuple #[.agg #[S x.1,S x.2],.int .i64 0]) F2 (λ_ _=>AW) E (cJ (r1:=.cell 4 23) (r2:=.cell 5 31) Z ?_ ?_) Z;refine ah (t:=4) (cs:=[S x.1,S x.2]) (b:=w.heap.size) (o:=0) j8 Z dv ?_ ?_;exact Z;exact aa0 kk (i:=0) Z;refine du (t:=5) (b:=O.heap.size) (o:=0) L8 Z ?_ ?_;exact Z;exact aa8 Ao Z
def rV :
 CL 139 #[.agg #[S l,S m],.int .i64 0] w (aH w λv w'=>v=.agg #[S l,S m]):=by
 refine aC func139 Z (I ?_);refine bx (λW A2 G=>?_);have E:=A2.2;refine al bi (λ_ kk H=>?_);have⟨G,E⟩:=bn kk.2 G E;refine I ?_;refine cl uu j1 ?_;rintro _ _ A1 rfl;have⟨G,H,E⟩:=aP A1.2 G H E;refine I ?_;refine SA H (λ_ kd O=>?_);have⟨G,E,_⟩:=dE kd G E;refine I ?_;refine aK (v:=.agg #[S l,S m]) (cn  rfl ?_) E Z;refine ah (t:=4) (cs:=[S l,S m]) (b:=W.heap.size) (o:=0) j8 Z dv ?_ ?_;exact Z;exact aa0 O (i:=0) Z
end
end Go.Proofs.YtgcfffdpcefifaaGreatDoor
