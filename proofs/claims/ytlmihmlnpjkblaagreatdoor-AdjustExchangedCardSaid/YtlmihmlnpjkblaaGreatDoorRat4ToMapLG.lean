/- Part of the proof of a statement about an adjustment. -/
import Derived.Test.YtlmihmlnpjkblaaGreatDoorLaRToSp1G
import Derived.DeepKeys
set_option linter.all false
namespace Go.Proofs.YtlmihmlnpjkblaaGreatDoor
open Go Go.Eng Go.RowKit Tryz
variable {a b c d n1 d1 n2 d2 y N D la lb:Int}{n lo t pl f k:Nat}{A:Option Addr}{w:World}
section
attribute [local irreducible] wpListIn Code.wpIn Oper.wpIn Exit.then Exit.inBlock Exit.noGoto
set_option maxHeartbeats 40000000
def Hp (x y:Int):aQ x y=-aQ y x:=by
 unfold aQ;repeat' split
 all_goals first|rfl|omega
def A3 (h1:a<b↔c<d)(h2:a=b↔c=d):aQ a b=aQ c d:=by
 unfold aQ
 by_cases h:a<b
 · rw[if_pos h,if_pos (h1.1 h)]
 · rw[if_neg h,if_neg (λe=>h (h1.2 e))]
   by_cases h':a=b
   · rw[if_pos h',if_pos (h2.1 h')]
   · rw[if_neg h',if_neg (λe=>h' (h2.2 e))]
def LD (h:a-b=c-d):aQ a b=aQ c d:=A3 U U
def A4 (h1:0<d1)(h2:0<d2)(h:n1/d1<n2/d2):n1*d2<n2*d1:=by
 have e1:=Int.lt_ediv_add_one_mul_self n1 h1
 have e2:=Int.ediv_mul_le n2 (show d2≠0 by omega)
 have H:(n1/d1+1)*d1<=(n2/d2)*d1:=Int.mul_le_mul_of_nonneg_right U U
 have E:n1*d2<(n2/d2)*d1*d2:=Int.mul_lt_mul_of_pos_right U h2
 have O:(n2/d2)*d2*d1<=n2*d1:=Int.mul_le_mul_of_nonneg_right e2 U
 have G:(n2/d2)*d1*d2=(n2/d2)*d2*d1:=by rw[Int.mul_assoc,Int.mul_comm d1 d2,<-Int.mul_assoc]
 omega
def Xy (h1:0<d1)(h2:0<d2)(h:¬aQ (n1/d1) (n2/d2)=0):aQ (n1/d1) (n2/d2)=aQ (n1*d2) (n2*d1):=by
 have E:n1/d1≠n2/d2:=λe=>h (jy e)
 rcases Int.lt_or_gt_of_ne E with hl|hl
 · rw[gd hl,gd (A4 h1 h2 hl)]
 · rw[eT hl,eT (A4 h2 h1 hl)]
def Hq {x:Int}(h:aQ x y=0):x=y:=by
 unfold aQ at h
 split at h
 · omega
 · split at h
   · assumption
   · omega
def FD (h:aQ (n1/d1) (n2/d2)=0):aQ (n1*d2) (n2*d1)=aQ (n1%d1*d2) (n2%d2*d1):=by
 have e:=Hq h
 refine LD ?_
 have a1:=Int.mul_ediv_add_emod n1 d1
 have E:=Int.mul_ediv_add_emod n2 d2
 generalize n1/d1=p at *;generalize n2/d2=q at *;generalize n1%d1=r at *;generalize n2%d2=s at *
 subst e;subst a1;subst E
 rw[Int.add_mul,Int.add_mul,show d1*p*d2=d2*p*d1 by rw[Int.mul_comm d1 p,Int.mul_comm d2 p,Int.mul_assoc,Int.mul_comm d1 d2,<-Int.mul_assoc]]
 omega
def Ps {sg x:Int}(h:sg=1\/sg=-1):In64 (sg*aQ x y):=by
 have h1:aQ x y<=1/\-1<=aQ x y:=by unfold aQ;split;omega;split <;>omega
 unfold In64;rcases h with rfl|rfl <;>omega
section
variable {N1 D1 N2 D2 sg:Int}(hi:aQ (N1*D2) (N2*D1)=sg*aQ (n1*d2) (n2*d1))(h1:0<d1)(h2:0<d2)
include hi h1 h2
theorem Xz (h:¬aQ (n1/d1) (n2/d2)=0):sg*aQ (n1/d1) (n2/d2)=aQ (N1*D2) (N2*D1):=by rw[hi,Xy h1 h2 h]
theorem XC (h:aQ (n1/d1) (n2/d2)=0)(hr:ae (n1%d1)=[48])(hs:ae (n2%d2)=[48]):0=aQ (N1*D2) (N2*D1):=by
 rw[hi,FD h,dT.1 hr,dT.1 hs];simp[aQ]
theorem XD (h:aQ (n1/d1) (n2/d2)=0)(hr:ae (n1%d1)=[48])(hs:¬ae (n2%d2)=[48]):-sg=aQ (N1*D2) (N2*D1):=by
 have E:n2%d2≠0:=λe=>hs (dT.2 e)
 have h3:=Int.emod_nonneg n2 (show d2≠0 by omega)
 rw[hi,FD h,dT.1 hr,gd (by rw[Int.zero_mul];exact Int.mul_pos U h1)];omega
theorem XE (h:aQ (n1/d1) (n2/d2)=0)(hr:¬ae (n1%d1)=[48])(hs:ae (n2%d2)=[48]):sg=aQ (N1*D2) (N2*D1):=by
 have E:n1%d1≠0:=λe=>hr (dT.2 e)
 have h3:=Int.emod_nonneg n1 (show d1≠0 by omega)
 rw[hi,FD h,dT.1 hs,eT (by rw[Int.zero_mul];exact Int.mul_pos U h2)];omega
theorem LE (h:aQ (n1/d1) (n2/d2)=0)(hr:¬ae (n1%d1)=[48])(hs:¬ae (n2%d2)=[48]):
 aQ (N1*D2) (N2*D1)=-sg*aQ (d1*(n2%d2)) (d2*(n1%d1))/\0<n1%d1/\0<n2%d2:=by
 have G:n1%d1≠0:=λe=>hr (dT.2 e)
 have h3:=Int.emod_nonneg n1 (show d1≠0 by omega)
 have h4:n2%d2≠0:=λe=>hs (dT.2 e)
 have E:=Int.emod_nonneg n2 (show d2≠0 by omega)
 refine⟨?_,by omega,by omega⟩
 rw[hi,FD h,Hp (d1*_),Int.mul_comm d1,Int.mul_comm d2,Int.neg_mul_neg]
end
def LF {n:Int}(h:Fz d)(hd:0<d):Fz (n%d):=by
 have h1:=Int.emod_nonneg n (show d≠0 by omega)
 have h2:=Int.emod_lt_of_pos n hd
 unfold Fz at *;omega
set_option maxRecDepth 100000 in
theorem LG {N1 D1 N2 D2:Int}(o1:bN (ae N1,ae D1)=true)(o2:bN (ae N2,ae D2)=true)(fN1:Fz N1)(fD1:Fz D1)(fN2:Fz N2)(fD2:Fz D2)(ht:Tb w):
 CL 26 #[.agg #[S (ae N1),S (ae D1)],.agg #[S (ae N2),S (ae D2)]] w (aH w λv w'=>v=.int .i64 (aQ (N1*D2) (N2*D1))):=by
 have P1:0<D1:=by have:=c7 o1;rwa [aG]at this
 have P2:0<D2:=by have:=c7 o2;rwa [aG]at this
 refine aC func26 rfl ?_;refine I ?_;refine bx (λAs fC ny=>?_);have Ax:=fC.2;refine bx (λ_ h9 Az=>?_);have⟨ny,Ax⟩:=bw h9.2 ny Ax;refine I ?_;refine cl tj (eE (ae N1) (ae D1) _ (ht.ext Ax)) ?_;rintro _ _ hM rfl;have⟨ny,Az,Ax⟩:=cD hM.2 ny Az Ax;refine I ?_;refine cl tj (eE (ae N2) (ae D2) _ (ht.ext Ax)) ?_;rintro _ _ bp rfl;have⟨ny,Az,Ax⟩:=cD bp.2 ny Az Ax;refine I ?_;refine wpIn_label (fm ?_);refine W4 [(4,12),(21,73)] (λe3 e W=>∃n1:Int,∃d1:Int,∃n2:Int,∃d2:Int,∃sg:Int,(d1.toNat=e3)/\(e 5=.int .i64 sg)/\(0<d1)/\(0<d2)/\(Fz n1)/\(Fz d1)/\(Fz n2)/\(Fz d2)/\(sg=1\/sg=-1)/\(aQ (N1*D2) (N2*D1)=sg*aQ (n1*d2) (n2*d1))/\(aN w W)/\(ar W (w.heap.size) 33 #[S (ae n1),S (ae d1)])/\(ar W (As.heap.size) 33 #[S (ae n2),S (ae d2)])) ((D1).toNat) ⟨N1,D1,N2,D2,1,rfl,rfl,P1,P2,fN1,fD1,fN2,fD2,(Or.inl rfl),(Int.one_mul _).symm,Ax,ny,Az⟩ ?_;rintro _ _ _ ⟨n1,d1,n2,d2,sg,rfl,hX,Av,p2,EW,FR,E1,E9,h7,hi,E,hB1,hB2⟩;refine I ?_;refine cl zj (no (Y:=.tuple #[S (ae (n1/d1)),S (ae (n1%d1)),.int .i64 0]) (kf _ _ _ (ht.ext E)) (qb2 vL (uJ EW FR (Int.ne_of_gt Av) (kz EW Av)))) ?_;rintro _ _ g3 rfl;have⟨hB1,hB2,E⟩:=cD g3.2 hB1 hB2 E;refine I ?_
 refine cl zj (no (Y:=.tuple #[S (ae (n2/d2)),S (ae (n2%d2)),.int .i64 0]) (kf _ _ _ (ht.ext E)) (qb2 vL (uJ E1 E9 (Int.ne_of_gt p2) (kz E1 p2)))) ?_;rintro _ _ f4 rfl;have⟨hB1,hB2,E⟩:=cD f4.2 hB1 hB2 E;refine I ?_;refine cl xo (no (Y:=.int .i64 (aQ (n1/d1) (n2/d2))) (pg _ _ _) (qb2 (Value.int .i64) (K0 (kz EW Av) (kz E1 p2)))) ?_;rintro _ H3 c9 rfl;have⟨hB1,hB2,E⟩:=cD c9.2 hB1 hB2 E;refine I ?_;by_cases ns:(aQ (n1/d1) (n2/d2))=0;refine I ?_;by_cases np:(ae (n1%d1))=([48]);refine I ?_;refine rU (b:=[48]) ?_;refine I ?_;refine rU (b:=[48]) ?_;refine I ?_;by_cases wr:(ae (n2%d2))=([48]);refine I ?_;exact am (t:=4) (v:=.int .i64 0) rfl E (qb2 (Value.int .i64) (XC hi Av p2 ns np wr)) rfl;refine I ?_;refine rU (b:=[48]) ?_;refine I ?_;refine aa (zg (a:=sg) rfl (by unfold In64;omega) ?_);refine I ?_;exact am (t:=4) (v:=.int .i64 (-sg)) rfl E (qb2 (Value.int .i64) (XD hi Av p2 ns np wr)) rfl;refine I ?_;refine rU (b:=[48]) ?_;refine I ?_;refine rU (b:=[48]) ?_;refine I ?_;refine rU (b:=[48]) ?_;refine I ?_;by_cases p6:(ae (n2%d2))=([48]);refine I ?_;exact am (t:=4) (v:=.int .i64 sg) rfl E (qb2 (Value.int .i64) (XE hi Av p2 ns np p6)) rfl;refine I ?_;have B0:=ac3 H3
 refine IS li 12 (λe0 ls e W=>(∀t,Gk [64,65,66,67,68,69,70,71,72,73] t=false->e t=e0 t)/\(aN w W)/\(H3.heap.size<=W.heap.size)/\(ls 0=true->e 64=.pointer (some ⟨w.heap.size,1,none⟩))/\(ls 1=true->e 65=S (ae d1))/\(ls 2=true->e 66=S (ae (n1%d1)))/\(ls 3=true->e 67=.agg #[S (ae d1),S (ae (n1%d1))])/\(ls 4=true->e 68=.pointer (some ⟨As.heap.size,1,none⟩))/\(ls 5=true->e 69=S (ae d2))/\(ls 6=true->e 70=S (ae (n2%d2)))/\(ls 7=true->e 71=.agg #[S (ae d2),S (ae (n2%d2))])/\(ls 8=true->e 72=.int .i64 sg)/\(ls 9=true->e 73=.int .i64 (-sg))/\(ls 10=false->ar W (w.heap.size) 33 #[S (ae n1),S (ae d1)])/\(ls 10=true->ar W (w.heap.size) 33 #[S (ae d1),S (ae (n1%d1))])/\(ls 11=false->ar W (As.heap.size) 33 #[S (ae n2),S (ae d2)])/\(ls 11=true->ar W (As.heap.size) 33 #[S (ae d2),S (ae (n2%d2))])) ⟨(λ_ _=>rfl),(xt E B0),(bz B0),(ff rfl),(ff rfl),(ff rfl),(ff rfl),(ff rfl),(ff rfl),(ff rfl),(ff rfl),(ff rfl),(ff rfl),(λ_=>(be B0 hB1)),(λh=>ff rfl h),(λ_=>(be B0 hB2)),(λh=>ff rfl h)⟩ (by kernel_rfl) (by kernel_rfl) ?_ ?_;refine⟨λhE KC CG cT B2 E6 _=>?_,?_⟩;obtain⟨Rm,E,Aw,O,A0,Af,A2,Ab,Ao,H,Ap,G,Am,Aq,Ar,A1,nm⟩:=cT;obtain⟨hE,rfl⟩:=aU Rm;have hW:CG 1=false:=(aT B2 (i:=0) (j:=1) rfl E6)
 have W1:CG 10=false:=(aT B2 (i:=0) (j:=10) rfl E6);have H4:CG 11=false:=(aT B2 (i:=0) (j:=11) rfl E6);have fz:ar KC (w.heap.size) 33 #[S (ae n1),S (ae d1)]:=Aq W1;have bv:ar KC (As.heap.size) 33 #[S (ae n2),S (ae d2)]:=A1 H4;refine I ?_;exact⟨rfl,_,(ax _ _ _ _ _).symm,(di rfl Rm),E,U,(λ_=>rfl),A0,Af,A2,Ab,Ao,H,Ap,G,Am,(λ_=>fz),(λcw=>ff W1 cw),(λ_=>bv),(λeB=>ff H4 eB)⟩;refine⟨λL1 Ix Cr ed Q0 L3 fW=>?_,?_⟩;obtain⟨No,E,Aw,O,A0,Af,A2,Ab,Ao,H,Ap,G,Am,Aq,Ar,A1,nm⟩:=ed;obtain⟨L1,rfl⟩:=aU No;have e4:Cr 0=true:=(fW 0 rfl);have K2:Cr 10=false:=(aT Q0 (i:=1) (j:=10) rfl L3);have ac:Cr 11=false:=(aT Q0 (i:=1) (j:=11) rfl L3);have hR:L1 64=.pointer (some ⟨w.heap.size,1,none⟩):=O e4;have h6:ar Ix (w.heap.size) 33 #[S (ae n1),S (ae d1)]:=Aq K2;have er:ar Ix (As.heap.size) 33 #[S (ae n2),S (ae d2)]:=A1 ac;refine I ?_;exact⟨rfl,_,(ax _ _ _ _ _).symm,(di rfl No),E,U,O,(λ_=>rfl),Af,A2,Ab,Ao,H,Ap,G,Am,(λ_=>h6),(λfi=>ff K2 fi),(λ_=>er),(λeP=>ff ac eP)⟩;refine⟨λch ad a6 gv an La _=>?_,?_⟩;obtain⟨V0,E,Aw,O,A0,Af,A2,Ab,Ao,H,Ap,G,Am,Aq,Ar,A1,nm⟩:=gv;obtain⟨ch,rfl⟩:=aU V0
 have L4:a6 10=false:=(aT an (i:=2) (j:=10) rfl La);have VW:a6 11=false:=(aT an (i:=2) (j:=11) rfl La);have cv:ar ad (w.heap.size) 33 #[S (ae n1),S (ae d1)]:=Aq L4;have cc:ar ad (As.heap.size) 33 #[S (ae n2),S (ae d2)]:=A1 VW;refine I ?_;exact⟨rfl,_,(ax _ _ _ _ _).symm,(di rfl V0),E,U,O,A0,(λ_=>rfl),A2,Ab,Ao,H,Ap,G,Am,(λ_=>cv),(λg1=>ff L4 g1),(λ_=>cc),(λhI=>ff VW hI)⟩;refine⟨λE7 P0 B1 bd a0 bY a9=>?_,?_⟩;obtain⟨L2,E,Aw,O,A0,Af,A2,Ab,Ao,H,Ap,G,Am,Aq,Ar,A1,nm⟩:=bd;obtain⟨E7,rfl⟩:=aU L2;have hL:B1 2=true:=(a9 2 rfl);have gn:B1 1=true:=(a9 1 rfl);have Wa:B1 10=false:=(aT a0 (i:=3) (j:=10) rfl bY);have KY:B1 11=false:=(aT a0 (i:=3) (j:=11) rfl bY);have d5:E7 65=S (ae d1):=A0 gn;have g4:E7 66=S (ae (n1%d1)):=Af hL;have fa:ar P0 (w.heap.size) 33 #[S (ae n1),S (ae d1)]:=Aq Wa;have f9:ar P0 (As.heap.size) 33 #[S (ae n2),S (ae d2)]:=A1 KY;refine aa (b7 (vs:=[(0,S (ae d1)),(1,S (ae (n1%d1)))]) (cells:=#[S (ae d1),S (ae (n1%d1))]) (pl:=[(0,1),(1,1)]) iT aZ (by kernel_rfl) (db d5 (db g4 rfl)) (by kernel_rfl) ?_);refine I ?_
 exact⟨rfl,_,(ax _ _ _ _ _).symm,(di rfl L2),E,U,O,A0,Af,(λ_=>rfl),Ab,Ao,H,Ap,G,Am,(λ_=>fa),(λfG=>ff Wa fG),(λ_=>f9),(λfQ=>ff KY fQ)⟩;refine⟨λeD hG W3 cp S0 Lk _=>?_,?_⟩;obtain⟨H2,E,Aw,O,A0,Af,A2,Ab,Ao,H,Ap,G,Am,Aq,Ar,A1,nm⟩:=cp;obtain⟨eD,rfl⟩:=aU H2;have hT:W3 5=false:=(aT S0 (i:=4) (j:=5) rfl Lk);have KM:W3 11=false:=(aT S0 (i:=4) (j:=11) rfl Lk);have fN:ar hG (As.heap.size) 33 #[S (ae n2),S (ae d2)]:=A1 KM;refine I ?_;exact⟨rfl,_,(ax _ _ _ _ _).symm,(di rfl H2),E,U,O,A0,Af,A2,(λ_=>rfl),Ao,H,Ap,G,Am,(λarr=>Aq arr),(λco=>Ar co),(λ_=>fN),(λd0=>ff KM d0)⟩;refine⟨λG0 d6 S9 g0 fc h8 fy=>?_,?_⟩;obtain⟨bW,E,Aw,O,A0,Af,A2,Ab,Ao,H,Ap,G,Am,Aq,Ar,A1,nm⟩:=g0;obtain⟨G0,rfl⟩:=aU bW;have cz:S9 4=true:=(fy 4 rfl);have W0:S9 11=false:=(aT fc (i:=5) (j:=11) rfl h8);have hP:G0 68=.pointer (some ⟨As.heap.size,1,none⟩):=Ab cz;have hA:ar d6 (As.heap.size) 33 #[S (ae n2),S (ae d2)]:=A1 W0;refine I ?_;exact⟨rfl,_,(ax _ _ _ _ _).symm,(di rfl bW),E,U,O,A0,Af,A2,Ab,(λ_=>rfl),H,Ap,G,Am,(λfB=>Aq fB),(λe5=>Ar e5),(λ_=>hA),(λhB=>ff W0 hB)⟩;refine⟨λcq dC eq g2 fX hK _=>?_,?_⟩
 obtain⟨a4,E,Aw,O,A0,Af,A2,Ab,Ao,H,Ap,G,Am,Aq,Ar,A1,nm⟩:=g2;obtain⟨cq,rfl⟩:=aU a4;have a2:eq 11=false:=(aT fX (i:=6) (j:=11) rfl hK);have eS:ar dC (As.heap.size) 33 #[S (ae n2),S (ae d2)]:=A1 a2;refine I ?_;exact⟨rfl,_,(ax _ _ _ _ _).symm,(di rfl a4),E,U,O,A0,Af,A2,Ab,Ao,(λ_=>rfl),Ap,G,Am,(λcV=>Aq cV),(λcb=>Ar cb),(λ_=>eS),(λgW=>ff a2 gW)⟩;refine⟨λES fx CY cx ce hC X2=>?_,?_⟩;obtain⟨a8,E,Aw,O,A0,Af,A2,Ab,Ao,H,Ap,G,Am,Aq,Ar,A1,nm⟩:=cx;obtain⟨ES,rfl⟩:=aU a8;have f0:CY 6=true:=(X2 6 rfl);have d3:CY 5=true:=(X2 5 rfl);have bZ:CY 11=false:=(aT ce (i:=7) (j:=11) rfl hC);have gr:ES 69=S (ae d2):=Ao d3;have d4:ES 70=S (ae (n2%d2)):=H f0;have fb:ar fx (As.heap.size) 33 #[S (ae n2),S (ae d2)]:=A1 bZ;refine aa (b7 (vs:=[(0,S (ae d2)),(1,S (ae (n2%d2)))]) (cells:=#[S (ae d2),S (ae (n2%d2))]) (pl:=[(0,1),(1,1)]) iT aZ (by kernel_rfl) (db gr (db d4 rfl)) (by kernel_rfl) ?_);refine I ?_;exact⟨rfl,_,(ax _ _ _ _ _).symm,(di rfl a8),E,U,O,A0,Af,A2,Ab,Ao,H,(λ_=>rfl),G,Am,(λcy=>Aq cy),(λga=>Ar ga),(λ_=>fb),(λhF=>ff bZ hF)⟩;refine⟨λfP _ _ ask _ _ _=>?_,?_⟩
 obtain⟨W2,E,Aw,O,A0,Af,A2,Ab,Ao,H,Ap,G,Am,Aq,Ar,A1,nm⟩:=ask;obtain⟨fP,rfl⟩:=aU W2;refine I ?_;exact⟨rfl,_,(ax _ _ _ _ _).symm,(di rfl W2),E,U,O,A0,Af,A2,Ab,Ao,H,Ap,(λ_=>rfl),Am,(λh0=>Aq h0),(λeW=>Ar eW),(λgb=>A1 gb),(λeX=>nm eX)⟩;refine⟨λWV _ cm fl _ _ f3=>?_,?_⟩;obtain⟨Kp,E,Aw,O,A0,Af,A2,Ab,Ao,H,Ap,G,Am,Aq,Ar,A1,nm⟩:=fl;obtain⟨WV,rfl⟩:=aU Kp;have ct:cm 8=true:=(f3 8 rfl);have fT:WV 72=.int .i64 (sg):=G ct;refine aa (zg (a:=sg) fT (by unfold In64;omega) ?_);refine I ?_;exact⟨rfl,_,(ax _ _ _ _ _).symm,(di rfl Kp),E,U,O,A0,Af,A2,Ab,Ao,H,Ap,G,(λ_=>rfl),(λeQ=>Aq eQ),(λdd=>Ar dd),(λej=>A1 ej),(λgs=>nm gs)⟩;refine⟨λLj b0 C0 dL Li T2 h5=>?_,?_⟩;obtain⟨Ne,E,Aw,O,A0,Af,A2,Ab,Ao,H,Ap,G,Am,Aq,Ar,A1,nm⟩:=dL;obtain⟨Lj,rfl⟩:=aU Ne;have a3:C0 3=true:=(h5 3 rfl);have hV:C0 1=true:=(Li 3 1 rfl a3);have bb:C0 11=false:=(aT Li (i:=10) (j:=11) rfl T2);have hN:Lj 67=.agg #[S (ae d1),S (ae (n1%d1))]:=A2 a3;have bq:ar b0 (w.heap.size) 33 #[S (ae n1),S (ae d1)]:=Aq T2;have E4:ar b0 (As.heap.size) 33 #[S (ae n2),S (ae d2)]:=A1 bb;refine SA bq (λ_ eC hD=>?_);have⟨E4,E,_⟩:=kC eC E4 E;refine I ?_
 exact⟨rfl,undef,rfl,Ne,E,U,O,A0,Af,A2,Ab,Ao,H,Ap,G,Am,(λea=>tf rfl ea),(λ_=>hD),(λ_=>E4),(λft=>ff bb ft)⟩;refine⟨λa5 N0 Ay e6 od eg X0=>?_,?_⟩;obtain⟨K3,E,Aw,O,A0,Af,A2,Ab,Ao,H,Ap,G,Am,Aq,Ar,A1,nm⟩:=e6;obtain⟨a5,rfl⟩:=aU K3;have CB:Ay 10=true:=(X0 10 rfl);have cr:Ay 3=true:=(od 10 3 rfl CB);have hU:Ay 1=true:=(od 3 1 rfl cr);have GC:Ay 7=true:=(X0 7 rfl);have hO:Ay 5=true:=(od 7 5 rfl GC);have hS:a5 71=.agg #[S (ae d2),S (ae (n2%d2))]:=Ap GC;have E5:ar N0 (w.heap.size) 33 #[S (ae d1),S (ae (n1%d1))]:=Ar CB;have dq:ar N0 (As.heap.size) 33 #[S (ae n2),S (ae d2)]:=A1 eg;refine SA dq (λ_ fD fR=>?_);have⟨E5,E,_⟩:=kC fD E5 E;refine I ?_;exact⟨rfl,undef,rfl,K3,E,U,O,A0,Af,A2,Ab,Ao,H,Ap,G,Am,(λcf=>tf CB cf),(λ_=>E5),(λeb=>tf rfl eb),(λ_=>fR)⟩;exact trivial;intro Vm T3 _ E0 eG;obtain⟨fS,E,Aw,O,A0,Af,A2,Ab,Ao,H,Ap,G,Am,Aq,Ar,A1,nm⟩:=eG;obtain⟨Vm,rfl⟩:=aU fS;have et:ar T3 (w.heap.size) 33 #[S (ae d1),S (ae (n1%d1))]:=Ar (E0 10 rfl);have fu:ar T3 (As.heap.size) 33 #[S (ae d2),S (ae (n2%d2))]:=nm (E0 11 rfl);have hQ:Vm 73=.int .i64 (-sg):=(Am (E0 9 rfl));refine I ?_
 exact bJ (hk:=by have:=Int.emod_lt_of_pos n1 Av;have:=Int.emod_nonneg n1 (Int.ne_of_gt Av);omega) ⟨d1,n1%d1,d2,n2%d2,-sg,rfl,rfl,(LE hi Av p2 ns np p6).2.1,(LE hi Av p2 ns np p6).2.2,FR,(LF FR Av),E9,(LF E9 p2),U,(LE hi Av p2 ns np p6).1,E,et,fu⟩;refine I ?_;refine aa (ra (a:=sg) (b:=aQ (n1/d1) (n2/d2)) (c:=sg*aQ (n1/d1) (n2/d2)) rfl rfl (Ps h7) rfl ?_);refine I ?_;exact am (t:=4) (v:=.int .i64 (sg*aQ (n1/d1) (n2/d2))) rfl E (qb2 (Value.int .i64) (Xz hi Av p2 ns)) rfl
set_option maxRecDepth 100000
def LH (n:Int):Lib.itoa n=ae n:=by
 unfold Lib.itoa ae
 split
 · rw[jk]
 · rw[jk];congr 1;omega
def qR (a b:Int):R:=(ae (ei a b),ae (dm a b))
def sW (hb:b≠0):il a b=some (qR a b):=by unfold il;rw[if_neg hb];rfl
section
variable {b:Nat}{x:Int}{l m:List UInt8}
def Pt (hB:ar w b 75 #[.bool false])(ht:Tb w)(hl:l=ae x)(hm:m=ae y)(fx:Fz x)(fy:Fz y)(fz:Fz (x*y)):
 CL 36 #[pT b,S l,S m] w (kv λv w'=>w.grownBy w' (some b)/\ar w' b 75 #[.bool false]/\v=S (ae (x*y))):=by
 have h:=mG hB ht l m
 subst hl hm
 rw[KZ fx fy fz]at h
 exact h
def Pu (hB:ar w b 75 #[.bool false])(ht:Tb w)(hl:l=ae x)(hm:m=ae y)(fx:Fz x)(fy:Fz y)(fz:Fz (x+y)):
 CL 84 #[pT b,.func (.func 186) #[] #[],S l,S m] w (kv λv w'=>w.grownBy w' (some b)/\ar w' b 75 #[.bool false]/\v=S (ae (x+y))):=by
 have h:=rF (o:=xP l m) hB ht Ip (λW hW=>xZ _ _ W hW)
 subst hl hm
 rw[KX fx fy fz]at h
 exact h
def sX (hB:ar w b 75 #[.bool false])(ht:Tb w)(hl:l=ae x)(hm:m=ae y)(fx:Fz x)(fy:Fz y)(h0:y≠0):
 CL 37 #[pT b,S l,S m] w (kv λv w'=>w.grownBy w' (some b)/\(∃q,ar w' b 75 #[.bool q])/\v=.tuple #[.agg #[S (qR x y).1,S (qR x y).2],.int .i64 0]):=by
 have h:=x6 hB ht l m
 subst hl hm
 rw[wA fx.int fy.int,aG,aG,sW h0]at h
 exact h
def UD (hB:ar w b 75 #[.bool false])(ht:Tb w){x y:List UInt8}{c:Nat}(hr:Rw w lo A [S x,S y])(hn:1=n)(hAb:∀ad,A=some ad->ad.block≠b)(ho:bN (x,y)=true):
 CL 35 #[pT b,.slice A n c] w (kv λv w'=>w.grownBy w' (some b)/\ar w' b 75 #[.bool false]/\v=.tuple #[]):=by
 have h:=pm (rs:=[(x,y)]) (c:=c) hB ht hr hn U hAb
 rw[show cE false [(x,y)]=false by simp[cE,ho]]at h
 exact h
end
def u4 (N D t:Int)(up:Bool):Int:=if up=true/\¬ae (N*t%D)=[48]then N*t/D+1 else N*t/D
def Qv (a b:Int):Value:=.tuple #[.agg #[S (qR a b).1,S (qR a b).2],.int .i64 0]
def Zl {t:Int}{up:Bool}(h:up=true)(h0:¬ae (N*t%D)=[48]):Qv (N*t/D+1) t=Qv (u4 N D t up) t:=by unfold u4;rw[if_pos ⟨h,h0⟩]
def Zm {t:Int}{up:Bool}(h0:ae (N*t%D)=[48]):Qv (N*t/D) t=Qv (u4 N D t up) t:=by unfold u4;rw[if_neg (λe=>e.2 h0)]
def Zn {t:Int}{up:Bool}(h:up=false):Qv (N*t/D) t=Qv (u4 N D t up) t:=by unfold u4;rw[if_neg (λe=>by rw[h]at e;exact absurd e.1 dc)]
def LI (h:N.natAbs<10^199)(hd:0<D):Fz (N/D+1):=by
 have h1:Fz (N/D):=kz (by unfold Fz;omega) hd
 have h2:(N/D).natAbs<10^199:=by
  rcases Int.le_total 0 N with h0|h0
  · have h1:=Int.ediv_nonneg h0 (Int.le_of_lt hd)
    have h2:=Int.ediv_le_self (b:=D) h0
    omega
  · have h1:N/D<=0:=Int.ediv_nonpos_of_nonpos_of_neg h0 hd
    have h2:N<=N/D:=by
     refine Int.le_ediv_of_mul_le hd ?_
     have E:0<=(-N)*(D-1):=Int.mul_nonneg U U
     rw[Int.neg_mul,Int.mul_sub,Int.mul_one]at E
     omega
    omega
 unfold Fz;omega
def iL {l m:List UInt8}(hl:l=ae a)(hm:m=ae b)(fa:Fz a)(fb:Fz b)(h0:b≠0)(ht:Tb w):
 CL 184 #[S l,S m] w (aH w λv w'=>v=.tuple #[.agg #[S (qR a b).1,S (qR a b).2],.int .i64 0]):=by
 subst hl hm;have Ap:(!isInt (ae b))=false:=by rw[fb.int];rfl
 refine aC func184 Z (I ?_);refine al aZ (λ_ H G=>?_);have ht:=ab7 H.2 ht;have E:=H.2;refine I ?_;refine cl tl (iB (ae a) _) ?_;rintro _ _ A2 rfl;have ht:=ab7 A2.2 ht;have⟨G,E⟩:=bw A2.2 G E;refine I ?_;refine mg (s:=10) Z (qb2 Value.bool (qb2 Bool.not fa.int)) (I ?_);refine mg (s:=10) Z (qb2 Value.bool (qb2 Bool.not fa.int)) ?_;refine cl tl (iB (ae b) _) ?_;rintro _ Ab W rfl;have ht:=ab7 W.2 ht;have⟨G,E⟩:=bw W.2 G E;refine mg (s:=10) Z (qb2 Value.bool (qb2 Bool.not fa.int)) (I ?_);refine aa (jH (t:=false) (v:=.bool (!(isInt (ae b)))) (qb2 Value.bool (qb2 Bool.not fa.int)) Z ?_);refine aa (b7 (vs:=[(0,.bool (!(isInt (ae b))))]) (cells:=#[.bool (!(isInt (ae b)))]) (pl:=[(0,1)]) Vz BR q0 Z q0 ?_);refine bx (λAo A0 Ar=>?_);have ht:=ab7 A0.2 ht;have⟨G,E⟩:=bw A0.2 G E;refine I ?_;have Aq:ar Ao Ab.heap.size 75 #[.bool false]:=by have h:=Ar;rw[Ap]at h;exact h
 refine I ?_;refine aa (bK (vs:=[pT Ab.heap.size,S (ae a),S (ae b)]) tm Z (sX Aq ht Z Z fa fb h0) ?_);rintro _ _ ⟨O,⟨As,A1⟩,rfl⟩;have G:=aa3 O q4 G;have E:=cR E O (bz E) (λg Am=>by cases Am;omega);refine I ?_;refine SA G (λ_ Af nm=>?_);have A1:=pb Af A1;have E:=bA Af E;refine I ?_;refine ba (v:=.tuple #[.agg #[S (qR a b).1,S (qR a b).2],.int .i64 0]) (de (r1:=.cell 4 33) (r2:=.tmp 5) Z ?_ ?_) E Z;refine ak (t:=4) (cs:=[S (qR a b).1,S (qR a b).2]) (b:=w.heap.size) (o:=0) iT Z bX ?_ ?_;exact Z;exact aa1 nm (i:=0) Z;exact aL (t:=5) Wf _
def A5 {n:Int}(hn:In64 n)(ht:Tb w):
 CL 185 #[.int .i64 n] w (aH w λv w'=>v=S (ae n)):=by
 have h1:-9223372036854775808<=n:=by unfold In64 at hn;omega
 have h2:n<=9223372036854775807:=by unfold In64 at hn;omega
 refine aC func185 Z (I ?_);refine cl Ik (no (Y:=S (ae n)) (xQ _ _ h1 h2 (ht.ext (aa0 _))) (qb2 S (LH n))) ?_;rintro _ _ E rfl;have G:=E.2;refine I ?_;exact am (t:=2) (v:=S (ae n)) Z G Z Z
def XF {n:Int}(h:In64 n):Fz n:=by unfold In64 at h;unfold Fz;omega
def Pv (ha:In64 a)(hb:In64 b)(h0:b≠0)(ht:Tb w):
 CL 147 #[.int .i64 a,.int .i64 b] w (aH w λv w'=>v=.tuple #[.agg #[S (qR a b).1,S (qR a b).2],.int .i64 0]):=by
 refine aC func147 Z (I ?_);refine al aZ (λ_ A0 G=>?_);have E:=A0.2;refine I ?_;refine cl tn (A5 ha (ht.ext E)) ?_;rintro _ _ W rfl;have⟨G,E⟩:=bw W.2 G E;refine I ?_;refine cl tn (A5 hb (ht.ext E)) ?_;rintro _ _ O rfl;have⟨G,E⟩:=bw O.2 G E;refine cl nP (iL Z Z (XF ha) (XF hb) h0 (ht.ext E)) ?_;rintro _ _ A1 rfl;have⟨G,E⟩:=bw A1.2 G E;refine I ?_;refine SA G (λ_ H A2=>?_);have E:=bA H E;refine I ?_;refine ba (v:=.tuple #[.agg #[S (qR a b).1,S (qR a b).2],.int .i64 0]) (de (r1:=.cell 4 33) (r2:=.tmp 5) Z ?_ ?_) E Z;refine ak (t:=4) (cs:=[S (qR a b).1,S (qR a b).2]) (b:=w.heap.size) (o:=0) iT Z bX ?_ ?_;exact Z;exact aa1 A2 (i:=0) Z;exact aL (t:=5) Wf _
def wX {up:Bool}(ho:bN (ae N,ae D)=true)(fN:Fz N)(fD:Fz D)(hp:pl<=30)(hNT:(N*((10^pl:Nat):Int)).natAbs<10^199)(ht:Tb w):
 CL 148 #[.agg #[S (ae N),S (ae D)],.int .i64 pl,.bool up] w (aH w λv w'=>v=Qv (u4 N D ((10^pl:Nat):Int) up) ((10^pl:Nat):Int)):=by
 have Aw:((10^pl:Nat):Int)≠0:=by have:=Nat.pow_pos (n:=pl) (show 0<10 by decide);omega
 have pD:0<D:=by have:=c7 ho;rwa [aG]at this
 have fNT:Fz (N*((10^pl:Nat):Int)):=(by unfold Fz;omega);have A0:pl<200:=U;have fT:Fi (10^pl):=Nat.pow_lt_pow_right dc U;refine aC func148 Z (I ?_);refine bx (λAr Cr G=>?_);have ht:=ab7 Cr.2 ht;have E:=Cr.2;refine al aZ (λW B2 H=>?_);have ht:=ab7 B2.2 ht;have⟨G,E⟩:=bw B2.2 G E;refine I ?_;refine aa (b7 (vs:=[(0,.bool (decide (30<(pl:Int))))]) (cells:=#[.bool (decide (30<(pl:Int)))]) (pl:=[(0,1)]) Vz BR q0 Z q0 ?_);refine bx (λAx CB E5=>?_);have ht:=ab7 CB.2 ht;have⟨G,H,E⟩:=cD CB.2 G H E;refine I ?_;have Ap:ar Ax W.heap.size 75 #[.bool false]:=by have h:=E5;rw[decide_eq_false U]at h;exact h
 refine I ?_;refine BS (λ_ CG _ E7=>?_);have ht:=ab7 CG ht;have⟨G,H,Ap,E⟩:=fE CG G H Ap E;refine aa (bK (vs:=[pT W.heap.size,.slice (some ⟨Ax.heap.size,0,none⟩) 1 1]) Eb Z (UD Ap ht (ab0 E7) Z (λ_ e=>by cases e;simp;omega) ho) ?_);rintro _ _ ⟨A2,A1,rfl⟩;have ht:=Tb.gr A2 Ap dc ht;have G:=aa3 A2 q4 G;have H:=aa3 A2 q4 H;have E:=cR E A2 (bz E) (λg O=>by cases O;omega);refine I ?_;refine clb Il (hc:=qK [48] pl _ U dc) (hk:=?_);rintro _ _ B0 rfl;have ht:=ab7 B0.2 ht;have⟨G,H,A1,E⟩:=fE B0.2 G H A1 E;refine aa (xh (a:=[49]) (b:=Lib.repeatL [48] pl) Z Z (by rw[qZ];simp;omega) ?_);refine I ?_;refine aa (bK (vs:=[pT W.heap.size,S (ae N),S (([49])++(Lib.repeatL [48] pl))]) rq Z (Pt A1 ht Z (p9 A0) fN fT.z fNT) ?_);rintro _ _ ⟨Ab,Ao,rfl⟩;have ht:=Tb.gr Ab A1 dc ht;have G:=aa3 Ab q4 G;have H:=aa3 Ab q4 H;have E:=cR E Ab (bz E) (λg O=>by cases O;omega);refine I ?_;refine cl zj (no (Y:=.tuple #[S (ae (N*((10^pl:Nat):Int)/D)),S (ae (N*((10^pl:Nat):Int)%D)),.int .i64 0]) (kf _ _ _ ht) (qb2 vL (uJ fNT fD (Int.ne_of_gt pD) (kz fNT pD)))) ?_;rintro _ _ nm rfl;have ht:=ab7 nm.2 ht;have⟨G,H,Ao,E⟩:=fE nm.2 G H Ao E;refine I ?_
 refine SO Ao (λ_ Av Af=>?_);have ht:=Tb.put Av Ao dc ht;have⟨G,H⟩:=lw Av G H;have E:=bA Av E;refine I ?_;rcases qa4 up with cw|cw;refine I ?_;refine ZY (b:=[48]) (I ?_);by_cases wr:(ae (N*((10^pl:Nat):Int)%D))=([48]);refine I ?_;refine aa (bK (vs:=[pT W.heap.size,S (ae (N*((10^pl:Nat):Int)/D)),S (([49])++(Lib.repeatL [48] pl))]) tm Z (sX Af ht Z (p9 A0) (kz fNT pD) fT.z Aw) ?_);rintro _ _ ⟨As,⟨ES,C0⟩,rfl⟩;have G:=aa3 As q4 G;have H:=aa3 As q4 H;have E:=cR E As (bz E) (λg O=>by cases O;omega);refine I ?_;refine SA H (λ_ Ay E1=>?_);have⟨G,C0⟩:=lw Ay G C0;have E:=bA Ay E;refine I ?_;refine ba (v:=.tuple #[.agg #[S ((qR (N*((10^pl:Nat):Int)/D) ((10^pl:Nat):Int)).1),S ((qR (N*((10^pl:Nat):Int)/D) ((10^pl:Nat):Int)).2)],.int .i64 0]) (de (r1:=.cell 6 33) (r2:=.tmp 7) Z ?_ ?_) E (Zm wr);refine ak (t:=6) (cs:=[S ((qR (N*((10^pl:Nat):Int)/D) ((10^pl:Nat):Int)).1),S ((qR (N*((10^pl:Nat):Int)/D) ((10^pl:Nat):Int)).2)]) (b:=Ar.heap.size) (o:=0) iT Z bX ?_ ?_
 exact Z;exact aa1 E1 (i:=0) Z;exact aL (t:=7) Wf _;refine I ?_;refine aa (bK (vs:=[pT W.heap.size,.func (.func 186) #[] #[],S (ae (N*((10^pl:Nat):Int)/D)),S [49]]) rr Z (Pu Af ht Z K4 (kz fNT pD) (by unfold Fz;decide) (LI hNT pD)) ?_);rintro _ _ ⟨Am,E6,rfl⟩;have ht:=Tb.gr Am Af dc ht;have G:=aa3 Am q4 G;have H:=aa3 Am q4 H;have E:=cR E Am (bz E) (λg O=>by cases O;omega);refine I ?_;refine aa (bK (vs:=[pT W.heap.size,S (ae (N*((10^pl:Nat):Int)/D+1)),S (([49])++(Lib.repeatL [48] pl))]) tm Z (sX E6 ht Z (p9 A0) (LI hNT pD) fT.z Aw) ?_);rintro _ _ ⟨ny,⟨E9,B1⟩,rfl⟩;have G:=aa3 ny q4 G;have H:=aa3 ny q4 H;have E:=cR E ny (bz E) (λg O=>by cases O;omega);refine I ?_;refine SA H (λ_ od E0=>?_);have⟨G,B1⟩:=lw od G B1;have E:=bA od E;refine I ?_;refine ba (v:=.tuple #[.agg #[S ((qR (N*((10^pl:Nat):Int)/D+1) ((10^pl:Nat):Int)).1),S ((qR (N*((10^pl:Nat):Int)/D+1) ((10^pl:Nat):Int)).2)],.int .i64 0]) (de (r1:=.cell 6 33) (r2:=.tmp 7) Z ?_ ?_) E (Zl cw wr)
 refine ak (t:=6) (cs:=[S ((qR (N*((10^pl:Nat):Int)/D+1) ((10^pl:Nat):Int)).1),S ((qR (N*((10^pl:Nat):Int)/D+1) ((10^pl:Nat):Int)).2)]) (b:=Ar.heap.size) (o:=0) iT Z bX ?_ ?_;exact Z;exact aa1 E0 (i:=0) Z;exact aL (t:=7) Wf _;refine I ?_;refine aa (bK (vs:=[pT W.heap.size,S (ae (N*((10^pl:Nat):Int)/D)),S (([49])++(Lib.repeatL [48] pl))]) tm Z (sX Af ht Z (p9 A0) (kz fNT pD) fT.z Aw) ?_);rintro _ _ ⟨Aq,⟨EW,Az⟩,rfl⟩;have G:=aa3 Aq q4 G;have H:=aa3 Aq q4 H;have E:=cR E Aq (bz E) (λg O=>by cases O;omega);refine I ?_;refine SA H (λ_ CY E4=>?_);have⟨G,Az⟩:=lw CY G Az;have E:=bA CY E;refine I ?_;refine ba (v:=.tuple #[.agg #[S ((qR (N*((10^pl:Nat):Int)/D) ((10^pl:Nat):Int)).1),S ((qR (N*((10^pl:Nat):Int)/D) ((10^pl:Nat):Int)).2)],.int .i64 0]) (de (r1:=.cell 6 33) (r2:=.tmp 7) Z ?_ ?_) E (Zn cw);refine ak (t:=6) (cs:=[S ((qR (N*((10^pl:Nat):Int)/D) ((10^pl:Nat):Int)).1),S ((qR (N*((10^pl:Nat):Int)/D) ((10^pl:Nat):Int)).2)]) (b:=Ar.heap.size) (o:=0) iT Z bX ?_ ?_;exact Z;exact aa1 E4 (i:=0) Z;exact aL (t:=7) Wf _
def LJ (ho:bN (ae N,ae D)=true)(fN:Fz N)(fD:Fz D)(hp:pl<=30)(hNT:(N*((10^pl:Nat):Int)).natAbs<10^199)(ht:Tb w):
 CL 100 #[.agg #[S (ae N),S (ae D)],.int .i64 pl] w (aH w λv w'=>v=.tuple #[.agg #[S ((qR (u4 N D ((10^pl:Nat):Int) false) ((10^pl:Nat):Int)).1),S ((qR (u4 N D ((10^pl:Nat):Int) false) ((10^pl:Nat):Int)).2)],.int .i64 0]):=by
 refine aC func100 Z (I ?_);refine bx (λW Ab G=>?_);have E:=Ab.2;refine al aZ (λ_ A2 H=>?_);have⟨G,E⟩:=bw A2.2 G E;refine I ?_;refine cl IA (wX ho fN fD hp hNT (ht.ext E)) ?_;rintro _ _ A1 rfl;have⟨G,H,E⟩:=cD A1.2 G H E;refine I ?_;refine SA H (λ_ O A0=>?_);have G:=pb O G;have E:=bA O E;refine I ?_;refine ba (v:=.tuple #[.agg #[S ((qR (u4 N D ((10^pl:Nat):Int) false) ((10^pl:Nat):Int)).1),S ((qR (u4 N D ((10^pl:Nat):Int) false) ((10^pl:Nat):Int)).2)],.int .i64 0]) (de (r1:=.cell 4 33) (r2:=.tmp 5) Z ?_ ?_) E Z;refine ak (t:=4) (cs:=[S ((qR (u4 N D ((10^pl:Nat):Int) false) ((10^pl:Nat):Int)).1),S ((qR (u4 N D ((10^pl:Nat):Int) false) ((10^pl:Nat):Int)).2)]) (b:=W.heap.size) (o:=0) iT Z bX ?_ ?_;exact Z;exact aa1 A0 (i:=0) Z;exact aL (t:=5) Wf _
def UE (ho:bN (ae N,ae D)=true)(fN:Fz N)(fD:Fz D)(hp:pl<=30)(hNT:(N*((10^pl:Nat):Int)).natAbs<10^199)(ht:Tb w):
 CL 101 #[.agg #[S (ae N),S (ae D)],.int .i64 pl] w (aH w λv w'=>v=.tuple #[.agg #[S ((qR (u4 N D ((10^pl:Nat):Int) true) ((10^pl:Nat):Int)).1),S ((qR (u4 N D ((10^pl:Nat):Int) true) ((10^pl:Nat):Int)).2)],.int .i64 0]):=by
 refine aC func101 Z (I ?_);refine bx (λW Ab G=>?_);have E:=Ab.2;refine al aZ (λ_ A2 H=>?_);have⟨G,E⟩:=bw A2.2 G E;refine I ?_;refine cl IA (wX ho fN fD hp hNT (ht.ext E)) ?_;rintro _ _ A1 rfl;have⟨G,H,E⟩:=cD A1.2 G H E;refine I ?_;refine SA H (λ_ O A0=>?_);have G:=pb O G;have E:=bA O E;refine I ?_;refine ba (v:=.tuple #[.agg #[S ((qR (u4 N D ((10^pl:Nat):Int) true) ((10^pl:Nat):Int)).1),S ((qR (u4 N D ((10^pl:Nat):Int) true) ((10^pl:Nat):Int)).2)],.int .i64 0]) (de (r1:=.cell 4 33) (r2:=.tmp 5) Z ?_ ?_) E Z;refine ak (t:=4) (cs:=[S ((qR (u4 N D ((10^pl:Nat):Int) true) ((10^pl:Nat):Int)).1),S ((qR (u4 N D ((10^pl:Nat):Int) true) ((10^pl:Nat):Int)).2)]) (b:=W.heap.size) (o:=0) iT Z bX ?_ ?_;exact Z;exact aa1 A0 (i:=0) Z;exact aL (t:=5) Wf _
def A6:Nat->Nat->Nat
 |0,_=>0
 |f+1,n=>if n=0 then 0 else A6 f (n/10000)+1
def A7:∀{f n:Nat},n<10000^f->(au 10000 n).length=A6 f n
 |0,n,h=>by rw[show n=0 by simpa using h,gy];rfl
 | f +1,n,h=>by
   unfold A6
   split
   · rename_i h0;rw[h0,gy];rfl
   · rename_i h0
     rw[qr 10000 n U U,List.length_cons,A7 (f:=f)]
     rw[Nat.pow_succ]at h
     exact Nat.div_lt_of_lt_mul (by rw[Nat.mul_comm];exact h)
def Pw:Nat->Nat->Nat->Option Nat
 |0,_,_=>none
 |f+1,n,t=>if t<=(t+n/t)/2 then some t else Pw f n ((t+n/t)/2)
def UF (n:Nat):Option Nat:=Pw 1000 n (10000^((A6 60 n+1)/2))
def Zo {r:Nat}(h:Pw f n t=some r)(hl:t<=(t+n/t)/2):r=t:=by
 cases f with
 |zero=>cases h
 |succ g=>unfold Pw at h;rw[if_pos hl]at h;cases h;rfl
def Zp {r:Nat}(h:Pw f n t=some r)(hl:¬t<=(t+n/t)/2):∃g,f=g+1/\Pw g n ((t+n/t)/2)=some r:=by
 cases f with
 |zero=>cases h
 |succ g=>unfold Pw at h;rw[if_neg hl]at h;exact⟨g,rfl,h⟩
def FE (k:Nat):au 10000 (10000^k)=List.replicate k 0++[1]:=by
 induction k with
 |zero=>decide
 | succ k ih=>
   rw[qr 10000 _ U (Nat.pow_pos U),Nat.pow_succ,Nat.mul_mod_left,Nat.mul_div_cancel _ U,ih,List.replicate_succ,List.cons_append]
def Px {c:Nat}(h:Rw w lo A ((madeCells (Value.int .i64 0).cells (k*1)).toList++[Value.int .i64 1]))(hc:k+1<=c):en w lo A (k+1) c (10000^k):=by
 refine⟨?_,by rw[FE];simp,hc⟩
 have e:(madeCells (Value.int .i64 0).cells (k*1)).toList++[Value.int .i64 1]=ints (au 10000 (10000^k)):=by
  show(madeCells #[Value.int .i64 0] (k*1)).toList++_=_
  rw[qG,FE];simp[ints]
 rw[<-e];exact h
def Py (h:Rw w lo A [Value.int .i64 2]):en w lo A 1 1 2:=by
 have e:au 10000 2=[2]:=by decide
 exact⟨by rw[e];exact h,by rw[e];rfl,qa0 _⟩
def Pz (n:Nat):body (nS n)=bC n:=by unfold nS;rw[gK];simp
def UG (n:Nat):neg (nS n)=false:=by unfold nS;rw[qI];exact qa2 U
def LK (hn:Fi n):CL 119 #[S (nS n),S [48]] w (aH w λv w'=>∃A1 n1 c1 A2 n2 c2,v=.tuple #[.agg #[.bool false,.slice A1 n1 c1],.agg #[.bool false,.slice A2 n2 c2],.bool true]/\en w' w.heap.size A1 n1 c1 n/\en w' w.heap.size A2 n2 c2 0):=by
 have h:=lA (nS n) [48] w hn.z.int jP
 rw[Pz,UG,gJ,show neg [48]=false from rfl,show aD (body [48])=0 from qH]at h
 exact h
def LL (h:Fi n):n<10000^50:=qb1 h dc
def LM (hn:n<10000^50)(ht:t<=10000^26):t+n/t<10000^51:=by
 have h1:n/t<=n:=Nat.div_le_self _ _
 have h2:(10000:Nat)^50+10000^26<10000^51:=by decide
 omega
def PC (ht:t≤10000 ^ 26) : iC (bj (bR false t))=.tuple #[S (nS t),.int .i64 0]:=by
 have h : fits (bR false t) = true := qa1 (by have h2:(10000:Nat)^26<10^200:=by decide
                                              simp[bR];omega)
 unfold bj;rw[if_pos h];rfl
def oC {x:Int}:(0<=aQ x y)↔y<=x:=by
 unfold aQ;split
 · constructor <;>intro h <;>omega
 · split
   · constructor <;>intro _ <;>omega
   · constructor <;>intro _ <;>omega
def Zq {f:FuncId}{a:Array Value}{X Y:Value}(h:CL f a w (aH w λv _=>v=X))(e:X=Y):CL f a w (aH w λv _=>v=Y):=e▸h
def XG {x y:Nat}(h:(0:Int)<=aQ (x:Int) (y:Int)):y<=x:=by
 rw[oC]at h
 omega
def XI {x y:Nat}(h:¬(0:Int)<=aQ (x:Int) (y:Int)):¬y<=x:=by
 rw[oC]at h
 omega
def UH (hn:0<n)(ht:0<t):0<(t+n/t)/2:=by
 by_cases h:t=1
 · subst h;rw[Nat.div_one];omega
 · have h2:2<=t:=J
   exact Nat.div_pos (qa8 h2 (Nat.le_add_right _ _)) U
set_option maxRecDepth 100000 in
def FF {r:Nat}(fn:Fi n)(hn0:0<n)(hr:UF n=some r)(ht:Tb w):
 CL 226 #[S (nS n)] w (aH w λv w'=>v=.tuple #[S (nS r),.int .i64 0]):=by
 have KM:(au 10000 n).length=A6 60 n:=A7 (qb1 (LL fn) (Nat.pow_le_pow_right dc dc));refine aC func226 Z (I ?_);refine cl kI (LK fn) ?_;rintro _ E7 EW ⟨A1,n1,c1,A2,n2,c2,rfl,hN,S0⟩;have O:=EW.2;have uhN:=hN.hi;have P1:=cO hN (LL fn);have Lj:0<n1:=by rw[<-hN.len,List.length_pos_iff];exact λe=>by have:=cJ 10000 U n;rw[e]at this;simp[bS]at this;omega
 refine I ?_;refine al bH (λwr Cr C0=>?_);have hN:=aa9 Cr.2 hN;have O:=xt O Cr.2;refine al bH (λ_ E0 B2=>?_);have hN:=aa9 E0.2 hN;have⟨C0,O⟩:=bw E0.2 C0 O;refine SA C0 (λ_ E6 E=>?_);have hN:=ac2 E6 (λAf e=>by have:=uhN Af e;omega) hN;have⟨B2,O,_⟩:=kC E6 B2 O;refine SA B2 (λE5 E4 G=>?_);have hN:=ac2 E4 (λAf e=>by have:=uhN Af e;omega) hN;have⟨E,O,_⟩:=kC E4 E O;refine I ?_;refine aa (cG (a:=(n1:Int)) (b:=1) (c:=((n1+1:Nat):Int)) Z Z j0 U ?_);refine aa (wc (a:=((n1+1:Nat):Int)) (b:=2) (c:=((((n1+1)/2):Nat):Int)) Z Z U U j0 U ?_);refine aa (mf (m:=((n1+1)/2)) gX lf Z Z U Rd (λ_ ES _ Az=>?_));have E1:(.slice (some ⟨E5.heap.size,0,none⟩) ((n1+1)/2) ((n1+1)/2):Value).ownBlock≠some (E7.heap.size):=λe=>by(have:=bt E;simp only[Value.ownBlock,Option.map_some,Option.some.injEq]at e;omega)
 have CG:(.slice (some ⟨E5.heap.size,0,none⟩) ((n1+1)/2) ((n1+1)/2):Value).ownBlock≠some (wr.heap.size):=λe=>by(have:=bt G;simp only[Value.ownBlock,Option.map_some,Option.some.injEq]at e;omega)
 have hN:=aa9 ES hN;have⟨E,G,O⟩:=cD ES E G O;refine BS (λ_ B0 _ K2=>?_);have hN:=aa9 B0 hN;have⟨E,G⟩:=gu B0 E G;have Az:=ab B0 Az;have O:=xt O B0;refine AP Az (ab0 K2) (λFR G0 CY od E9=>?_);have Ne:=aS E9 E1 (bt E);have L1:=aS E9 CG (bt G);have hN:=en.gr od (λAf e=>by have:=uhN Af e;simp[Value.ownBlock];omega) hN;have E:=aa3 od (λe=>E1 e.symm) E;have G:=aa3 od (λe=>CG e.symm) G;have O:=bB Az U U O od;have L3:=od.size;refine aa (aJ (v:=FR) Z ?_);refine I ?_;obtain⟨At,GC,rfl,H3,-,-,-⟩:=e8 CY;have hT:=Px (ab0 CY) H3;have Kp:Pw 1000 n (10000^((n1+1)/2))=some r:=by rw[<-hN.len,KM];exact hr
 refine I ?_;refine ck [(2,3),(7,11),(32,60)] (λK3 e W=>∃f:Nat,∃Ax:Option Addr,∃Ao:Nat,∃A0:Nat,∃t:Nat,(f=K3)/\(e 7=.slice Ax Ao A0)/\(Pw f n t=some r)/\(t<=10000^26)/\(0<t)/\(G0.heap.size<=W.heap.size)/\(aN w W)/\(en W w.heap.size A1 n1 c1 n)/\(ar W E7.heap.size 161 #[.bool false,.slice A1 n1 c1])/\(ar W wr.heap.size 161 #[.bool false,.slice A2 n2 c2])/\(en W w.heap.size Ax Ao A0 t)) (1000) ⟨1000,At,((n1+1)/2)+1,GC,10000^((n1+1)/2),rfl,rfl,Kp,(Nat.pow_le_pow_right dc U),(Nat.pow_pos dc),(qa0 _),O,hN,E,G,(hT.mono U)⟩ ?_;rintro _ _ _ ⟨f,Ax,Ao,A0,t,rfl,La,hf,Aw,CB,Li,H,hN,E,G,hT⟩;have lt:=cO (k:=27) hT (Nat.lt_of_le_of_lt Aw dc);refine I ?_;refine clb D3 (hc:=su hN U hT U CB) (hk:=?_);rintro _ _ Ap ⟨Aq,N0,L4,Ar,Rm,P0,rfl,hQ,hRr⟩;have hN:=aa9 Ap.2 hN;have⟨E,G⟩:=gu Ap.2 E G;have hT:=aa9 Ap.2 hT;have H:=xt H Ap.2;have Q0:=cO hQ (Nat.lt_of_le_of_lt (Nat.div_le_self _ _) (LL fn));refine I ?_;refine clb zm (hc:=oX hT U hQ U) (hk:=?_);rintro _ _ nm ⟨As,L2,cs,rfl,hS⟩;have hN:=aa9 nm.2 hN;have⟨E,G⟩:=gu nm.2 E G;have hT:=aa9 nm.2 hT;have H:=xt H nm.2;have ls:=cO hS (LM (LL fn) Aw);refine BS (λ_ Ab _ KC=>?_);have hN:=aa9 Ab hN;have⟨E,G⟩:=gu Ab E G;have hT:=aa9 Ab hT
 have hS:=aa9 Ab hS;have H:=xt H Ab;have H2:=Py (ab0 KC);refine clb D3 (hc:=su hS U H2 U dc) (hk:=?_);rintro _ _ Av ⟨Ay,ny,Ix,Ar2,P2,No,rfl,hY,hR2⟩;have hN:=aa9 Av.2 hN;have⟨E,G⟩:=gu Av.2 E G;have hT:=aa9 Av.2 hT;have H:=xt H Av.2;have Lk:=cO hY (Nat.lt_of_le_of_lt (Nat.div_le_self _ _) (LM (LL fn) Aw));refine I ?_;refine clb zn (hc:=jN hY U hT) (hk:=?_);rintro _ _ Am rfl;have hN:=aa9 Am.2 hN;have⟨E,G⟩:=gu Am.2 E G;have hT:=aa9 Am.2 hT;have hY:=aa9 Am.2 hY;have H:=xt H Am.2;refine I ?_;by_cases v7:0<=(aQ (((t+n/t)/2:Nat):Int) ((t:Nat):Int));have B1:=XG v7;have KY:=Zo hf B1;refine I ?_;refine aa (b7 (vs:=[(1,.slice Ax Ao A0)]) (cells:=#[.bool false,.slice Ax Ao A0]) (pl:=[(0,1),(1,1)]) kH bH q0 Z q0 ?_);refine clb mo (hc:=Zq (fO (ng:=false) hT U (ht.ext H)) (PC Aw)) (hk:=?_);rintro _ _ H4 rfl;have H:=xt H H4.2;refine I ?_;exact bF (t:=2) (u:=3) (v1:=S (nS t)) (v2:=.int .i64 0) Z H (by rw[KY]) Z Z;have B1:=XI v7;obtain⟨g,rfl,h2⟩:=Zp hf B1;refine I ?_;exact bJ ⟨g,Ay,ny,Ix,(t+n/t)/2,rfl,rfl,h2,(by have:=Nat.not_le.1 B1;omega),(UH hn0 CB),U,H,hN,E,G,(hY.mono U)⟩
end
section
def mO (S:Nat)(a:N2):Option N2:=if yt a=true/\0<a.1*S/\0<a.2*S then(UF (a.1*S)).bind λx=>(UF (a.2*S)).bind λy=>if yt (x,y)=true then some (x,y+1)else none else none
def LN {S:Nat}{a r:N2}(h:mO S a=some r):Bk 95 a/\0<a.1*S/\0<a.2*S/\∃x y,UF (a.1*S)=some x/\UF (a.2*S)=some y/\Bk 95 (x,y)/\r=(x,y+1):=by
 unfold mO at h
 split at h
 · rename_i h1
   refine⟨fY h1.1,h1.2.1,h1.2.2,?_⟩
   cases hx:UF (a.1*S)with
   |none=>rw[hx]at h;cases h
   | some x=>
     rw[hx,Option.bind_some]at h
     cases hy:UF (a.2*S)with
     |none=>rw[hy]at h;cases h
     | some y=>
       rw[hy,Option.bind_some]at h
       split at h
       · rename_i h2;cases h;exact⟨x,y,rfl,rfl,fY h2,rfl⟩
       · cases h
 · cases h
def Rr:List UInt8:=[51,49,52,49,53,57,50,54,53,51,53,56,57,55,57,51,50,51,56,52,54,50,54,52,51,51,56,51,50,55,57,53,48,50,56,56,52,49,57,55,49,54,57,51,57,57,51,55,53,49,48,53,56,50,48,57,55,52,57,52,52,53,57,50,51,48,55,56,49,54,52,48,54,50,56,54,50,48,56,57,57]
def vH (k:Nat):Nat:=314159265358979323846264338327950288419716939937510582097494459230781640628620899/10^(80-k)
def LO (h:k<81):Rr.take (k+1)=nS (vH k):=by
 have:∀k:Fin 81,Rr.take (k.1+1)=nS (vH k.1):=by decide +kernel
 exact this ⟨k,h⟩
def XJ :vH k<10^81:=Nat.lt_of_le_of_lt (Nat.div_le_self _ _) dc
section
variable {n:Int}
def lO (hd:0<d):0<((Int.gcd n d:Nat):Int):=by have:=Int.gcd_pos_of_ne_zero_right n (show d≠0 by omega);omega
def A8 (hd:0<d):ei n d*((Int.gcd n d:Nat):Int)=n:=by
 unfold ei;rw[if_neg U];exact Int.ediv_mul_cancel (Int.gcd_dvd_left ..)
def yF (hd:0<d):dm n d*((Int.gcd n d:Nat):Int)=d:=by
 unfold dm;rw[if_neg U];exact Int.ediv_mul_cancel (Int.gcd_dvd_right ..)
def qb (hd:0<d):ei n d*d=n*dm n d:=by
 have h1:=A8 (n:=n) hd
 have h2:=yF (n:=n) hd
 generalize ei n d=a at *
 generalize dm n d=b at *
 generalize ((Int.gcd n d:Nat):Int)=g at *
 rw[<-h1,<-h2,Int.mul_comm b g,Int.mul_assoc]
def oD (hd:0<d):0<dm n d:=by
 have h2:=yF (n:=n) hd
 have E:=lO (n:=n) hd
 rcases Int.lt_or_le 0 (dm n d)with h|h
 · exact h
 · have:=Int.mul_nonpos_of_nonpos_of_nonneg h (Int.le_of_lt E);omega
def LP (hd:0<d):dm n d<=d:=by
 have h2:=yF (n:=n) hd
 have G:=lO (n:=n) hd
 have E:=oD (n:=n) hd
 have:=Int.mul_le_mul_of_nonneg_left (show(1:Int)<=((Int.gcd n d:Nat):Int)by omega) (Int.le_of_lt E)
 omega
def Dw (hd:0<d):(ei n d).natAbs<=n.natAbs:=by
 have h2:=qb2 Int.natAbs (A8 (n:=n) hd)
 have E:=lO (n:=n) hd
 rw[Int.natAbs_mul,Int.natAbs_natCast]at h2
 exact qa8 (Nat.le_mul_of_pos_right _ U) (Nat.le_of_eq h2)
def Dx (hd:0<d):Int.gcd (ei n d) (dm n d)=1:=by
 have E:=lO (n:=n) hd
 have e:=Int.gcd_mul_right (ei n d) ((Int.gcd n d:Nat):Int) (dm n d)
 rw[A8 hd,yF hd,Int.natAbs_natCast]at e
 exact Nat.eq_of_mul_eq_mul_right (show 0<Int.gcd n d by omega) U
def XL (ha:Fz a)(hb:Fz b)(h0:0<b)(hg:Int.gcd a b=1):bN (ae a,ae b)=true:=by
 have e:bT (ae a) (ae b)=some [49]:=by
  unfold bT;rw[if_pos ka1,aG,aG,hg]
  decide +kernel
 unfold bN
 simp only[ha.int,hb.int,e]
 rw[gT hb.int,aG,decide_eq_false (by rw[dh];omega)]
 rfl
def A9 (hd:0<d)(h:Fz n):Fz (ei n d):=Nat.lt_of_le_of_lt (Dw hd) h
def Ba (hd:0<d)(h:Fz d):Fz (dm n d):=by have:=oD (n:=n) hd;have:=LP (n:=n) hd;unfold Fz at *;omega
def LQ (hd:0<d)(fn:Fz n)(fd:Fz d):bN (qR n d)=true:=XL (A9 hd fn) (Ba hd fd) (oD hd) (Dx hd)
end
def UI {n:Int}(hd:0<d)(hg:Int.gcd n d=1):qR n d=(ae n,ae d):=by
 unfold qR ei dm;rw[hg,if_neg U,if_neg U];simp
def Bb (h:a∣b*c)(hg:Int.gcd a c=1):a∣b:=by
 have h1:a.natAbs∣b.natAbs*c.natAbs:=by rw[<-Int.natAbs_mul];exact Int.natAbs_dvd_natAbs.2 h
 exact Int.natAbs_dvd_natAbs.1 (Nat.Coprime.dvd_of_dvd_mul_right (show Nat.Coprime a.natAbs c.natAbs from hg) h1)
def LR (hb:0<b)(hd:0<d)(h1:Int.gcd a b=1)(h2:Int.gcd c d=1)(h:a*d=c*b):a=c/\b=d:=by
 have e1:b∣d:=by
  have:b∣d*a:=⟨c,by rw[Int.mul_comm d a,h,Int.mul_comm]⟩
  exact Bb this (by rw[Int.gcd_comm];exact h1)
 have e2:d∣b:=by
  have:d∣b*c:=⟨a,by rw[Int.mul_comm b c,<-h,Int.mul_comm]⟩
  exact Bb this (by rw[Int.gcd_comm];exact h2)
 have e:=Int.dvd_antisymm U U e1 e2
 subst e
 exact⟨Int.eq_of_mul_eq_mul_right U h,rfl⟩
def Hr (hb:0<b)(hd:0<d)(h:a*d=c*b):ei a b=ei c d/\dm a b=dm c d:=by
 have h1:=qb (n:=a) hb
 have h2:=qb (n:=c) hd
 refine LR (oD hb) (oD hd) (Dx hb) (Dx hd) ?_
 have e:ei a b*dm c d*(b*d)=ei c d*dm a b*(b*d):=by
  calc ei a b*dm c d*(b*d)=(ei a b*b)*(dm c d*d):=by grind
   _=(a*dm a b)*(dm c d*d):=by rw[h1]
   _=(a*d)*(dm a b*dm c d):=by grind
   _=(c*b)*(dm a b*dm c d):=by rw[h]
   _=(c*dm c d)*(dm a b*b):=by grind
   _=(ei c d*d)*(dm a b*b):=by rw[h2]
   _=ei c d*dm a b*(b*d):=by grind
 exact Int.eq_of_mul_eq_mul_right (Int.ne_of_gt (Int.mul_pos hb hd)) e
def LS (hb:0<b)(hd:0<d)(h:a*d=c*b):qR a b=qR c d:=by
 obtain⟨h1,h2⟩:=Hr hb hd h
 unfold qR;rw[h1,h2]
def UJ (hb:0<b)(hd:0<d)(h:qR a b=qR c d):a*d=c*b:=by
 unfold qR at h
 have e1:=mU (qb2 Prod.fst h)
 have e2:=mU (qb2 Prod.snd h)
 have h1:=A8 (n:=a) hb
 have h2:=yF (n:=a) hb
 have h3:=A8 (n:=c) hd
 have h4:=yF (n:=c) hd
 rw[<-e1]at h3
 rw[<-e2]at h4
 generalize ei a b=p at *
 generalize dm a b=q at *
 rw[<-h1,<-h2,<-h3,<-h4];grind
def Bc {x k:Int}(hk:0<k):aQ (x*k) (y*k)=aQ x y:=A3 ⟨λh=>Int.lt_of_mul_lt_mul_right h (Int.le_of_lt hk),λh=>Int.mul_lt_mul_of_pos_right h hk⟩ ⟨λh=>Int.eq_of_mul_eq_mul_right U h,λh=>by rw[h]⟩
def PE (hb:0<b)(hd:0<d):aQ (ei a b*dm c d) (ei c d*dm a b)=aQ (a*d) (c*b):=by
 rw[<-Bc (Int.mul_pos (lO (n:=a) hb) (lO (n:=c) hd))]
 have h1:=A8 (n:=a) hb
 have h2:=yF (n:=a) hb
 have h3:=A8 (n:=c) hd
 have h4:=yF (n:=c) hd
 generalize ei a b=p at *
 generalize dm a b=q at *
 generalize ei c d=r at *
 generalize dm c d=s at *
 generalize ((Int.gcd a b:Nat):Int)=g at *
 generalize ((Int.gcd c d:Nat):Int)=k at *
 rw[<-h1,<-h2,<-h3,<-h4,show p*s*(g*k)=p*g*(s*k)by grind,show r*q*(g*k)=r*k*(q*g)by grind]
def Be (hb:0<b)(hd:0<d)(fa:Fz a)(fb:Fz b)(fc:Fz c)(fd:Fz d)(ht:Tb w):
 CL 26 #[.agg #[S (qR a b).1,S (qR a b).2],.agg #[S (qR c d).1,S (qR c d).2]] w (aH w λv _=>v=.int .i64 (aQ (a*d) (c*b))):=
 no (LG (LQ hb fa fb) (LQ hd fc fd) (A9 hb fa) (Ba hb fb) (A9 hd fc) (Ba hd fd) ht) (qb2 (Value.int .i64) (PE hb hd))
def yG :ai (qR a b).1=ei a b/\ai (qR a b).2=dm a b:=⟨aG _,aG _⟩
def Q9 (a b:Int):Prop:=a.natAbs<10^90/\0<b/\b<10^90
def Q9.fz (h:Q9 a b):Fz a/\Fz b:=by obtain⟨_,_,_⟩:=h;unfold Fz;omega
def Q9.red (h:Q9 a b):Q9 (ei a b) (dm a b):=⟨Nat.lt_of_le_of_lt (Dw h.2.1) h.1,oD h.2.1,by have:=LP (n:=a) h.2.1;have:=h.2.2;omega⟩
def Q9.ok (h:Q9 a b):bN (qR a b)=true:=LQ h.2.1 h.fz.1 h.fz.2
def yH (ha:a.natAbs<10^90)(hb:b.natAbs<10^90):(a*b).natAbs<10^180:=by rw[Int.natAbs_mul];exact iG ha hb
def Dy (h:a.natAbs<10^180):Fz a:=by unfold Fz;omega
def UK {n e:Int}(fn:Fz n)(fd:Fz d)(h:il n d=some (qR c e)):im n d=some (qR c e):=by
 unfold im;rw[fn.fits,fd.fits];exact h
def UL (h1:Q9 a b)(h2:Q9 c d):dE (qR a b) (qR c d)=some (qR (a*d-c*b) (b*d)):=by
 unfold dE
 rw[h1.ok,h2.ok,yG.1,yG.2,yG.1,yG.2]
 have r1:=h1.red
 have r2:=h2.red
 have O:=yH r1.1 (b:=dm c d) (by have:=r2.2;omega)
 have G:=yH r2.1 (b:=dm a b) (by have:=r1.2;omega)
 have H:=yH (a:=dm a b) (b:=dm c d) (by have:=r1.2;omega) (by have:=r2.2;omega)
 rw[(Dy O).fits,(Dy G).fits]
 have E:=Int.mul_pos r1.2.1 r2.2.1
 simp only[Bool.and_self,if_true]
 refine UK (by unfold Fz;omega) (Dy H) ?_
 rw[sW U]
 congr 1
 refine LS E (Int.mul_pos h1.2.1 h2.2.1) ?_
 have e1:=qb (n:=a) h1.2.1
 have e2:=qb (n:=c) h2.2.1
 generalize ei a b=p at *
 generalize dm a b=q at *
 generalize ei c d=r at *
 generalize dm c d=s at *
 grind
section
def PF (h1:Q9 a b)(h2:Q9 c d)(ht:Tb w):CL 117 #[.agg #[S (qR a b).1,S (qR a b).2],.agg #[S (qR c d).1,S (qR c d).2]] w (aH w λv _=>v=Qv (a*d-c*b) (b*d)):=no (EL _ _ _ _ _ ht) (qb2 gV (UL h1 h2))
end
def PG {a b:Nat}(hk:0<k):sQ (a*k) (b*k)=sQ a b:=by
 unfold sQ
 rw[Nat.mul_mod_mul_right,Nat.mul_div_mul_right _ _ hk]
 have:(a%b*k=0)↔(a%b=0):=⟨λh=>(Nat.mul_eq_zero.1 h).resolve_right U,λh=>by rw[h,Nat.zero_mul]⟩
 simp only[this]
def PH {S d:Nat}(hk:0<k):qj S (n*k) (d*k)=qj S n d:=by
 unfold qj
 rw[show n*k*S=n*S*k by rw[Nat.mul_assoc,Nat.mul_comm k,<-Nat.mul_assoc],PG hk,Nat.mul_div_mul_right _ _ hk]
abbrev QV (a b:Int):Value:=.agg #[S (qR a b).1,S (qR a b).2]
abbrev IV (a b c d:Int):Value:=.agg #[S (qR a b).1,S (qR a b).2,S (qR c d).1,S (qR c d).2]
abbrev qw (ma mb sa sb ea eb la lb ha hb oa ob ga gb:Int):Array Value:=#[S (qR ma mb).1,S (qR ma mb).2,S (qR sa sb).1,S (qR sa sb).2,S (qR ea eb).1,S (qR ea eb).2,S (qR la lb).1,S (qR la lb).2,S (qR ha hb).1,S (qR ha hb).2,S (qR oa ob).1,S (qR oa ob).2,S (qR ga gb).1,S (qR ga gb).2]
end
section
set_option maxRecDepth 100000
attribute [local irreducible] wpListIn Code.wpIn Oper.wpIn Exit.then Exit.inBlock Exit.noGoto
set_option maxHeartbeats 40000000
def wY (h1:Q9 a b)(h2:Q9 c d)(ht:Tb w):CL 26 #[QV a b,QV c d] w (aH w λv _=>v=.int .i64 (aQ (a*d) (c*b))):=
 Be h1.2.1 h2.2.1 h1.fz.1 h1.fz.2 h2.fz.1 h2.fz.2 ht
def q9m:Q9 1 1000000:=⟨by decide,by decide,by decide⟩
def q92:Q9 1 2:=⟨by decide,by decide,by decide⟩
def q9h:Q9 100 1:=⟨by decide,by decide,by decide⟩
def Vl (h:-1000000000<=a/\a<=1000000000):In64 a:=by unfold In64;omega
def yI (ha:In64 a)(hb:In64 b)(h0:b≠0)(ht:Tb w):
 CL 98 #[.int .i64 a,.int .i64 b] w (aH w λv w'=>v=QV a b):=by
 refine aC func98 Z (I ?_);refine al aZ (λ_ W G=>?_);have E:=W.2;refine I ?_;refine cl R3 (Pv ha hb h0 (ht.ext E)) ?_;rintro _ _ O rfl;have⟨G,E⟩:=bw O.2 G E;refine I ?_;refine cl qB kY ?_;rintro _ _ H rfl;have⟨G,E⟩:=bw H.2 G E;refine SA G (λ_ A1 A0=>?_);have E:=bA A1 E;refine I ?_;refine ba (v:=QV a b) (cC  rfl ?_) E Z;refine ak (t:=4) (cs:=[S (qR a b).1,S (qR a b).2]) (b:=w.heap.size) (o:=0) iT Z bX ?_ ?_;exact Z;exact aa1 A0 (i:=0) Z
def wZ (ql:Q9 la lb)(h12:pl<=12)(hl1:0<=aQ (la*1000000) (1*lb))(hl2:aQ (la*2) (1*lb)<=0)(ht:Tb w):
 CL 44 #[.agg #[S (qR la lb).1,S (qR la lb).2,.int .i64 pl]] w (aH w λv w'=>v=.tuple #[]):=by
 refine aC func44 Z (I ?_);refine bx (λ_ KC G=>?_);have E:=KC.2;refine I ?_;refine cl tj (no (Y:=.bool true) (eE _ _ _ (ht.ext E)) (qb2 Value.bool ql.ok)) ?_;rintro _ _ Aw rfl;have⟨G,E⟩:=bw Aw.2 G E;refine I ?_;refine cl fK dn ?_ (aw (qb2 Value.bool (qa1 U)) Z);rintro _ _ E6 rfl;have⟨G,E⟩:=bw E6.2 G E;refine I ?_;refine IU li 9 aN ac3 (λ_ _ _=>xt) [(fun(v:Value) (_:World)=>v=(pT w.heap.size:Value)),(fun(v:Value) (_:World)=>v=(QV la lb:Value)),(fun(v:Value) (_:World)=>v=(QV 1 1000000:Value)),(fun(v:Value) (_:World)=>v=(.int .i64 (aQ (la*1000000) (1*lb)):Value)),(fun(v:Value) (_:World)=>v=(.bool (decide (0<=(aQ (la*1000000) (1*lb)))):Value)),(fun(v:Value) (_:World)=>v=(.bool (decide (0<=(aQ (la*1000000) (1*lb)))):Value)),(fun(v:Value) (_:World)=>v=(pT w.heap.size:Value)),(fun(v:Value) (_:World)=>v=(QV la lb:Value)),(fun(v:Value) (_:World)=>v=(QV 1 2:Value))] ⟨λ_ _ _ _ h=>h,λ_ _ _ _ h=>h,λ_ _ _ _ h=>h,λ_ _ _ _ h=>h,λ_ _ _ _ h=>h,λ_ _ _ _ h=>h,λ_ _ _ _ h=>h,λ_ _ _ _ h=>h,λ_ _ _ _ h=>h,trivial⟩ q0 q0 q0 ?_ ?_;refine⟨λAv _ _ wr _=>?_,?_⟩;obtain⟨Av,rfl⟩:=aU wr;refine I ?_;exact Or.inl (tG (aa0 _))
 refine⟨λB2 _ _ Cr A0=>?_,?_⟩;obtain⟨B2,rfl⟩:=aU Cr;have L2:=bh (A0 0 16 Z Z);refine I ?_;exact Or.inl (tG (aa0 _));refine⟨λK3 _ Ix E4 _=>?_,?_⟩;obtain⟨K3,rfl⟩:=aU E4;have H4:=(xt E Ix);refine clb Ce (hc:=yI (Vl dc) (Vl dc) dc (ht.ext H4)) (hk:=?_);rintro _ _ Ap rfl;refine I ?_;exact Or.inl (tG Ap.2);refine⟨λKY _ FR Ar O=>?_,?_⟩;obtain⟨KY,rfl⟩:=aU Ar;have K2:=(xt E FR);have Aq:=bh (O 1 17 Z Z);have H2:=bh (O 2 18 Z Z);refine cl oS (wY ql q9m (ht.ext K2)) ?_ (aw Aq (aw H2 Z));rintro _ _ Az rfl;refine I ?_;exact Or.inl (tG Az.2);refine⟨λKM _ _ E7 A1=>?_,?_⟩;obtain⟨KM,rfl⟩:=aU E7;have Kp:=bh (A1 3 19 Z Z);refine I ?_;exact Or.inl (tG (aa0 _));refine⟨λA2 _ _ Am Ab=>?_,?_⟩;obtain⟨A2,rfl⟩:=aU Am;have L1:=bh (Ab 4 20 Z Z);refine I ?_;exact Or.inl (tG (aa0 _));refine⟨λCG _ _ Ao CB=>?_,?_⟩;obtain⟨CG,rfl⟩:=aU Ao;have C0:=bh (CB 5 21 Z Z);have Li:=(C0.trans (qb2 Value.bool (qa1 DS)));refine I ?_;exact Or.inl (tG (aa0 _));refine⟨λny _ _ Ax od=>?_,?_⟩;obtain⟨ny,rfl⟩:=aU Ax;have H3:=bh (od 5 21 Z Z);have L4:=bh (od 6 22 Z Z);have La:=(H3.trans (qb2 Value.bool (qa1 DS)));refine I ?_
 exact Or.inl (tG (aa0 _));refine⟨λE1 _ W E0 Ay=>?_,?_⟩;obtain⟨E1,rfl⟩:=aU E0;have E5:=(xt E W);have B1:=bh (Ay 5 21 Z Z);have Lj:=(B1.trans (qb2 Value.bool (qa1 DS)));refine I ?_;refine clb Ce (hc:=yI (Vl dc) (Vl dc) dc (ht.ext E5)) (hk:=?_);rintro _ _ ES rfl;refine I ?_;exact Or.inl (tG ES.2);exact trivial;intro G0 _ EW GC H;obtain⟨G0,rfl⟩:=aU GC;have E:=xt E EW;have Af:=bh (H 5 21 Z Z);have L3:=(Af.trans (qb2 Value.bool (qa1 DS)));refine I ?_;have As:=bh (H 7 23 Z Z);have E9:=bh (H 8 24 Z Z);refine cl oS (wY ql q92 (ht.ext E)) ?_ (aw As (aw E9 Z));rintro _ _ B0 rfl;have E:=xt E B0.2;refine I ?_;refine cl fK dn ?_ (aw (qb2 Value.bool (qa1 DS)) Z);rintro _ _ CY rfl;have E:=xt E CY.2;refine I ?_;exact H8 (nh Z) E Z
def yJ (qa:Q9 a b)(ht:Tb w):
 CL 102 #[QV a b] w (aH w λv w'=>v=.bool (decide (0<aQ (a*1) (100*b)))):=by
 refine aC func102 Z (I ?_);refine bx (λ_ H _=>?_);have E:=H.2;refine I ?_;refine IU li 2 aN ac3 (λ_ _ _=>xt) [(fun(v:Value) (_:World)=>v=(QV a b:Value)),(fun(v:Value) (_:World)=>v=(QV 100 1:Value))] ⟨λ_ _ _ _ h=>h,λ_ _ _ _ h=>h,trivial⟩ q0 q0 q0 ?_ ?_;refine⟨λA2 _ _ A1 _=>?_,?_⟩;obtain⟨A2,rfl⟩:=aU A1;refine I ?_;exact Or.inl (tG (aa0 _));refine⟨λny _ Ab od _=>?_,?_⟩;obtain⟨ny,rfl⟩:=aU od;have Af:=(xt E Ab);refine clb Ce (hc:=yI (Vl dc) (Vl dc) dc (ht.ext Af)) (hk:=?_);rintro _ _ O rfl;refine I ?_;exact Or.inl (tG O.2);exact trivial;intro W _ Ao wr G;obtain⟨W,rfl⟩:=aU wr;have E:=xt E Ao;have Am:=bh (G 0 3 Z Z);have nm:=bh (G 1 4 Z Z);refine cl oS (wY qa q9h (ht.ext E)) ?_ (aw Am (aw nm Z));rintro _ _ A0 rfl;have E:=xt E A0.2;refine I ?_;exact am (t:=2) (v:=.bool (decide (0<(aQ (a*1) (100*b))))) Z E Z Z
end
end Go.Proofs.YtlmihmlnpjkblaaGreatDoor
namespace Go.Eng
open Go Go.RowKit
variable {l:List Oper}{d a s ty i j t b n0:Nat}{ls:Nat->Bool}{e:Nat->Value}{w w':World}
def lY:List (Option (Nat×Value))->Nat->Option (Option (Nat×Value))
 |[],_=>none
 |x::_,0=>some x
 |_::l,i+1=>lY l i
def VL (L:List (Option (Nat×Value)))(ls:Nat->Bool)(e:Nat->Value):Prop:=∀i d v,lY L i=some (some (d,v))->ls i=true->e d=v
def XM:Option Nat->Nat->Bool
 |none,_=>false
 |some a,b=>Nat.beq a b
def UM:List Oper->Bool
 |[]=>true
 |o::l=>(match o.dst with|none=>true|some d=>l.all λp=>!XM p.dst d)&&UM l
def Vn:List Oper->List (Option (Nat×Value))->Bool
 |_,[]=>true
 |[],_::_=>false
 |o::os,x::xs=>(match x with|none=>true|some y=>XM o.dst y.1)&&Vn os xs
def inD (D:List Nat)(l:List Oper):Bool:=l.all λo=>match o.dst with|none=>true|some d=>Gk D d
def yK {o:Option Nat}:XM o d=true↔o=some d:=by
 cases o with
 |none=>simp[XM]
 |some a=>simp only[XM,Option.some.injEq];exact⟨qb4,λh=>by subst h;simp⟩
theorem FG:∀{l:List Oper} {i j d:Nat} {o p:Oper},UM l=true->l[i]?=some o->l[j]?=some p->o.dst=some d->p.dst=some d->i=j
 |[],i,_,_,_,_,_,h,_,_,_=>by simp at h
 |q::l,0,0,_,_,_,_,_,_,_,_=>rfl
 | q::l,0,j+1,d,o,p,h,ho,hp,hd,he=>by
   simp at ho;subst ho
   simp only[UM,hd,Bool.and_eq_true]at h
   have:=List.all_eq_true.1 h.1 p (qb0 (by simpa using hp))
   rw[yK.2 he]at this;cases this
 | q::l,i+1,0,d,o,p,h,ho,hp,hd,he=>by
   simp at hp;subst hp
   simp only[UM,he,Bool.and_eq_true]at h
   have:=List.all_eq_true.1 h.1 o (qb0 (by simpa using ho))
   rw[yK.2 hd]at this;cases this
 | q::l,i+1,j+1,d,o,p,h,ho,hp,hd,he=>by
   simp only[UM,Bool.and_eq_true]at h
   have e:=FG h.2 (by simpa using ho) (by simpa using hp) hd he
   omega
def yL:∀{l:List Oper} {L:List (Option (Nat×Value))} {i d:Nat} {v:Value},Vn l L=true->lY L i=some (some (d,v))->∃o,l[i]?=some o/\o.dst=some d
 |_,[],i,_,_,_,h=>by cases i <;>cases h
 |[],_::_,_,_,_,h,_=>by cases h
 | o::os,x::xs,0,d,v,h,hx=>by
   cases hx
   simp only[Vn,Bool.and_eq_true]at h
   exact⟨o,rfl,yK.1 h.1⟩
 | o::os,x::xs,i+1,d,v,h,hx=>by
   simp only[Vn,Bool.and_eq_true]at h
   obtain⟨p,h1,h2⟩:=yL h.2 (show lY xs i=_ from hx)
   exact⟨p,by simpa using h1,h2⟩
section draws
variable {P:Program}{r:Option Nat}{n N:Nat}{e0:Nat->Value}{ds:List Deferred}{w0:World}{Q:Exit->Act->World->Prop}{M:Nat}
def r9 (N:Nat)(ds:List Deferred)(X:(Nat->Bool)->(Nat->Value)->World->Prop)(L:List (Option (Nat×Value)))(ls:Nat->Bool)(e:Nat->Value)(i:Nat)(dst:Option Nat):Exit->Act->World->Prop:=
 λx a' w'=>x=.normal/\∃v,a'=(act N e ds).put dst v/\(∀d u,lY L i=some (some (d,u))->v=u)/\X (eR ls i) (kJ e dst v) w'
def Zr (r:Option Nat)(n:Nat)(P:Program)(N:Nat)(ds:List Deferred)(l:List Oper)(D:List Nat)(L:List (Option (Nat×Value)))(X:(Nat->Bool)->(Nat->Value)->World->Prop)(e0:Nat->Value):Nat->List Oper->Prop
 |_,[]=>True
 |i,o::os=>(∀(e:Nat->Value) (w:World) (ls:Nat->Bool),(∀t,Gk D t=false->e t=e0 t)->(∀k d v,lY L k=some (some (d,v))->cF l i k=true->e d=v)->X ls e w->(∀j k,cF l j k=true->ls j=true->ls k=true)->ls i=false->(∀k,cF l i k=true->ls k=true)->
  wpListIn (Fw r) n P l.toArray (r9 N ds X L ls e i o.dst) [o] (act N e ds) w)/\Zr r n P N ds l D L X e0 (i+1) os
def FH {D:List Nat}{L:List (Option (Nat×Value))}{X:(Nat->Bool)->(Nat->Value)->World->Prop}(hnd:UM (l.take M)=true)(hmt:Vn (l.take M) L=true)(hD:inD D (l.take M)=true):
 ∀(os:List Oper) (i0:Nat),(∀k,os[k]?=(l.take M)[i0+k]?)->Zr r n P N ds l D L X e0 i0 os->
 tz r n P N ds l (λls e w=>(∀t,Gk D t=false->e t=e0 t)/\VL L ls e/\X ls e w) i0 os
 |[],_,_,_=>trivial
 | o ::os,i0,hk,h=>by
   refine⟨λe w ls hJ hcl hni hpr=>?_,FH hnd hmt hD os (i0+1) (λk=>by rw[show i0+1+k=i0+(k+1)by omega,<-hk (k+1)];rfl) h.2⟩
   obtain⟨hs,hv,hX⟩:=hJ
   have ho:(l.take M)[i0]?=some o:=by have:=hk 0;simpa using this.symm
   have hstep:=h.1 e w ls hs (λk d v hl Ab=>hv k d v hl (hpr k Ab)) hX hcl hni hpr
   refine tw (K1:=λa' w'=>∃v,a'=(act N e ds).put o.dst v/\(∀d u,lY L i0=some (some (d,u))->v=u)/\X (eR ls i0) (kJ e o.dst v) w') hstep (λa' w' hE=>?_)
   obtain⟨v,A1,A2,hX'⟩:=hE
   refine⟨v,A1,?_,?_,hX'⟩
   · cases hd:o.dst with
     |none=>exact hs
     | some d=>
       refine di ?_ hs
       have:=List.all_eq_true.1 hD o (qb0 ho)
       rw[hd]at this;exact this
   · intro j E H G hl
     by_cases hji:j=i0
     · subst hji
       obtain⟨p,O,W⟩:=yL hmt G
       rw[ho]at O
       cases O
       rw[W]
       show upd e E v E=H
       rw[kt];exact A2 E H G
     · have hl':ls j=true:=by
        have hb:Nat.beq j i0=false:=by
         cases hb:Nat.beq j i0 with
         |false=>rfl
         |true=>exact absurd (qb4 hb) hji
        unfold eR at hl;rw[hb]at hl;exact hl
       have A0:=hv j E H G hl'
       cases hd:o.dst with
       |none=>exact A0
       | some d=>
         show upd e d v E=H
         obtain⟨p,O,W⟩:=yL hmt G
         rw[upd_ne _ _ (λhh:E=d=>hji (FG hnd O ho (by rw[W,hh]) hd))]
         exact A0
def u5 {id:Nat}(hm:P.follows .mixedOrders=true)(M:Nat)(D:List Nat)(L:List (Option (Nat×Value)))(X:(Nat->Bool)->(Nat->Value)->World->Prop)(h0:X (λ_=>false) e0 w0.drew)(hwf:M3 l=true)(hshape:iv l M=true)(hchk:(UM (l.take M)&&(Vn (l.take M) L&&inD D (l.take M)))=true)(hstep:Zr r n P N ds l D L X e0 0 (l.take M))(hfin:∀(e:Nat->Value) (w:World) (ls:Nat->Bool),(∀j,Nat.blt j M=true->ls j=true)->(∀t,Gk D t=false->e t=e0 t)->(∀k d v,lY L k=some (some (d,v))->Nat.blt k M=true->e d=v)->X ls e w->wpListIn (Fw r) n P l.toArray Q (l.drop M) (act N e ds) w):
 (Code.region id l.toArray true).wpIn (Fw r) n P Q (act N e0 ds) w0:=by
 simp only[Bool.and_eq_true]at hchk
 refine IS hm M (λe0 ls e w=>(∀t,Gk D t=false->e t=e0 t)/\VL L ls e/\X ls e w) ⟨λ_ _=>rfl,(λ_ _ _ _ h=>by cases h),h0⟩ hwf hshape (FH hchk.1 hchk.2.1 hchk.2.2 _ 0 (λk=>by rw[Nat.zero_add]) hstep) ?_
 intro e w ls E hJ
 exact hfin e w ls E hJ.1 (λk d v hl hk=>hJ.2.1 k d v hl (E k hk)) hJ.2.2
def XA (w0:World)(a s d ty:Nat)(z v:Array Value)(ls:Nat->Bool)(e:Nat->Value)(w:World):Prop:=
 aN w0 w/\(ls a=true->∃b,e d=.pointer (some ⟨b,0,none⟩)/\w0.heap.size<=b/\ar w b ty (match ls s with|true=>v|false=>z))
def XA.start {z v:Array Value}:XA w0 a s d ty z v (λ_=>false) e0 w0.drew:=⟨ac3 w0,λh=>by cases h⟩
def e7 (h:Nat.beq j i=false):eR ls i j=ls j:=by unfold eR;rw[h]
def FI :eR ls i i=true:=by unfold eR;simp
def j2 {v:Value}(h:Nat.beq t d=false):upd e d v t=e t:=upd_ne _ _ (λE=>by subst E;simp at h)
def XA.fin {z v:Array Value}(h:XA w0 a s d ty z v ls e w)(ha:ls a=true)(hs:ls s=true\/z=v):∃b,e d=.pointer (some ⟨b,0,none⟩)/\w0.heap.size<=b/\ar w b ty v:=by
 obtain⟨b,h1,h2,h3⟩:=h.2 ha
 rcases hs with hs|hs
 · rw[hs]at h3;exact⟨b,h1,h2,h3⟩
 · subst hs;refine⟨b,h1,h2,?_⟩;cases hh:ls s <;>rw[hh]at h3 <;>exact h3
def XW (w0:World)(b s ty:Nat)(z v:Array Value)(ls:Nat->Bool)(_:Nat->Value)(w:World):Prop:=
 w0.grownBy w (some b)/\ar w b ty (match ls s with|true=>v|false=>z)
def XW.start {z v:Array Value}(h:ar w0 b ty z):XW w0 b s ty z v (λ_=>false) e0 w0.drew:=⟨ln (World.grownBy.refl w0 _) (ac3 w0),ad1 (ac3 w0) h⟩
def XW.fin {z v:Array Value}(h:XW w0 b s ty z v ls e w)(hs:ls s=true):ar w b ty v:=by
 have h3:=h.2
 rw[hs]at h3;exact h3
def XH (Rel:World->Prop)(n0 a d ty:Nat)(z:Array Value)(ls:Nat->Bool)(e:Nat->Value)(w:World):Prop:=
 Rel w/\n0<=w.heap.size/\(ls a=true->∃b,e d=.pointer (some ⟨b,0,none⟩)/\n0<=b/\ar w b ty z)
def XH.start {Rel:World->Prop}{z:Array Value}(h:Rel w0.drew):XH Rel w0.heap.size a d ty z (λ_=>false) e0 w0.drew:=⟨h,Below.size (ac3 w0),λh=>by cases h⟩
def dvH {Rel:World->Prop}{L:List (Option (Nat×Value))}{z:Array Value}{v:Value}{row:Option Nat}(hl:lY L i=some (some (d,v)))(hX:XH Rel n0 a t ty z ls e w)(h:Rel w')(k:w.grownBy w' row)(hr:∀g,row=some g->g<n0)(h1:Nat.beq a i=false:=by rfl)(h3:Nat.beq t d=false:=by rfl):
 r9 N ds (XH Rel n0 a t ty z) L ls e i (some d) .normal (act N (upd e d v) ds) w':=by
 refine⟨rfl,v,(ax ..).symm,(λ_ _ h=>by rw[hl]at h;cases h;rfl),h,qa8 hX.2.1 k.size,λE=>?_⟩
 rw[e7 h1]at E
 obtain⟨b,e1,e2,H⟩:=hX.2.2 E
 refine⟨b,?_,e2,aa3 k (λG=>by have:=hr b G.symm;omega) H⟩
 show upd e d v t=_
 rw[j2 h3];exact e1
def jC {Rel:World->Prop}{L:List (Option (Nat×Value))}{z:Array Value}{v:Value}(hl:lY L i=some (some (d,v)))(hX:XH Rel n0 a t ty z ls e w)(h:Rel w')(k:aN w w')(h1:Nat.beq a i=false:=by rfl)(h3:Nat.beq t d=false:=by rfl):
 r9 N ds (XH Rel n0 a t ty z) L ls e i (some d) .normal (act N (upd e d v) ds) w':=dvH hl hX h (ln (World.grownBy.refl w none) k) (λg h=>by cases h) h1 h3
end draws
end Go.Eng
namespace Go.Proofs.YtlmihmlnpjkblaaGreatDoor
open Go Go.Eng Go.RowKit Tryz
variable {a b' c' d':List UInt8}{cs lb vs:List Value}{d b c k off ft:Nat}{v:Value}
section
variable {P:Program}{r:Option Nat}{n:Nat}{Q:Exit->Act->World->Prop}{a:Act}{w:World}{c:Code}
def Zs (m:Nat)(h:c.wpIn (Fw r) n P (Exit.then (Code.roundsIn (Fw r) n P c Q m) Q) a w):(Code.loop c).wpIn (Fw r) n P Q a w:=wpIn_loop_rounds (m+1) h
def Zt {m:Nat}(h:c.wpIn (Fw r) n P (Exit.then (Code.roundsIn (Fw r) n P c Q m) Q) a w):Code.roundsIn (Fw r) n P c Q (m+1) a w:=h
end
section
variable {P:Program}{r:Option Nat}{n N:Nat}{e:Nat->Value}{ds:List Deferred}{w:World}{Q:Exit->Act->World->Prop}{K:Act->World->Prop}{t ty:Nat}{pos:String}{af:Array Edge}{g:Option (Nat×Bool)}{x y:Operand}
def XN {el:TypeId}{z:Value}{size bytes m:Nat}{parts:Array (Nat×Operand)}{vs:List (Nat×Value)}{cells:Array Value}(hu:P.underlying t=some (.slice el))(hi:gw P el z size bytes)(hp:(parts.toList.map fun(i,x)=>(i,ev N e x))=vs)(h24:m*size<=16777216)(hm:0<m*size)(hf:Instr.fill (λi=>some (i*size,size)) ((Array.range (m*size)).map (z.cells[· %z.cells.size]!)) vs=some cells)(hk:∀w',(w'.heap.size=w.heap.size+1/\aN w w')->ar w' w.heap.size el cells->K (act N (upd e d (.slice (some ⟨w.heap.size,0,none⟩) m m)) ds) w'):
 Oper.wpIn (Fw r) n P ⟨some d,.buildSlice t m parts,ty,pos,af,g⟩ (act N e ds) w K Q:=by
 obtain⟨i,E,G,H,_⟩:=hi.parts
 subst H
 refine cW (v:=.slice (some ⟨w.heap.size,0,none⟩) m m) (w':=w.alloc (.cells cells el)) Z ?_ (by
  rw[ax]
  exact hk _ ⟨by simp,ae1 _ _⟩ (heap_alloc_new w _))
 have hp':(parts.map fun(i,x)=>(i,ev N e x)).toList=vs:=by rw[<-hp];simp
 subst hp'
 have h2:¬m*i.size>2^24:=J
 have h3:¬(m*i.size=0):=J
 simp only[execOp,Instr.buildSlice,Sem.run_bind,run_underlying hu,Result.andThen_ok,sizeOf,typeInfo,run_program,E,Sem.run_pure,zeroValue,G,h2,if_false,h3,hf,newRow,run_newObj,World.alloc_eq]
end
def XB (X:(Nat->Bool)->(Nat->Value)->World->Prop)(a t el m:Nat)(cs:Array Value)(ls:Nat->Bool)(e:Nat->Value)(w:World):Prop:=
 X ls e w/\(ls a=true->∃b,e t=.slice (some ⟨b,0,none⟩) m m/\ar w b el cs)
section
variable {N:Nat}{ds:List Deferred}{X:(Nat->Bool)->(Nat->Value)->World->Prop}{L:List (Option (Nat×Value))}{ls:Nat->Bool}{e:Nat->Value}{i a t el m:Nat}{cs:Array Value}{w w' w0:World}
def XB.start (h:X (λ_=>false) e w):XB X a t el m cs (λ_=>false) e w:=⟨h,λh=>by cases h⟩
def XB.up (hB:XB X a t el m cs ls e w)(hX:X (eR ls i) (upd e d v) w')(k:aN w w')(h1:Nat.beq a i=false:=by rfl)(h3:Nat.beq t d=false:=by rfl):XB X a t el m cs (eR ls i) (upd e d v) w':=by
 refine⟨hX,λE=>?_⟩
 rw[e7 h1]at E
 obtain⟨b,p,q⟩:=hB.2 E
 exact⟨b,by rw[j2 h3];exact p,ad1 k q⟩
def XA.up {a s t ty:Nat}{z u:Array Value}(hX:XA w0 a s t ty z u ls e w)(k:aN w w')(h1:Nat.beq a i=false:=by rfl)(h2:Nat.beq s i=false:=by rfl)(h3:Nat.beq t d=false:=by rfl):XA w0 a s t ty z u (eR ls i) (upd e d v) w':=by
 refine⟨aN.trans hX.1 k,λE=>?_⟩
 rw[e7 h1]at E
 obtain⟨b,e1,e2,G⟩:=hX.2 E
 exact⟨b,by rw[j2 h3];exact e1,e2,by rw[e7 h2];exact ad1 k G⟩
end
def XK (X:(Nat->Bool)->(Nat->Value)->World->Prop)(n0 a1 t1 a t ty:Nat)(z:Array Value)(ls:Nat->Bool)(e:Nat->Value)(w:World):Prop:=
 X ls e w/\(ls a=true->∃b,e t=pT b/\n0<=b/\ar w b ty z/\(ls a1=true->e t1≠pT b))
section
variable {N:Nat}{ds:List Deferred}{X:(Nat->Bool)->(Nat->Value)->World->Prop}{Rel:World->Prop}{L:List (Option (Nat×Value))}{ls:Nat->Bool}{e:Nat->Value}{n0 i a t ty a1 t1 ty1:Nat}{z z1:Array Value}{w w':World}
def XK.start (h:X (λ_=>false) e w):XK X n0 a1 t1 a t ty z (λ_=>false) e w:=⟨h,λh=>by cases h⟩
def sY {ex:Exit}{a':Act}(h:r9 N ds X L ls e i (some d) ex a' w')(hK:XK X n0 a1 t1 a t ty z ls e w)(k:∀b,n0<=b->ar w b ty z->ar w' b ty z)(h1:Nat.beq a i=false:=by rfl)(h2:Nat.beq a1 i=false:=by rfl)(h3:Nat.beq t d=false:=by rfl)(h4:Nat.beq t1 d=false:=by rfl):
 r9 N ds (XK X n0 a1 t1 a t ty z) L ls e i (some d) ex a' w':=by
 obtain⟨rfl,v,e1,e2,G⟩:=h
 refine⟨rfl,v,e1,e2,G,λE=>?_⟩
 rw[e7 h1]at E
 obtain⟨b,p,q,r,s⟩:=hK.2 E
 refine⟨b,?_,q,k b q r,λhb=>?_⟩
 · show upd e d v t=_;rw[j2 h3];exact p
 · rw[e7 h2]at hb
   show upd e d v t1≠_;rw[j2 h4];exact s hb
def XO (hl:lY L a1=some none)(hX:X (eR ls a1) (upd e t1 (pT w.heap.size)) w')(hK:XK X n0 a1 t1 a t ty z ls e w)(k:∀b,n0<=b->ar w b ty z->ar w' b ty z)(h1:Nat.beq a a1=false:=by rfl)(h3:Nat.beq t t1=false:=by rfl):
 r9 N ds (XK X n0 a1 t1 a t ty z) L ls e a1 (some t1) .normal (act N (upd e t1 (pT w.heap.size)) ds) w':=by
 refine⟨rfl,_,(ax ..).symm,(λ_ _ h=>by rw[hl]at h;cases h),hX,λG=>?_⟩
 rw[e7 h1]at G
 obtain⟨b,p,q,r,s⟩:=hK.2 G
 refine⟨b,?_,q,k b q r,λ_=>?_⟩
 · show upd e t1 _ t=_;rw[j2 h3];exact p
 · show upd e t1 _ t1≠_
   rw[kt]
   intro E
   have:=ar.lt r
   injection E with E;injection E with E;injection E with E
   omega
def XP (hl:lY L a=some none)(hX:X (eR ls a) (upd e t (pT w.heap.size)) w')(hn:n0<=w.heap.size)(hb:ar w' w.heap.size ty z)(hne:ls a1=true->e t1≠pT w.heap.size)(h1:Nat.beq a1 a=false:=by rfl)(h3:Nat.beq t1 t=false:=by rfl):
 r9 N ds (XK X n0 a1 t1 a t ty z) L ls e a (some t) .normal (act N (upd e t (pT w.heap.size)) ds) w':=by
 refine⟨rfl,_,(ax ..).symm,(λ_ _ h=>by rw[hl]at h;cases h),hX,λ_=>⟨w.heap.size,?_,hn,hb,λhb=>?_⟩⟩
 · show upd e t _ t=_;rw[kt]
 · rw[e7 h1]at hb
   show upd e t _ t1≠_
   rw[j2 h3];exact hne hb
def XH.new (hX:XH Rel n0 a1 t1 ty1 z1 ls e w)(h:Rel w')(k:aN w w')(hb:ar w' w.heap.size ty1 z1):XH Rel n0 a1 t1 ty1 z1 (eR ls a1) (upd e t1 (pT w.heap.size)) w':=
 ⟨h,qa8 hX.2.1 k.size,λ_=>⟨w.heap.size,kt ..,hX.2.1,hb⟩⟩
def XH.keep (hX:XH Rel n0 a1 t1 ty1 z1 ls e w)(h:Rel w')(k:aN w w')(h1:Nat.beq a1 i=false:=by rfl)(h3:Nat.beq t1 d=false:=by rfl):XH Rel n0 a1 t1 ty1 z1 (eR ls i) (upd e d v) w':=by
 refine⟨h,qa8 hX.2.1 k.size,λE=>?_⟩
 rw[e7 h1]at E
 obtain⟨b,p,q,r⟩:=hX.2.2 E
 exact⟨b,by rw[j2 h3];exact p,q,r.ext k⟩
def XH.ne (hX:XH Rel n0 a1 t1 ty1 z1 ls e w)(ha:ls a1=true):e t1≠pT w.heap.size:=by
 obtain⟨b,p,q,r⟩:=hX.2.2 ha
 rw[p]
 intro E
 have:=ar.lt r
 injection E with E;injection E with E;injection E with E
 omega
def LU (h1:v=pT b)(h2:v≠pT c):b≠c:=λh=>h2 (by rw[h1,h])
end
def Zu:prog.eqGuardType prog.depth 33=false:=by kernel_rfl
def XQ:prog.stoodInHeld 33=false:=by kernel_rfl
def yM (w:World)(cs:Array Value)(i:Nat)(v:Value)(h:cs[i]?=some v):(part 9 cs i).run prog w=.ok v w:=by
 unfold part
 simp[isAgg,run_underlying underlying9,h]
def XR (w:World)(a b:List UInt8)(d:Nat):(Op.equalIn (d+1) 9 (S a) (S b)).run prog w=.ok (decide (a=b)) w:=by
 unfold Op.equalIn
 simp[run_underlying underlying9,S]
 have h:∀x y:ByteArray,(x==y)=(x.data==y.data):=λx y=>by cases x;cases y;rfl
 rw[h]
 exact Bool.eq_iff_iff.2 zd
def XT (w:World)(a b:R):(Op.equal 33 (.agg #[S a.1,S a.2]) (.agg #[S b.1,S b.2])).run prog w=.ok (decide (a=b)) w:=by
 unfold Op.equal Op.maxDepth
 show(Op.equalIn (9998+1+1) 33 _ _).run _ _=_
 unfold Op.equalIn
 obtain⟨a1,E⟩:=a
 obtain⟨b1,b2⟩:=b
 have G:=yM w #[S a1,S E] 0 (S a1) Z
 have p2:=yM w #[S a1,S E] 1 (S E) Z
 have p3:=yM w #[S b1,S b2] 0 (S b1) Z
 have p4:=yM w #[S b1,S b2] 1 (S b2) Z
 have e1:=XR w a1 b1 9998
 have e2:=XR w E b2 9998
 simp[run_underlying underlying33,XQ,G,p2,p3,p4,e1,e2]
 by_cases h1:a1=b1 <;>by_cases h2:E=b2 <;>simp[h1,h2]
section
variable {r:Option Nat}{n N:Nat}{e:Nat->Value}{ds:List Deferred}{w:World}{Q:Exit->Act->World->Prop}{K:Act->World->Prop}
variable {ty:Nat}{pos:String}{af:Array Edge}{g:Option (Nat×Bool)}{u:Value}{x y:Operand}{t t':TypeId}
def LV {op:BinOp}(x y:Operand)(a b:Array Value):(eqGuard op 33 x y (.agg a) (.agg b)).run prog w=.ok () w:=by
 unfold eqGuard
 cases op <;>simp[Zu]
def FJ {a b:R}{q:Bool}(hx:ev N e x=.agg #[S a.1,S a.2])(hy:ev N e y=.agg #[S b.1,S b.2])(hq:decide (a=b)=q)(hk:K (act N (upd e d (.bool q)) ds) w):
 Oper.wpIn (Fw r) n prog ⟨some d,.binOp .eql 33 x y t',ty,pos,af,g⟩ (act N e ds) w K Q:=
 dQ hx hy (LV ..) (by subst hq;simp[binOp,XT]) hk
end
section
variable {P:Program}{r:Option Nat}{n N:Nat}{e:Nat->Value}{ds:List Deferred}{w:World}{Q:Exit->Act->World->Prop}{K:Act->World->Prop}
variable {ty:Nat}{pos:String}{af:Array Edge}{g:Option (Nat×Bool)}{u:Value}{x y:Operand}{t t':TypeId}
def u9 {fs:Array Field}{f:Field}{D:TypeDesc}(hu:P.underlying t=some (.struct fs))(hf:fs[k]?=some f)(ho:f.offset=off)(hft:f.type=ft)(hD:P.underlying ft=some D)(hd:D.isRow=false)(hx:ev N e x=.agg cs.toArray)(hv:cs[off]?=some v)(hk:K (act N (upd e d v) ds) w):Oper.wpIn (Fw r) n P ⟨some d,.field t x k,ty,pos,af,g⟩ (act N e ds) w K Q:=by
 subst ho hft
 refine cW (v:=v) (w':=w) Z ?_ Hx
 have E:(isAgg f.type).run P w=.ok false w:=by
  unfold isAgg
  rw[Sem.run_bind,run_underlying hD w]
  cases D <;>simp_all
 have hv':cs.toArray[f.offset]?=some v:=by rw[List.getElem?_toArray];exact hv
 simp[execOp,hx,Instr.field,run_underlying hu,hf,asAgg,part,E,hv]
end
def PI (w:World)(a b c d:List UInt8):(part 33 #[S a,S b,S c,S d] 0).run prog w=.ok (.agg #[S a,S b]) w:=by
 unfold part
 simp[isAgg,run_underlying underlying33]
def PK (w:World)(a b c d:List UInt8):(part 33 #[S a,S b,S c,S d] 2).run prog w=.ok (.agg #[S c,S d]) w:=by
 unfold part
 simp[isAgg,run_underlying underlying33]
section
variable {r:Option Nat}{n N:Nat}{e:Nat->Value}{ds:List Deferred}{w:World}{Q:Exit->Act->World->Prop}{K:Act->World->Prop}
variable {ty:Nat}{pos:String}{af:Array Edge}{g:Option (Nat×Bool)}{u:Value}{x y z:Operand}{t t':TypeId}{G:R->R×R}{q:R}
def Bf {R:Value->World->Prop}{f:FuncId}{xs:Array Operand}{ats:Array TypeId}(hf:Enters prog f)(hx:ev N e x=.func (.func f) #[] lb.toArray)(hv:xs.toList.map (ev N e)=vs)(hc:CL f (vs++lb).toArray w (kv R))(hk:∀v w',R v w'->K (act N (upd e d v) ds) w'):Oper.wpIn (Fw r) n prog ⟨some d,.call {callee:=.value x,args:=xs,argTypes:=ats},ty,pos,af,g⟩ (act N e ds) w K Q:=by
 subst hv
 have h2:xs.map (ev N e)++lb.toArray=(xs.toList.map (ev N e)++lb).toArray:=by simp
 refine⟨λf _=>kE r f,?_⟩
 have hs:(execOp (ev N e) ⟨some d,.call {callee:=.value x,args:=xs,argTypes:=ats},ty,pos,af,g⟩).run prog w=.ok (.enter f (xs.map (ev N e)++lb.toArray)) w:=by
  simp[execOp,resolve,Deferred.ofValue,hx,invoke,hf _ _]
 rw[iP Z,cS,hs]
 refine⟨(λh=>by rw[l9]at h;cases h),oH ((show CL f (xs.map (ev N e)++lb.toArray) w (kv R)from by rw[h2];exact hc).mono ?_)⟩
 intro e' w' h
 cases e' with
 | returned v=>
   show K ((act N e ds).put (some d) v) w'
   rw[ax];exact hk v w' h
 |panicked c=>exact h.elim
 |outgrown=>exact h.elim
def xa (hx:ev N e x=.agg #[S a,S b',S c',S d'])(hk:K (act N (upd e d (.agg #[S a,S b'])) ds) w):
 Oper.wpIn (Fw r) n prog ⟨some d,.field 144 x 0,ty,pos,af,g⟩ (act N e ds) w K Q:=by
 refine cW (v:=.agg #[S a,S b']) (w':=w) Z ?_ Hx
 have p:=PI w a b' c' d'
 simp[execOp,Instr.field,hx,run_underlying underlying144,asAgg,p]
def Hs (hx:ev N e x=.agg #[S a,S b',S c',S d'])(hk:K (act N (upd e d (.agg #[S c',S d'])) ds) w):
 Oper.wpIn (Fw r) n prog ⟨some d,.field 144 x 1,ty,pos,af,g⟩ (act N e ds) w K Q:=by
 refine cW (v:=.agg #[S c',S d']) (w':=w) Z ?_ Hx
 have p:=PK w a b' c' d'
 simp[execOp,Instr.field,hx,run_underlying underlying144,asAgg,p]
end
end Go.Proofs.YtlmihmlnpjkblaaGreatDoor
