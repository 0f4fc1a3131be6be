/- Part of the proof of a statement about an adjustment. -/
import Derived.Test.YtlmihmlnpjkblaaGreatDoorLa2ToSp1X
import Derived.DeepKeys
set_option linter.all false
namespace Go.Proofs.YtlmihmlnpjkblaaGreatDoor
open Go Go.Eng Go.RowKit Tryz
variable {a b c d n1 d1 n2 d2 x y N D la lb:Int}{n lo t pl f k:Nat}{A:Option Addr}{w:World}
section
attribute [local irreducible] wpListIn Code.wpIn Oper.wpIn Exit.then Exit.inBlock Exit.noGoto
set_option maxHeartbeats 40000000
def Hj (x y:Int):aO x y=-aO y x:=by
 unfold aO;repeat' split
 all_goals first|rfl|omega
def AW (h1:a<b↔c<d)(h2:a=b↔c=d):aO a b=aO c d:=by
 unfold aO
 by_cases h:a<b
 · rw[if_pos h,if_pos (h1.1 h)]
 · rw[if_neg h,if_neg (λe=>h (h1.2 e))]
   by_cases h':a=b
   · rw[if_pos h',if_pos (h2.1 h')]
   · rw[if_neg h',if_neg (λe=>h' (h2.2 e))]
def LG (h:a-b=c-d):aO a b=aO c d:=AW U U
def AX (h1:0<d1)(h2:0<d2)(h:n1/d1<n2/d2):n1*d2<n2*d1:=by
 have W:=Int.lt_ediv_add_one_mul_self n1 h1
 have e2:=Int.ediv_mul_le n2 (show d2≠0 by omega)
 have G:(n1/d1+1)*d1<=(n2/d2)*d1:=Int.mul_le_mul_of_nonneg_right U U
 have E:n1*d2<(n2/d2)*d1*d2:=Int.mul_lt_mul_of_pos_right U h2
 have H:(n2/d2)*d2*d1<=n2*d1:=Int.mul_le_mul_of_nonneg_right e2 U
 have O:(n2/d2)*d1*d2=(n2/d2)*d2*d1:=by rw[Int.mul_assoc,Int.mul_comm d1 d2,<-Int.mul_assoc]
 omega
def XE (h1:0<d1)(h2:0<d2)(h:¬aO (n1/d1) (n2/d2)=0):aO (n1/d1) (n2/d2)=aO (n1*d2) (n2*d1):=by
 have E:n1/d1≠n2/d2:=λe=>h (jr e)
 rcases Int.lt_or_gt_of_ne E with hl|hl
 · rw[fV hl,fV (AX h1 h2 hl)]
 · rw[eL hl,eL (AX h2 h1 hl)]
def Hk (h:aO x y=0):x=y:=by
 unfold aO at h
 split at h
 · omega
 · split at h
   · assumption
   · omega
def FE (h:aO (n1/d1) (n2/d2)=0):aO (n1*d2) (n2*d1)=aO (n1%d1*d2) (n2%d2*d1):=by
 have e:=Hk h
 refine LG ?_
 have a1:=Int.mul_ediv_add_emod n1 d1
 have E:=Int.mul_ediv_add_emod n2 d2
 generalize n1/d1=p at *;generalize n2/d2=q at *;generalize n1%d1=r at *;generalize n2%d2=s at *
 subst e;subst a1;subst E
 rw[Int.add_mul,Int.add_mul,show d1*p*d2=d2*p*d1 by rw[Int.mul_comm d1 p,Int.mul_comm d2 p,Int.mul_assoc,Int.mul_comm d1 d2,<-Int.mul_assoc]]
 omega
def Px {sg:Int}(h:sg=1\/sg=-1):In64 (sg*aO x y):=by
 have h1:aO x y<=1/\-1<=aO x y:=by unfold aO;split;omega;split <;>omega
 unfold In64;rcases h with rfl|rfl <;>omega
section
variable {N1 D1 N2 D2 sg:Int}(hi:aO (N1*D2) (N2*D1)=sg*aO (n1*d2) (n2*d1))(h1:0<d1)(h2:0<d2)
include hi h1 h2
theorem XF (h:¬aO (n1/d1) (n2/d2)=0):sg*aO (n1/d1) (n2/d2)=aO (N1*D2) (N2*D1):=by rw[hi,XE h1 h2 h]
theorem XG (h:aO (n1/d1) (n2/d2)=0)(hr:ae (n1%d1)=[48])(hs:ae (n2%d2)=[48]):0=aO (N1*D2) (N2*D1):=by
 rw[hi,FE h,dO.1 hr,dO.1 hs];simp[aO]
theorem XI (h:aO (n1/d1) (n2/d2)=0)(hr:ae (n1%d1)=[48])(hs:¬ae (n2%d2)=[48]):-sg=aO (N1*D2) (N2*D1):=by
 have E:n2%d2≠0:=λe=>hs (dO.2 e)
 have h3:=Int.emod_nonneg n2 (show d2≠0 by omega)
 rw[hi,FE h,dO.1 hr,fV (by rw[Int.zero_mul];exact Int.mul_pos U h1)];omega
theorem XJ (h:aO (n1/d1) (n2/d2)=0)(hr:¬ae (n1%d1)=[48])(hs:ae (n2%d2)=[48]):sg=aO (N1*D2) (N2*D1):=by
 have E:n1%d1≠0:=λe=>hr (dO.2 e)
 have h3:=Int.emod_nonneg n1 (show d1≠0 by omega)
 rw[hi,FE h,dO.1 hs,eL (by rw[Int.zero_mul];exact Int.mul_pos U h2)];omega
theorem LH (h:aO (n1/d1) (n2/d2)=0)(hr:¬ae (n1%d1)=[48])(hs:¬ae (n2%d2)=[48]):
 aO (N1*D2) (N2*D1)=-sg*aO (d1*(n2%d2)) (d2*(n1%d1))/\0<n1%d1/\0<n2%d2:=by
 have G:n1%d1≠0:=λe=>hr (dO.2 e)
 have h3:=Int.emod_nonneg n1 (show d1≠0 by omega)
 have h4:n2%d2≠0:=λe=>hs (dO.2 e)
 have E:=Int.emod_nonneg n2 (show d2≠0 by omega)
 refine⟨?_,by omega,by omega⟩
 rw[hi,FE h,Hj (d1*_),Int.mul_comm d1,Int.mul_comm d2,Int.neg_mul_neg]
end
def LI {n:Int}(h:Fz d)(hd:0<d):Fz (n%d):=by
 have h1:=Int.emod_nonneg n (show d≠0 by omega)
 have h2:=Int.emod_lt_of_pos n hd
 unfold Fz at *;omega
set_option maxRecDepth 100000 in
theorem LJ {N1 D1 N2 D2:Int}(o1:bL (ae N1,ae D1)=true)(o2:bL (ae N2,ae D2)=true)(fN1:Fz N1)(fD1:Fz D1)(fN2:Fz N2)(fD2:Fz D2)(ht:Tb w):
 CL 26 #[.agg #[S (ae N1),S (ae D1)],.agg #[S (ae N2),S (ae D2)]] w (aI w λv w'=>v=.int .i64 (aO (N1*D2) (N2*D1))):=by
 have P1:0<D1:=by have:=cX o1;rwa [aK]at this
 have P2:0<D2:=by have:=cX o2;rwa [aK]at this
 refine aE func26 rfl ?_;refine I ?_;refine bx (λAs et ny=>?_);have Ax:=et.2;refine bx (λ_ fu Az=>?_);have⟨ny,Ax⟩:=bn fu.2 ny Ax;refine I ?_;refine cl r9 (dU (ae N1) (ae D1) _ (ht.ext Ax)) ?_;rintro _ _ g3 rfl;have⟨ny,Az,Ax⟩:=cj g3.2 ny Az Ax;refine I ?_;refine cl r9 (dU (ae N2) (ae D2) _ (ht.ext Ax)) ?_;rintro _ _ fB rfl;have⟨ny,Az,Ax⟩:=cj fB.2 ny Az Ax;refine I ?_;refine wpIn_label (em ?_);refine W8 [(4,12),(21,73)] (λfb e W=>∃n1:Int,∃d1:Int,∃n2:Int,∃d2:Int,∃sg:Int,(d1.toNat=fb)/\(e 5=.int .i64 sg)/\(0<d1)/\(0<d2)/\(Fz n1)/\(Fz d1)/\(Fz n2)/\(Fz d2)/\(sg=1\/sg=-1)/\(aO (N1*D2) (N2*D1)=sg*aO (n1*d2) (n2*d1))/\(aP w W)/\(ao W (w.heap.size) 33 #[S (ae n1),S (ae d1)])/\(ao W (As.heap.size) 33 #[S (ae n2),S (ae d2)])) ((D1).toNat) ⟨N1,D1,N2,D2,1,rfl,rfl,P1,P2,fN1,fD1,fN2,fD2,(Or.inl rfl),(Int.one_mul _).symm,Ax,ny,Az⟩ ?_;rintro _ _ _ ⟨n1,d1,n2,d2,sg,rfl,hS,Av,p2,E0,E9,E6,FR,fQ,hi,E,hB1,hB2⟩;refine I ?_;refine cl za (l8 (Y:=.tuple #[S (ae (n1/d1)),S (ae (n1%d1)),.int .i64 0]) (j6 _ _ _ (ht.ext E)) (qb2 vT (uP E0 E9 (Int.ne_of_gt Av) (kr E0 Av)))) ?_;rintro _ _ cb rfl;have⟨hB1,hB2,E⟩:=cj cb.2 hB1 hB2 E;refine I ?_
 refine cl za (l8 (Y:=.tuple #[S (ae (n2/d2)),S (ae (n2%d2)),.int .i64 0]) (j6 _ _ _ (ht.ext E)) (qb2 vT (uP E6 FR (Int.ne_of_gt p2) (kr E6 p2)))) ?_;rintro _ _ eB rfl;have⟨hB1,hB2,E⟩:=cj eB.2 hB1 hB2 E;refine I ?_;refine cl xr (l8 (Y:=.int .i64 (aO (n1/d1) (n2/d2))) (pm _ _ _) (qb2 (Value.int .i64) (K7 (kr E0 Av) (kr E6 p2)))) ?_;rintro _ bW fa rfl;have⟨hB1,hB2,E⟩:=cj fa.2 hB1 hB2 E;refine I ?_;by_cases ns:(aO (n1/d1) (n2/d2))=0;refine I ?_;by_cases np:(ae (n1%d1))=([48]);refine I ?_;refine sh (b:=[48]) ?_;refine I ?_;refine sh (b:=[48]) ?_;refine I ?_;by_cases wr:(ae (n2%d2))=([48]);refine I ?_;exact am (t:=4) (v:=.int .i64 0) rfl E (qb2 (Value.int .i64) (XG hi Av p2 ns np wr)) rfl;refine I ?_;refine sh (b:=[48]) ?_;refine I ?_;refine aa (y6 (a:=sg) rfl (by unfold In64;omega) ?_);refine I ?_;exact am (t:=4) (v:=.int .i64 (-sg)) rfl E (qb2 (Value.int .i64) (XI hi Av p2 ns np wr)) rfl;refine I ?_;refine sh (b:=[48]) ?_;refine I ?_;refine sh (b:=[48]) ?_;refine I ?_;refine sh (b:=[48]) ?_;refine I ?_;by_cases p6:(ae (n2%d2))=([48]);refine I ?_;exact am (t:=4) (v:=.int .i64 sg) rfl E (qb2 (Value.int .i64) (XJ hi Av p2 ns np p6)) rfl;refine I ?_;have B0:=ac1 bW
 refine IU sd 12 (λe0 ls e W=>(∀t,Gd [64,65,66,67,68,69,70,71,72,73] t=false->e t=e0 t)/\(aP w W)/\(bW.heap.size<=W.heap.size)/\(ls 0=true->e 64=.pointer (some ⟨w.heap.size,1,none⟩))/\(ls 1=true->e 65=S (ae d1))/\(ls 2=true->e 66=S (ae (n1%d1)))/\(ls 3=true->e 67=.agg #[S (ae d1),S (ae (n1%d1))])/\(ls 4=true->e 68=.pointer (some ⟨As.heap.size,1,none⟩))/\(ls 5=true->e 69=S (ae d2))/\(ls 6=true->e 70=S (ae (n2%d2)))/\(ls 7=true->e 71=.agg #[S (ae d2),S (ae (n2%d2))])/\(ls 8=true->e 72=.int .i64 sg)/\(ls 9=true->e 73=.int .i64 (-sg))/\(ls 10=false->ao W (w.heap.size) 33 #[S (ae n1),S (ae d1)])/\(ls 10=true->ao W (w.heap.size) 33 #[S (ae d1),S (ae (n1%d1))])/\(ls 11=false->ao W (As.heap.size) 33 #[S (ae n2),S (ae d2)])/\(ls 11=true->ao W (As.heap.size) 33 #[S (ae d2),S (ae (n2%d2))])) ⟨(λ_ _=>rfl),(xt E B0),(bz B0),(ff rfl),(ff rfl),(ff rfl),(ff rfl),(ff rfl),(ff rfl),(ff rfl),(ff rfl),(ff rfl),(ff rfl),(λ_=>(be B0 hB1)),(λh=>ff rfl h),(λ_=>(be B0 hB2)),(λh=>ff rfl h)⟩ (by kernel_rfl) (by kernel_rfl) ?_ ?_;refine⟨λhI bp E5 h0 CB C1 _=>?_,?_⟩;obtain⟨La,E,Aw,Ab,A2,Ap,Am,Af,O,Ao,G,H,A1,Aq,Ar,A0,nm⟩:=h0;obtain⟨hI,rfl⟩:=dK La;have hW:E5 1=false:=(bU CB (i:=0) (j:=1) rfl C1)
 have Wa:E5 10=false:=(bU CB (i:=0) (j:=10) rfl C1);have No:E5 11=false:=(bU CB (i:=0) (j:=11) rfl C1);have fW:ao bp (w.heap.size) 33 #[S (ae n1),S (ae d1)]:=Aq Wa;have hE:ao bp (As.heap.size) 33 #[S (ae n2),S (ae d2)]:=A0 No;refine I ?_;exact⟨rfl,_,(ax _ _ _ _ _).symm,(db rfl La),E,U,(λ_=>rfl),A2,Ap,Am,Af,O,Ao,G,H,A1,(λ_=>fW),(λdd=>ff Wa dd),(λ_=>hE),(λcv=>ff No cv)⟩;refine⟨λT2 GC B2 fR S0 KM eC=>?_,?_⟩;obtain⟨W0,E,Aw,Ab,A2,Ap,Am,Af,O,Ao,G,H,A1,Aq,Ar,A0,nm⟩:=fR;obtain⟨T2,rfl⟩:=dK W0;have cc:B2 0=true:=(eC 0 rfl);have WV:B2 10=false:=(bU S0 (i:=1) (j:=10) rfl KM);have Ix:B2 11=false:=(bU S0 (i:=1) (j:=11) rfl KM);have hX:T2 64=.pointer (some ⟨w.heap.size,1,none⟩):=Ab cc;have eQ:ao GC (w.heap.size) 33 #[S (ae n1),S (ae d1)]:=Aq WV;have bq:ao GC (As.heap.size) 33 #[S (ae n2),S (ae d2)]:=A0 Ix;refine I ?_;exact⟨rfl,_,(ax _ _ _ _ _).symm,(db rfl W0),E,U,Ab,(λ_=>rfl),Ap,Am,Af,O,Ao,G,H,A1,(λ_=>eQ),(λeX=>ff WV eX),(λ_=>bq),(λhD=>ff Ix hD)⟩;refine⟨λh8 a4 bb e3 L3 b0 _=>?_,?_⟩;obtain⟨X2,E,Aw,Ab,A2,Ap,Am,Af,O,Ao,G,H,A1,Aq,Ar,A0,nm⟩:=e3;obtain⟨h8,rfl⟩:=dK X2
 have K3:bb 10=false:=(bU L3 (i:=2) (j:=10) rfl b0);have ac:bb 11=false:=(bU L3 (i:=2) (j:=11) rfl b0);have eG:ao a4 (w.heap.size) 33 #[S (ae n1),S (ae d1)]:=Aq K3;have g1:ao a4 (As.heap.size) 33 #[S (ae n2),S (ae d2)]:=A0 ac;refine I ?_;exact⟨rfl,_,(ax _ _ _ _ _).symm,(db rfl X2),E,U,Ab,A2,(λ_=>rfl),Am,Af,O,Ao,G,H,A1,(λ_=>eG),(λfP=>ff K3 fP),(λ_=>g1),(λfx=>ff ac fx)⟩;refine⟨λCY bd B1 d3 Kp W2 Q0=>?_,?_⟩;obtain⟨T3,E,Aw,Ab,A2,Ap,Am,Af,O,Ao,G,H,A1,Aq,Ar,A0,nm⟩:=d3;obtain⟨CY,rfl⟩:=dK T3;have fS:B1 2=true:=(Q0 2 rfl);have gW:B1 1=true:=(Q0 1 rfl);have Lj:B1 10=false:=(bU Kp (i:=3) (j:=10) rfl W2);have KC:B1 11=false:=(bU Kp (i:=3) (j:=11) rfl W2);have eW:CY 65=S (ae d1):=A2 gW;have hL:CY 66=S (ae (n1%d1)):=Ap fS;have cw:ao bd (w.heap.size) 33 #[S (ae n1),S (ae d1)]:=Aq Lj;have cp:ao bd (As.heap.size) 33 #[S (ae n2),S (ae d2)]:=A0 KC;refine aa (bR (vs:=[(0,S (ae d1)),(1,S (ae (n1%d1)))]) (cells:=#[S (ae d1),S (ae (n1%d1))]) (pl:=[(0,1),(1,1)]) iO aY (by kernel_rfl) (c6 eW (c6 hL rfl)) (by kernel_rfl) ?_);refine I ?_
 exact⟨rfl,_,(ax _ _ _ _ _).symm,(db rfl T3),E,U,Ab,A2,Ap,(λ_=>rfl),Af,O,Ao,G,H,A1,(λ_=>cw),(λeP=>ff Lj eP),(λ_=>cp),(λcq=>ff KC cq)⟩;refine⟨λhC eb Li fN P0 H3 _=>?_,?_⟩;obtain⟨Vm,E,Aw,Ab,A2,Ap,Am,Af,O,Ao,G,H,A1,Aq,Ar,A0,nm⟩:=fN;obtain⟨hC,rfl⟩:=dK Vm;have hU:Li 5=false:=(bU P0 (i:=4) (j:=5) rfl H3);have KY:Li 11=false:=(bU P0 (i:=4) (j:=11) rfl H3);have hM:ao eb (As.heap.size) 33 #[S (ae n2),S (ae d2)]:=A0 KY;refine I ?_;exact⟨rfl,_,(ax _ _ _ _ _).symm,(db rfl Vm),E,U,Ab,A2,Ap,Am,(λ_=>rfl),O,Ao,G,H,A1,(λarr=>Aq arr),(λe1=>Ar e1),(λ_=>hM),(λcT=>ff KY cT)⟩;refine⟨λH4 ga a9 ed dq gs gb=>?_,?_⟩;obtain⟨bZ,E,Aw,Ab,A2,Ap,Am,Af,O,Ao,G,H,A1,Aq,Ar,A0,nm⟩:=ed;obtain⟨H4,rfl⟩:=dK bZ;have cy:a9 4=true:=(gb 4 rfl);have K2:a9 11=false:=(bU dq (i:=5) (j:=11) rfl gs);have hT:H4 68=.pointer (some ⟨As.heap.size,1,none⟩):=Af cy;have d6:ao ga (As.heap.size) 33 #[S (ae n2),S (ae d2)]:=A0 K2;refine I ?_;exact⟨rfl,_,(ax _ _ _ _ _).symm,(db rfl bZ),E,U,Ab,A2,Ap,Am,Af,(λ_=>rfl),Ao,G,H,A1,(λhN=>Aq hN),(λdC=>Ar dC),(λ_=>d6),(λft=>ff K2 ft)⟩;refine⟨λeS bv ea e5 cz c9 _=>?_,?_⟩
 obtain⟨ad,E,Aw,Ab,A2,Ap,Am,Af,O,Ao,G,H,A1,Aq,Ar,A0,nm⟩:=e5;obtain⟨eS,rfl⟩:=dK ad;have L4:ea 11=false:=(bU cz (i:=6) (j:=11) rfl c9);have f8:ao bv (As.heap.size) 33 #[S (ae n2),S (ae d2)]:=A0 L4;refine I ?_;exact⟨rfl,_,(ax _ _ _ _ _).symm,(db rfl ad),E,U,Ab,A2,Ap,Am,Af,O,(λ_=>rfl),G,H,A1,(λh5=>Aq h5),(λeq=>Ar eq),(λ_=>f8),(λeg=>ff L4 eg)⟩;refine⟨λE7 fy EW cm ce fc a2=>?_,?_⟩;obtain⟨L1,E,Aw,Ab,A2,Ap,Am,Af,O,Ao,G,H,A1,Aq,Ar,A0,nm⟩:=cm;obtain⟨E7,rfl⟩:=dK L1;have d0:EW 6=true:=(a2 6 rfl);have gv:EW 5=true:=(a2 5 rfl);have G0:EW 11=false:=(bU ce (i:=7) (j:=11) rfl fc);have hK:E7 69=S (ae d2):=O gv;have h7:E7 70=S (ae (n2%d2)):=Ao d0;have co:ao fy (As.heap.size) 33 #[S (ae n2),S (ae d2)]:=A0 G0;refine aa (bR (vs:=[(0,S (ae d2)),(1,S (ae (n2%d2)))]) (cells:=#[S (ae d2),S (ae (n2%d2))]) (pl:=[(0,1),(1,1)]) iO aY (by kernel_rfl) (c6 hK (c6 h7 rfl)) (by kernel_rfl) ?_);refine I ?_;exact⟨rfl,_,(ax _ _ _ _ _).symm,(db rfl L1),E,U,Ab,A2,Ap,Am,Af,O,Ao,(λ_=>rfl),H,A1,(λg0=>Aq g0),(λcf=>Ar cf),(λ_=>co),(λgn=>ff G0 gn)⟩;refine⟨λfX _ _ ask _ _ _=>?_,?_⟩
 obtain⟨VW,E,Aw,Ab,A2,Ap,Am,Af,O,Ao,G,H,A1,Aq,Ar,A0,nm⟩:=ask;obtain⟨fX,rfl⟩:=dK VW;refine I ?_;exact⟨rfl,_,(ax _ _ _ _ _).symm,(db rfl VW),E,U,Ab,A2,Ap,Am,Af,O,Ao,G,(λ_=>rfl),A1,(λg4=>Aq g4),(λcr=>Ar cr),(λcx=>A0 cx),(λhA=>nm hA)⟩;refine⟨λRm _ fl f3 _ _ h6=>?_,?_⟩;obtain⟨a0,E,Aw,Ab,A2,Ap,Am,Af,O,Ao,G,H,A1,Aq,Ar,A0,nm⟩:=f3;obtain⟨Rm,rfl⟩:=dK a0;have hB:fl 8=true:=(h6 8 rfl);have f9:Rm 72=.int .i64 (sg):=H hB;refine aa (y6 (a:=sg) f9 (by unfold In64;omega) ?_);refine I ?_;exact⟨rfl,_,(ax _ _ _ _ _).symm,(db rfl a0),E,U,Ab,A2,Ap,Am,Af,O,Ao,G,H,(λ_=>rfl),(λfi=>Aq fi),(λfD=>Ar fD),(λh9=>A0 h9),(λfz=>nm fz)⟩;refine⟨λW3 H2 E1 ch L2 X0 eD=>?_,?_⟩;obtain⟨N0,E,Aw,Ab,A2,Ap,Am,Af,O,Ao,G,H,A1,Aq,Ar,A0,nm⟩:=ch;obtain⟨W3,rfl⟩:=dK N0;have a8:E1 3=true:=(eD 3 rfl);have hR:E1 1=true:=(L2 3 1 rfl a8);have a6:E1 11=false:=(bU L2 (i:=10) (j:=11) rfl X0);have hQ:W3 67=.agg #[S (ae d1),S (ae (n1%d1))]:=Am a8;have er:ao H2 (w.heap.size) 33 #[S (ae n1),S (ae d1)]:=Aq X0;have ES:ao H2 (As.heap.size) 33 #[S (ae n2),S (ae d2)]:=A0 a6;refine SA er (λ_ fT gr=>?_);have⟨ES,E,_⟩:=ku fT ES E;refine I ?_
 exact⟨rfl,undef,rfl,N0,E,U,Ab,A2,Ap,Am,Af,O,Ao,G,H,A1,(λf0=>tf rfl f0),(λ_=>gr),(λ_=>ES),(λe4=>ff a6 e4)⟩;refine⟨λNe S9 Ay fC od g2 an=>?_,?_⟩;obtain⟨W1,E,Aw,Ab,A2,Ap,Am,Af,O,Ao,G,H,A1,Aq,Ar,A0,nm⟩:=fC;obtain⟨Ne,rfl⟩:=dK W1;have Cr:Ay 10=true:=(an 10 rfl);have hF:Ay 3=true:=(od 10 3 rfl Cr);have hY:Ay 1=true:=(od 3 1 rfl hF);have Lk:Ay 7=true:=(an 7 rfl);have hZ:Ay 5=true:=(od 7 5 rfl Lk);have hV:Ne 71=.agg #[S (ae d2),S (ae (n2%d2))]:=G Lk;have E4:ao S9 (w.heap.size) 33 #[S (ae d1),S (ae (n1%d1))]:=Ar Cr;have ct:ao S9 (As.heap.size) 33 #[S (ae n2),S (ae d2)]:=A0 g2;refine SA ct (λ_ d4 e6=>?_);have⟨E4,E,_⟩:=ku d4 E4 E;refine I ?_;exact⟨rfl,undef,rfl,W1,E,U,Ab,A2,Ap,Am,Af,O,Ao,G,H,A1,(λhO=>tf Cr hO),(λ_=>E4),(λej=>tf rfl ej),(λ_=>e6)⟩;exact trivial;intro a5 a3 _ CG d5;obtain⟨fG,E,Aw,Ab,A2,Ap,Am,Af,O,Ao,G,H,A1,Aq,Ar,A0,nm⟩:=d5;obtain⟨a5,rfl⟩:=dK fG;have dL:ao a3 (w.heap.size) 33 #[S (ae d1),S (ae (n1%d1))]:=Ar (CG 10 rfl);have hG:ao a3 (As.heap.size) 33 #[S (ae d2),S (ae (n2%d2))]:=nm (CG 11 rfl);have hP:a5 73=.int .i64 (-sg):=(A1 (CG 9 rfl));refine I ?_
 exact bJ (hk:=by have:=Int.emod_lt_of_pos n1 Av;have:=Int.emod_nonneg n1 (Int.ne_of_gt Av);omega) ⟨d1,n1%d1,d2,n2%d2,-sg,rfl,rfl,(LH hi Av p2 ns np p6).2.1,(LH hi Av p2 ns np p6).2.2,E9,(LI E9 Av),FR,(LI FR p2),U,(LH hi Av p2 ns np p6).1,E,dL,hG⟩;refine I ?_;refine aa (ri (a:=sg) (b:=aO (n1/d1) (n2/d2)) (c:=sg*aO (n1/d1) (n2/d2)) rfl rfl (Px fQ) rfl ?_);refine I ?_;exact am (t:=4) (v:=.int .i64 (sg*aO (n1/d1) (n2/d2))) rfl E (qb2 (Value.int .i64) (XF hi Av p2 ns)) rfl
set_option maxRecDepth 100000
def LK (n:Int):Lib.itoa n=ae n:=by
 unfold Lib.itoa ae
 split
 · rw[je]
 · rw[je];congr 1;omega
def qR (a b:Int):R:=(ae (qc a b),ae (dh a b))
def s9 (hb:b≠0):ii a b=some (qR a b):=by unfold ii;rw[if_neg hb];rfl
section
variable {b:Nat}{l m:List UInt8}
def Py (hB:ao w b 75 #[.bool false])(ht:Tb w)(hl:l=ae x)(hm:m=ae y)(fx:Fz x)(fy:Fz y)(fz:Fz (x*y)):
 CL 36 #[pT b,S l,S m] w (kn λv w'=>w.grownBy w' (some b)/\ao w' b 75 #[.bool false]/\v=S (ae (x*y))):=by
 have h:=mC hB ht l m
 subst hl hm
 rw[K6 fx fy fz]at h
 exact h
def Pz (hB:ao w b 75 #[.bool false])(ht:Tb w)(hl:l=ae x)(hm:m=ae y)(fx:Fz x)(fy:Fz y)(fz:Fz (x+y)):
 CL 84 #[pT b,.func (.func 186) #[] #[],S l,S m] w (kn λv w'=>w.grownBy w' (some b)/\ao w' b 75 #[.bool false]/\v=S (ae (x+y))):=by
 have h:=rJ (o:=xQ l m) hB ht Im (λW hW=>x5 _ _ W hW)
 subst hl hm
 rw[K5 fx fy fz]at h
 exact h
def tc (hB:ao w b 75 #[.bool false])(ht:Tb w)(hl:l=ae x)(hm:m=ae y)(fx:Fz x)(fy:Fz y)(h0:y≠0):
 CL 37 #[pT b,S l,S m] w (kn λv w'=>w.grownBy w' (some b)/\(∃q,ao w' b 75 #[.bool q])/\v=.tuple #[.agg #[S (qR x y).1,S (qR x y).2],.int .i64 0]):=by
 have h:=x7 hB ht l m
 subst hl hm
 rw[wC fx.int fy.int,aK,aK,s9 h0]at h
 exact h
def UJ (hB:ao w b 75 #[.bool false])(ht:Tb w){x y:List UInt8}{c:Nat}(hr:Rw w lo A [S x,S y])(hn:1=n)(hAb:∀ad,A=some ad->ad.block≠b)(ho:bL (x,y)=true):
 CL 35 #[pT b,.slice A n c] w (kn λv w'=>w.grownBy w' (some b)/\ao w' b 75 #[.bool false]/\v=.tuple #[]):=by
 have h:=pp (rs:=[(x,y)]) (c:=c) hB ht hr hn U hAb
 rw[show ck false [(x,y)]=false by simp[ck,ho]]at h
 exact h
end
def ve (N D t:Int)(up:Bool):Int:=if up=true/\¬ae (N*t%D)=[48]then N*t/D+1 else N*t/D
def Qv (a b:Int):Value:=.tuple #[.agg #[S (qR a b).1,S (qR a b).2],.int .i64 0]
def Zq {t:Int}{up:Bool}(h:up=true)(h0:¬ae (N*t%D)=[48]):Qv (N*t/D+1) t=Qv (ve N D t up) t:=by unfold ve;rw[if_pos ⟨h,h0⟩]
def Zr {t:Int}{up:Bool}(h0:ae (N*t%D)=[48]):Qv (N*t/D) t=Qv (ve N D t up) t:=by unfold ve;rw[if_neg (λe=>e.2 h0)]
def Zs {t:Int}{up:Bool}(h:up=false):Qv (N*t/D) t=Qv (ve N D t up) t:=by unfold ve;rw[if_neg (λe=>by rw[h]at e;exact absurd e.1 dc)]
def LL (h:N.natAbs<10^199)(hd:0<D):Fz (N/D+1):=by
 have h1:Fz (N/D):=kr (by unfold Fz;omega) hd
 have h2:(N/D).natAbs<10^199:=by
  rcases Int.le_total 0 N with h0|h0
  · have h1:=Int.ediv_nonneg h0 (Int.le_of_lt hd)
    have h2:=Int.ediv_le_self (b:=D) h0
    omega
  · have h1:N/D<=0:=Int.ediv_nonpos_of_nonpos_of_neg h0 hd
    have h2:N<=N/D:=by
     refine Int.le_ediv_of_mul_le hd ?_
     have E:0<=(-N)*(D-1):=Int.mul_nonneg U U
     rw[Int.neg_mul,Int.mul_sub,Int.mul_one]at E
     omega
    omega
 unfold Fz;omega
def iM {l m:List UInt8}(hl:l=ae a)(hm:m=ae b)(fa:Fz a)(fb:Fz b)(h0:b≠0)(ht:Tb w):
 CL 184 #[S l,S m] w (aI w λv w'=>v=.tuple #[.agg #[S (qR a b).1,S (qR a b).2],.int .i64 0]):=by
 subst hl hm;have Aq:(!isInt (ae b))=false:=by rw[fb.int];rfl
 refine aE func184 Z (I ?_);refine al aY (λ_ Ab G=>?_);have ht:=ab6 Ab.2 ht;have E:=Ab.2;refine I ?_;refine cl tv (iB (ae a) _) ?_;rintro _ _ A1 rfl;have ht:=ab6 A1.2 ht;have⟨G,E⟩:=bn A1.2 G E;refine I ?_;refine jC (s:=10) Z (qb2 Value.bool (qb2 Bool.not fa.int)) (I ?_);refine jC (s:=10) Z (qb2 Value.bool (qb2 Bool.not fa.int)) ?_;refine cl tv (iB (ae b) _) ?_;rintro _ Af O rfl;have ht:=ab6 O.2 ht;have⟨G,E⟩:=bn O.2 G E;refine jC (s:=10) Z (qb2 Value.bool (qb2 Bool.not fa.int)) (I ?_);refine aa (jd (t:=false) (v:=.bool (!(isInt (ae b)))) (qb2 Value.bool (qb2 Bool.not fa.int)) Z ?_);refine aa (bR (vs:=[(0,.bool (!(isInt (ae b))))]) (cells:=#[.bool (!(isInt (ae b)))]) (pl:=[(0,1)]) VE BJ q0 Z q0 ?_);refine bx (λAp H Ao=>?_);have ht:=ab6 H.2 ht;have⟨G,E⟩:=bn H.2 G E;refine I ?_;have Ar:ao Ap Af.heap.size 75 #[.bool false]:=by have h:=Ao;rw[Aq]at h;exact h
 refine I ?_;refine aa (bK (vs:=[pT Af.heap.size,S (ae a),S (ae b)]) tw Z (tc Ar ht Z Z fa fb h0) ?_);rintro _ _ ⟨A2,⟨As,W⟩,rfl⟩;have G:=aa3 A2 j0 G;have E:=cO E A2 (bz E) (λg Am=>by cases Am;omega);refine I ?_;refine SA G (λ_ A0 nm=>?_);have W:=pb A0 W;have E:=bh A0 E;refine I ?_;refine aX (v:=.tuple #[.agg #[S (qR a b).1,S (qR a b).2],.int .i64 0]) (cQ (r1:=.cell 4 33) (r2:=.tmp 5) Z ?_ ?_) E Z;refine ai (t:=4) (cs:=[S (qR a b).1,S (qR a b).2]) (b:=w.heap.size) (o:=0) iO Z bV ?_ ?_;exact Z;exact aa0 nm (i:=0) Z;exact aM (t:=5) WD _
def AY {n:Int}(hn:In64 n)(ht:Tb w):
 CL 185 #[.int .i64 n] w (aI w λv w'=>v=S (ae n)):=by
 have h1:-9223372036854775808<=n:=by unfold In64 at hn;omega
 have h2:n<=9223372036854775807:=by unfold In64 at hn;omega
 refine aE func185 Z (I ?_);refine cl Ii (l8 (Y:=S (ae n)) (xR _ _ h1 h2 (ht.ext (aa1 _))) (qb2 S (LK n))) ?_;rintro _ _ E rfl;have G:=E.2;refine I ?_;exact am (t:=2) (v:=S (ae n)) Z G Z Z
def XL {n:Int}(h:In64 n):Fz n:=by unfold In64 at h;unfold Fz;omega
def PC (ha:In64 a)(hb:In64 b)(h0:b≠0)(ht:Tb w):
 CL 147 #[.int .i64 a,.int .i64 b] w (aI w λv w'=>v=.tuple #[.agg #[S (qR a b).1,S (qR a b).2],.int .i64 0]):=by
 refine aE func147 Z (I ?_);refine al aY (λ_ O G=>?_);have E:=O.2;refine I ?_;refine cl tz (AY ha (ht.ext E)) ?_;rintro _ _ A2 rfl;have⟨G,E⟩:=bn A2.2 G E;refine I ?_;refine cl tz (AY hb (ht.ext E)) ?_;rintro _ _ A0 rfl;have⟨G,E⟩:=bn A0.2 G E;refine cl nR (iM Z Z (XL ha) (XL hb) h0 (ht.ext E)) ?_;rintro _ _ A1 rfl;have⟨G,E⟩:=bn A1.2 G E;refine I ?_;refine SA G (λ_ W H=>?_);have E:=bh W E;refine I ?_;refine aX (v:=.tuple #[.agg #[S (qR a b).1,S (qR a b).2],.int .i64 0]) (cQ (r1:=.cell 4 33) (r2:=.tmp 5) Z ?_ ?_) E Z;refine ai (t:=4) (cs:=[S (qR a b).1,S (qR a b).2]) (b:=w.heap.size) (o:=0) iO Z bV ?_ ?_;exact Z;exact aa0 H (i:=0) Z;exact aM (t:=5) WD _
def wZ {up:Bool}(ho:bL (ae N,ae D)=true)(fN:Fz N)(fD:Fz D)(hp:pl<=30)(hNT:(N*((10^pl:Nat):Int)).natAbs<10^199)(ht:Tb w):
 CL 148 #[.agg #[S (ae N),S (ae D)],.int .i64 pl,.bool up] w (aI w λv w'=>v=Qv (ve N D ((10^pl:Nat):Int) up) ((10^pl:Nat):Int)):=by
 have Aq:((10^pl:Nat):Int)≠0:=by have:=Nat.pow_pos (n:=pl) (show 0<10 by decide);omega
 have pD:0<D:=by have:=cX ho;rwa [aK]at this
 have fNT:Fz (N*((10^pl:Nat):Int)):=(by unfold Fz;omega);have Ap:pl<200:=U;have fT:Fi (10^pl):=Nat.pow_lt_pow_right dc U;refine aE func148 Z (I ?_);refine bx (λAw B0 G=>?_);have ht:=ab6 B0.2 ht;have E:=B0.2;refine al aY (λW CG H=>?_);have ht:=ab6 CG.2 ht;have⟨G,E⟩:=bn CG.2 G E;refine I ?_;refine aa (bR (vs:=[(0,.bool (decide (30<(pl:Int))))]) (cells:=#[.bool (decide (30<(pl:Int)))]) (pl:=[(0,1)]) VE BJ q0 Z q0 ?_);refine bx (λCB CY E6=>?_);have ht:=ab6 CY.2 ht;have⟨G,H,E⟩:=cj CY.2 G H E;refine I ?_;have A2:ao CB W.heap.size 75 #[.bool false]:=by have h:=E6;rw[decide_eq_false U]at h;exact h
 refine I ?_;refine BS (λ_ B2 _ E0=>?_);have ht:=ab6 B2 ht;have⟨G,H,A2,E⟩:=eY B2 G H A2 E;refine aa (bK (vs:=[pT W.heap.size,.slice (some ⟨CB.heap.size,0,none⟩) 1 1]) D8 Z (UJ A2 ht (aa7 E0) Z (λ_ e=>by cases e;simp;omega) ho) ?_);rintro _ _ ⟨Af,Ao,rfl⟩;have ht:=Tb.gr Af A2 dc ht;have G:=aa3 Af j0 G;have H:=aa3 Af j0 H;have E:=cO E Af (bz E) (λg O=>by cases O;omega);refine I ?_;refine clb Ij (hc:=qM [48] pl _ U dc) (hk:=?_);rintro _ _ C1 rfl;have ht:=ab6 C1.2 ht;have⟨G,H,Ao,E⟩:=eY C1.2 G H Ao E;refine aa (xo (a:=[49]) (b:=Lib.repeatL [48] pl) Z Z (by rw[q7];simp;omega) ?_);refine I ?_;refine aa (bK (vs:=[pT W.heap.size,S (ae N),S (([49])++(Lib.repeatL [48] pl))]) rt Z (Py Ao ht Z (p9 Ap) fN fT.z fNT) ?_);rintro _ _ ⟨A1,Am,rfl⟩;have ht:=Tb.gr A1 Ao dc ht;have G:=aa3 A1 j0 G;have H:=aa3 A1 j0 H;have E:=cO E A1 (bz E) (λg O=>by cases O;omega);refine I ?_;refine cl za (l8 (Y:=.tuple #[S (ae (N*((10^pl:Nat):Int)/D)),S (ae (N*((10^pl:Nat):Int)%D)),.int .i64 0]) (j6 _ _ _ ht) (qb2 vT (uP fNT fD (Int.ne_of_gt pD) (kr fNT pD)))) ?_;rintro _ _ nm rfl;have ht:=ab6 nm.2 ht;have⟨G,H,Am,E⟩:=eY nm.2 G H Am E;refine I ?_
 refine SO Am (λ_ As A0=>?_);have ht:=Tb.put As Am dc ht;have⟨G,H⟩:=kI As G H;have E:=bh As E;refine I ?_;rcases qa4 up with cw|cw;refine I ?_;refine Z2 (b:=[48]) (I ?_);by_cases wr:(ae (N*((10^pl:Nat):Int)%D))=([48]);refine I ?_;refine aa (bK (vs:=[pT W.heap.size,S (ae (N*((10^pl:Nat):Int)/D)),S (([49])++(Lib.repeatL [48] pl))]) tw Z (tc A0 ht Z (p9 Ap) (kr fNT pD) fT.z Aq) ?_);rintro _ _ ⟨Ar,⟨ES,Ay⟩,rfl⟩;have G:=aa3 Ar j0 G;have H:=aa3 Ar j0 H;have E:=cO E Ar (bz E) (λg O=>by cases O;omega);refine I ?_;refine SA H (λ_ Cr E1=>?_);have⟨G,Ay⟩:=kI Cr G Ay;have E:=bh Cr E;refine I ?_;refine aX (v:=.tuple #[.agg #[S ((qR (N*((10^pl:Nat):Int)/D) ((10^pl:Nat):Int)).1),S ((qR (N*((10^pl:Nat):Int)/D) ((10^pl:Nat):Int)).2)],.int .i64 0]) (cQ (r1:=.cell 6 33) (r2:=.tmp 7) Z ?_ ?_) E (Zr wr);refine ai (t:=6) (cs:=[S ((qR (N*((10^pl:Nat):Int)/D) ((10^pl:Nat):Int)).1),S ((qR (N*((10^pl:Nat):Int)/D) ((10^pl:Nat):Int)).2)]) (b:=Aw.heap.size) (o:=0) iO Z bV ?_ ?_
 exact Z;exact aa0 E1 (i:=0) Z;exact aM (t:=7) WD _;refine I ?_;refine aa (bK (vs:=[pT W.heap.size,.func (.func 186) #[] #[],S (ae (N*((10^pl:Nat):Int)/D)),S [49]]) ru Z (Pz A0 ht Z K8 (kr fNT pD) (by unfold Fz;decide) (LL hNT pD)) ?_);rintro _ _ ⟨Ab,E7,rfl⟩;have ht:=Tb.gr Ab A0 dc ht;have G:=aa3 Ab j0 G;have H:=aa3 Ab j0 H;have E:=cO E Ab (bz E) (λg O=>by cases O;omega);refine I ?_;refine aa (bK (vs:=[pT W.heap.size,S (ae (N*((10^pl:Nat):Int)/D+1)),S (([49])++(Lib.repeatL [48] pl))]) tw Z (tc E7 ht Z (p9 Ap) (LL hNT pD) fT.z Aq) ?_);rintro _ _ ⟨ny,⟨E9,Ax⟩,rfl⟩;have G:=aa3 ny j0 G;have H:=aa3 ny j0 H;have E:=cO E ny (bz E) (λg O=>by cases O;omega);refine I ?_;refine SA H (λ_ od E4=>?_);have⟨G,Ax⟩:=kI od G Ax;have E:=bh od E;refine I ?_;refine aX (v:=.tuple #[.agg #[S ((qR (N*((10^pl:Nat):Int)/D+1) ((10^pl:Nat):Int)).1),S ((qR (N*((10^pl:Nat):Int)/D+1) ((10^pl:Nat):Int)).2)],.int .i64 0]) (cQ (r1:=.cell 6 33) (r2:=.tmp 7) Z ?_ ?_) E (Zq cw wr)
 refine ai (t:=6) (cs:=[S ((qR (N*((10^pl:Nat):Int)/D+1) ((10^pl:Nat):Int)).1),S ((qR (N*((10^pl:Nat):Int)/D+1) ((10^pl:Nat):Int)).2)]) (b:=Aw.heap.size) (o:=0) iO Z bV ?_ ?_;exact Z;exact aa0 E4 (i:=0) Z;exact aM (t:=7) WD _;refine I ?_;refine aa (bK (vs:=[pT W.heap.size,S (ae (N*((10^pl:Nat):Int)/D)),S (([49])++(Lib.repeatL [48] pl))]) tw Z (tc A0 ht Z (p9 Ap) (kr fNT pD) fT.z Aq) ?_);rintro _ _ ⟨Av,⟨EW,Az⟩,rfl⟩;have G:=aa3 Av j0 G;have H:=aa3 Av j0 H;have E:=cO E Av (bz E) (λg O=>by cases O;omega);refine I ?_;refine SA H (λ_ B1 E5=>?_);have⟨G,Az⟩:=kI B1 G Az;have E:=bh B1 E;refine I ?_;refine aX (v:=.tuple #[.agg #[S ((qR (N*((10^pl:Nat):Int)/D) ((10^pl:Nat):Int)).1),S ((qR (N*((10^pl:Nat):Int)/D) ((10^pl:Nat):Int)).2)],.int .i64 0]) (cQ (r1:=.cell 6 33) (r2:=.tmp 7) Z ?_ ?_) E (Zs cw);refine ai (t:=6) (cs:=[S ((qR (N*((10^pl:Nat):Int)/D) ((10^pl:Nat):Int)).1),S ((qR (N*((10^pl:Nat):Int)/D) ((10^pl:Nat):Int)).2)]) (b:=Aw.heap.size) (o:=0) iO Z bV ?_ ?_;exact Z;exact aa0 E5 (i:=0) Z;exact aM (t:=7) WD _
def LM (ho:bL (ae N,ae D)=true)(fN:Fz N)(fD:Fz D)(hp:pl<=30)(hNT:(N*((10^pl:Nat):Int)).natAbs<10^199)(ht:Tb w):
 CL 100 #[.agg #[S (ae N),S (ae D)],.int .i64 pl] w (aI w λv w'=>v=.tuple #[.agg #[S ((qR (ve N D ((10^pl:Nat):Int) false) ((10^pl:Nat):Int)).1),S ((qR (ve N D ((10^pl:Nat):Int) false) ((10^pl:Nat):Int)).2)],.int .i64 0]):=by
 refine aE func100 Z (I ?_);refine bx (λA1 W G=>?_);have E:=W.2;refine al aY (λ_ A0 H=>?_);have⟨G,E⟩:=bn A0.2 G E;refine I ?_;refine cl Iy (wZ ho fN fD hp hNT (ht.ext E)) ?_;rintro _ _ A2 rfl;have⟨G,H,E⟩:=cj A2.2 G H E;refine I ?_;refine SA H (λ_ O Ab=>?_);have G:=pb O G;have E:=bh O E;refine I ?_;refine aX (v:=.tuple #[.agg #[S ((qR (ve N D ((10^pl:Nat):Int) false) ((10^pl:Nat):Int)).1),S ((qR (ve N D ((10^pl:Nat):Int) false) ((10^pl:Nat):Int)).2)],.int .i64 0]) (cQ (r1:=.cell 4 33) (r2:=.tmp 5) Z ?_ ?_) E Z;refine ai (t:=4) (cs:=[S ((qR (ve N D ((10^pl:Nat):Int) false) ((10^pl:Nat):Int)).1),S ((qR (ve N D ((10^pl:Nat):Int) false) ((10^pl:Nat):Int)).2)]) (b:=A1.heap.size) (o:=0) iO Z bV ?_ ?_;exact Z;exact aa0 Ab (i:=0) Z;exact aM (t:=5) WD _
def UK (ho:bL (ae N,ae D)=true)(fN:Fz N)(fD:Fz D)(hp:pl<=30)(hNT:(N*((10^pl:Nat):Int)).natAbs<10^199)(ht:Tb w):
 CL 101 #[.agg #[S (ae N),S (ae D)],.int .i64 pl] w (aI w λv w'=>v=.tuple #[.agg #[S ((qR (ve N D ((10^pl:Nat):Int) true) ((10^pl:Nat):Int)).1),S ((qR (ve N D ((10^pl:Nat):Int) true) ((10^pl:Nat):Int)).2)],.int .i64 0]):=by
 refine aE func101 Z (I ?_);refine bx (λA1 W G=>?_);have E:=W.2;refine al aY (λ_ A0 H=>?_);have⟨G,E⟩:=bn A0.2 G E;refine I ?_;refine cl Iy (wZ ho fN fD hp hNT (ht.ext E)) ?_;rintro _ _ A2 rfl;have⟨G,H,E⟩:=cj A2.2 G H E;refine I ?_;refine SA H (λ_ O Ab=>?_);have G:=pb O G;have E:=bh O E;refine I ?_;refine aX (v:=.tuple #[.agg #[S ((qR (ve N D ((10^pl:Nat):Int) true) ((10^pl:Nat):Int)).1),S ((qR (ve N D ((10^pl:Nat):Int) true) ((10^pl:Nat):Int)).2)],.int .i64 0]) (cQ (r1:=.cell 4 33) (r2:=.tmp 5) Z ?_ ?_) E Z;refine ai (t:=4) (cs:=[S ((qR (ve N D ((10^pl:Nat):Int) true) ((10^pl:Nat):Int)).1),S ((qR (ve N D ((10^pl:Nat):Int) true) ((10^pl:Nat):Int)).2)]) (b:=A1.heap.size) (o:=0) iO Z bV ?_ ?_;exact Z;exact aa0 Ab (i:=0) Z;exact aM (t:=5) WD _
def AZ:Nat->Nat->Nat
 |0,_=>0
 |f+1,n=>if n=0 then 0 else AZ f (n/10000)+1
def A3:∀{f n:Nat},n<10000^f->(ap 10000 n).length=AZ f n
 |0,n,h=>by rw[show n=0 by simpa using h,gm];rfl
 | f +1,n,h=>by
   unfold AZ
   split
   · rename_i h0;rw[h0,gm];rfl
   · rename_i h0
     rw[fO 10000 n U U,List.length_cons,A3 (f:=f)]
     rw[Nat.pow_succ]at h
     exact Nat.div_lt_of_lt_mul (by rw[Nat.mul_comm];exact h)
def PE:Nat->Nat->Nat->Option Nat
 |0,_,_=>none
 |f+1,n,t=>if t<=(t+n/t)/2 then some t else PE f n ((t+n/t)/2)
def UL (n:Nat):Option Nat:=PE 1000 n (10000^((AZ 60 n+1)/2))
def Zt {r:Nat}(h:PE f n t=some r)(hl:t<=(t+n/t)/2):r=t:=by
 cases f with
 |zero=>cases h
 |succ g=>unfold PE at h;rw[if_pos hl]at h;cases h;rfl
def Zu {r:Nat}(h:PE f n t=some r)(hl:¬t<=(t+n/t)/2):∃g,f=g+1/\PE g n ((t+n/t)/2)=some r:=by
 cases f with
 |zero=>cases h
 |succ g=>unfold PE at h;rw[if_neg hl]at h;exact⟨g,rfl,h⟩
def FF (k:Nat):ap 10000 (10000^k)=List.replicate k 0++[1]:=by
 induction k with
 |zero=>decide
 | succ k ih=>
   rw[fO 10000 _ U (Nat.pow_pos U),Nat.pow_succ,Nat.mul_mod_left,Nat.mul_div_cancel _ U,ih,List.replicate_succ,List.cons_append]
def PF {c:Nat}(h:Rw w lo A ((madeCells (Value.int .i64 0).cells (k*1)).toList++[Value.int .i64 1]))(hc:k+1<=c):ee w lo A (k+1) c (10000^k):=by
 refine⟨?_,by rw[FF];simp,hc⟩
 have e:(madeCells (Value.int .i64 0).cells (k*1)).toList++[Value.int .i64 1]=ints (ap 10000 (10000^k)):=by
  show(madeCells #[Value.int .i64 0] (k*1)).toList++_=_
  rw[qI,FF];simp[ints]
 rw[<-e];exact h
def PG (h:Rw w lo A [Value.int .i64 2]):ee w lo A 1 1 2:=by
 have e:ap 10000 2=[2]:=by decide
 exact⟨by rw[e];exact h,by rw[e];rfl,qa0 _⟩
def PH (n:Nat):body (nS n)=br n:=by unfold nS;rw[gE];simp
def UM (n:Nat):neg (nS n)=false:=by unfold nS;rw[qK];exact qa2 U
def LN (hn:Fi n):CL 119 #[S (nS n),S [48]] w (aI w λv w'=>∃A1 n1 c1 A2 n2 c2,v=.tuple #[.agg #[.bool false,.slice A1 n1 c1],.agg #[.bool false,.slice A2 n2 c2],.bool true]/\ee w' w.heap.size A1 n1 c1 n/\ee w' w.heap.size A2 n2 c2 0):=by
 have h:=lx (nS n) [48] w hn.z.int jJ
 rw[PH,UM,gD,show neg [48]=false from rfl,show aH (body [48])=0 from qJ]at h
 exact h
def LO (h:Fi n):n<10000^50:=qb1 h dc
def LP (hn:n<10000^50)(ht:t<=10000^26):t+n/t<10000^51:=by
 have h1:n/t<=n:=Nat.div_le_self _ _
 have h2:(10000:Nat)^50+10000^26<10000^51:=by decide
 omega
def PI (ht:t≤10000 ^ 26) : iC (bc (bO false t))=.tuple #[S (nS t),.int .i64 0]:=by
 have h : fits (bO false t) = true := qa1 (by have h2:(10000:Nat)^26<10^200:=by decide
                                              simp[bO];omega)
 unfold bc;rw[if_pos h];rfl
def oE :(0<=aO x y)↔y<=x:=by
 unfold aO;split
 · constructor <;>intro h <;>omega
 · split
   · constructor <;>intro _ <;>omega
   · constructor <;>intro _ <;>omega
def Zv {f:FuncId}{a:Array Value}{X Y:Value}(h:CL f a w (aI w λv _=>v=X))(e:X=Y):CL f a w (aI w λv _=>v=Y):=e▸h
def XM {x y:Nat}(h:(0:Int)<=aO (x:Int) (y:Int)):y<=x:=by
 rw[oE]at h
 omega
def XN {x y:Nat}(h:¬(0:Int)<=aO (x:Int) (y:Int)):¬y<=x:=by
 rw[oE]at h
 omega
def UN (hn:0<n)(ht:0<t):0<(t+n/t)/2:=by
 by_cases h:t=1
 · subst h;rw[Nat.div_one];omega
 · have h2:2<=t:=J
   exact Nat.div_pos (qa8 h2 (Nat.le_add_right _ _)) U
set_option maxRecDepth 100000 in
def FG {r:Nat}(fn:Fi n)(hn0:0<n)(hr:UL n=some r)(ht:Tb w):
 CL 226 #[S (nS n)] w (aI w λv w'=>v=.tuple #[S (nS r),.int .i64 0]):=by
 have EW:(ap 10000 n).length=AZ 60 n:=A3 (qb1 (LO fn) (Nat.pow_le_pow_right dc dc));refine aE func226 Z (I ?_);refine cl kE (LN fn) ?_;rintro _ E0 G0 ⟨A1,n1,c1,A2,n2,c2,rfl,hN,No⟩;have H:=G0.2;have uhN:=hN.hi;have La:=cM hN (LO fn);have L1:0<n1:=by rw[<-hN.len,List.length_pos_iff];exact λe=>by have:=cG 10000 U n;rw[e]at this;simp[bP]at this;omega
 refine I ?_;refine al bG (λwr E9 B2=>?_);have hN:=aa6 E9.2 hN;have H:=xt H E9.2;refine al bG (λ_ CY C1=>?_);have hN:=aa6 CY.2 hN;have⟨B2,H⟩:=bn CY.2 B2 H;refine SA B2 (λ_ E6 E=>?_);have hN:=ac0 E6 (λAo e=>by have:=uhN Ao e;omega) hN;have⟨C1,H,_⟩:=ku E6 C1 H;refine SA C1 (λCB Cr G=>?_);have hN:=ac0 Cr (λAo e=>by have:=uhN Ao e;omega) hN;have⟨E,H,_⟩:=ku Cr E H;refine I ?_;refine aa (cC (a:=(n1:Int)) (b:=1) (c:=((n1+1:Nat):Int)) Z Z zd U ?_);refine aa (wd (a:=((n1+1:Nat):Int)) (b:=2) (c:=((((n1+1)/2):Nat):Int)) Z Z U U zd U ?_);refine aa (mf (m:=((n1+1)/2)) gV kB Z Z U Rg (λ_ E7 _ Aw=>?_));have E4:(.slice (some ⟨CB.heap.size,0,none⟩) ((n1+1)/2) ((n1+1)/2):Value).ownBlock≠some (E0.heap.size):=λe=>by(have:=bt E;simp only[Value.ownBlock,Option.map_some,Option.some.injEq]at e;omega)
 have E5:(.slice (some ⟨CB.heap.size,0,none⟩) ((n1+1)/2) ((n1+1)/2):Value).ownBlock≠some (wr.heap.size):=λe=>by(have:=bt G;simp only[Value.ownBlock,Option.map_some,Option.some.injEq]at e;omega)
 have hN:=aa6 E7 hN;have⟨E,G,H⟩:=cj E7 E G H;refine BS (λ_ B0 _ GC=>?_);have hN:=aa6 B0 hN;have⟨E,G⟩:=gg B0 E G;have Aw:=ab B0 Aw;have H:=xt H B0;refine AP Aw (aa7 GC) (λKM K2 CG od E1=>?_);have N0:=aU E1 E4 (bt E);have P0:=aU E1 E5 (bt G);have hN:=ee.gr od (λAo e=>by have:=uhN Ao e;simp[Value.ownBlock];omega) hN;have E:=aa3 od (λe=>E4 e.symm) E;have G:=aa3 od (λe=>E5 e.symm) G;have H:=bo Aw U U H od;have L4:=od.size;refine aa (aL (v:=KM) Z ?_);refine I ?_;obtain⟨At,FR,rfl,KY,-,-,-⟩:=eO CG;have hT:=PF (aa7 CG) KY;have H4:PE 1000 n (10000^((n1+1)/2))=some r:=by rw[<-hN.len,EW];exact hr
 refine I ?_;refine cg [(2,3),(7,11),(32,60)] (λK3 e W=>∃f:Nat,∃Ax:Option Addr,∃Am:Nat,∃Ab:Nat,∃t:Nat,(f=K3)/\(e 7=.slice Ax Am Ab)/\(PE f n t=some r)/\(t<=10000^26)/\(0<t)/\(K2.heap.size<=W.heap.size)/\(aP w W)/\(ee W w.heap.size A1 n1 c1 n)/\(ao W E0.heap.size 161 #[.bool false,.slice A1 n1 c1])/\(ao W wr.heap.size 161 #[.bool false,.slice A2 n2 c2])/\(ee W w.heap.size Ax Am Ab t)) (1000) ⟨1000,At,((n1+1)/2)+1,FR,10000^((n1+1)/2),rfl,rfl,H4,(Nat.pow_le_pow_right dc U),(Nat.pow_pos dc),(qa0 _),H,hN,E,G,(hT.mono U)⟩ ?_;rintro _ _ _ ⟨f,Ax,Am,Ab,t,rfl,P2,hf,Ap,ES,Rm,O,hN,E,G,hT⟩;have lt:=cM (k:=27) hT (Nat.lt_of_le_of_lt Ap dc);refine I ?_;refine clb DX (hc:=sJ hN U hT U ES) (hk:=?_);rintro _ _ B1 ⟨Aq,Lk,Li,Ar,L3,S0,rfl,hQ,hRr⟩;have hN:=aa6 B1.2 hN;have⟨E,G⟩:=gg B1.2 E G;have hT:=aa6 B1.2 hT;have O:=xt O B1.2;have P1:=cM hQ (Nat.lt_of_le_of_lt (Nat.div_le_self _ _) (LO fn));refine I ?_;refine clb ze (hc:=o5 hT U hQ U) (hk:=?_);rintro _ _ nm ⟨As,Q0,cs,rfl,hS⟩;have hN:=aa6 nm.2 hN;have⟨E,G⟩:=gg nm.2 E G;have hT:=aa6 nm.2 hT;have O:=xt O nm.2;have ls:=cM hS (LP (LO fn) Ap);refine BS (λ_ Af _ H2=>?_);have hN:=aa6 Af hN;have⟨E,G⟩:=gg Af E G;have hT:=aa6 Af hT
 have hS:=aa6 Af hS;have O:=xt O Af;have Kp:=PG (aa7 H2);refine clb DX (hc:=sJ hS U Kp U dc) (hk:=?_);rintro _ _ Az ⟨Ay,ny,Ix,Ar2,L2,Ne,rfl,hY,hR2⟩;have hN:=aa6 Az.2 hN;have⟨E,G⟩:=gg Az.2 E G;have hT:=aa6 Az.2 hT;have O:=xt O Az.2;have Lj:=cM hY (Nat.lt_of_le_of_lt (Nat.div_le_self _ _) (LP (LO fn) Ap));refine I ?_;refine clb zf (hc:=jH hY U hT) (hk:=?_);rintro _ _ A0 rfl;have hN:=aa6 A0.2 hN;have⟨E,G⟩:=gg A0.2 E G;have hT:=aa6 A0.2 hT;have hY:=aa6 A0.2 hY;have O:=xt O A0.2;refine I ?_;by_cases v7:0<=(aO (((t+n/t)/2:Nat):Int) ((t:Nat):Int));have Av:=XM v7;have KC:=Zt hf Av;refine I ?_;refine aa (bR (vs:=[(1,.slice Ax Am Ab)]) (cells:=#[.bool false,.slice Ax Am Ab]) (pl:=[(0,1),(1,1)]) kD bG q0 Z q0 ?_);refine clb mj (hc:=Zv (fH (ng:=false) hT U (ht.ext O)) (PI Ap)) (hk:=?_);rintro _ _ H3 rfl;have O:=xt O H3.2;refine I ?_;exact bw (t:=2) (u:=3) (v1:=S (nS t)) (v2:=.int .i64 0) Z O (by rw[KC]) Z Z;have Av:=XN v7;obtain⟨g,rfl,h2⟩:=Zu hf Av;refine I ?_;exact bJ ⟨g,Ay,ny,Ix,(t+n/t)/2,rfl,rfl,h2,(by have:=Nat.not_le.1 Av;omega),(UN hn0 ES),U,O,hN,E,G,(hY.mono U)⟩
end
section
def mJ (S:Nat)(a:N2):Option N2:=if yu a=true/\0<a.1*S/\0<a.2*S then(UL (a.1*S)).bind λx=>(UL (a.2*S)).bind λy=>if yu (x,y)=true then some (x,y+1)else none else none
def LQ {S:Nat}{a r:N2}(h:mJ S a=some r):Bk 95 a/\0<a.1*S/\0<a.2*S/\∃x y,UL (a.1*S)=some x/\UL (a.2*S)=some y/\Bk 95 (x,y)/\r=(x,y+1):=by
 unfold mJ at h
 split at h
 · rename_i h1
   refine⟨fJ h1.1,h1.2.1,h1.2.2,?_⟩
   cases hx:UL (a.1*S)with
   |none=>rw[hx]at h;cases h
   | some x=>
     rw[hx,Option.bind_some]at h
     cases hy:UL (a.2*S)with
     |none=>rw[hy]at h;cases h
     | some y=>
       rw[hy,Option.bind_some]at h
       split at h
       · rename_i h2;cases h;exact⟨x,y,rfl,rfl,fJ h2,rfl⟩
       · cases h
 · cases h
def RD:List UInt8:=[51,49,52,49,53,57,50,54,53,51,53,56,57,55,57,51,50,51,56,52,54,50,54,52,51,51,56,51,50,55,57,53,48,50,56,56,52,49,57,55,49,54,57,51,57,57,51,55,53,49,48,53,56,50,48,57,55,52,57,52,52,53,57,50,51,48,55,56,49,54,52,48,54,50,56,54,50,48,56,57,57]
def vJ (k:Nat):Nat:=314159265358979323846264338327950288419716939937510582097494459230781640628620899/10^(80-k)
def LR (h:k<81):RD.take (k+1)=nS (vJ k):=by
 have:∀k:Fin 81,RD.take (k.1+1)=nS (vJ k.1):=by decide +kernel
 exact this ⟨k,h⟩
def XO :vJ k<10^81:=Nat.lt_of_le_of_lt (Nat.div_le_self _ _) dc
section
variable {n:Int}
def lL (hd:0<d):0<((Int.gcd n d:Nat):Int):=by have:=Int.gcd_pos_of_ne_zero_right n (show d≠0 by omega);omega
def A4 (hd:0<d):qc n d*((Int.gcd n d:Nat):Int)=n:=by
 unfold qc;rw[if_neg U];exact Int.ediv_mul_cancel (Int.gcd_dvd_left ..)
def yG (hd:0<d):dh n d*((Int.gcd n d:Nat):Int)=d:=by
 unfold dh;rw[if_neg U];exact Int.ediv_mul_cancel (Int.gcd_dvd_right ..)
def qb (hd:0<d):qc n d*d=n*dh n d:=by
 have h1:=A4 (n:=n) hd
 have h2:=yG (n:=n) hd
 generalize qc n d=a at *
 generalize dh n d=b at *
 generalize ((Int.gcd n d:Nat):Int)=g at *
 rw[<-h1,<-h2,Int.mul_comm b g,Int.mul_assoc]
def oF (hd:0<d):0<dh n d:=by
 have h2:=yG (n:=n) hd
 have E:=lL (n:=n) hd
 rcases Int.lt_or_le 0 (dh n d)with h|h
 · exact h
 · have:=Int.mul_nonpos_of_nonpos_of_nonneg h (Int.le_of_lt E);omega
def LS (hd:0<d):dh n d<=d:=by
 have h2:=yG (n:=n) hd
 have G:=lL (n:=n) hd
 have E:=oF (n:=n) hd
 have:=Int.mul_le_mul_of_nonneg_left (show(1:Int)<=((Int.gcd n d:Nat):Int)by omega) (Int.le_of_lt E)
 omega
def Dt (hd:0<d):(qc n d).natAbs<=n.natAbs:=by
 have h2:=qb2 Int.natAbs (A4 (n:=n) hd)
 have E:=lL (n:=n) hd
 rw[Int.natAbs_mul,Int.natAbs_natCast]at h2
 exact qa8 (Nat.le_mul_of_pos_right _ U) (Nat.le_of_eq h2)
def Du (hd:0<d):Int.gcd (qc n d) (dh n d)=1:=by
 have E:=lL (n:=n) hd
 have e:=Int.gcd_mul_right (qc n d) ((Int.gcd n d:Nat):Int) (dh n d)
 rw[A4 hd,yG hd,Int.natAbs_natCast]at e
 exact Nat.eq_of_mul_eq_mul_right (show 0<Int.gcd n d by omega) U
def XP (ha:Fz a)(hb:Fz b)(h0:0<b)(hg:Int.gcd a b=1):bL (ae a,ae b)=true:=by
 have e:bQ (ae a) (ae b)=some [49]:=by
  unfold bQ;rw[if_pos ka1,aK,aK,hg]
  decide +kernel
 unfold bL
 simp only[ha.int,hb.int,e]
 rw[gP hb.int,aK,decide_eq_false (by rw[da];omega)]
 rfl
def A5 (hd:0<d)(h:Fz n):Fz (qc n d):=Nat.lt_of_le_of_lt (Dt hd) h
def A6 (hd:0<d)(h:Fz d):Fz (dh n d):=by have:=oF (n:=n) hd;have:=LS (n:=n) hd;unfold Fz at *;omega
def LU (hd:0<d)(fn:Fz n)(fd:Fz d):bL (qR n d)=true:=XP (A5 hd fn) (A6 hd fd) (oF hd) (Du hd)
end
def UO {n:Int}(hd:0<d)(hg:Int.gcd n d=1):qR n d=(ae n,ae d):=by
 unfold qR qc dh;rw[hg,if_neg U,if_neg U];simp
def A7 (h:a∣b*c)(hg:Int.gcd a c=1):a∣b:=by
 have h1:a.natAbs∣b.natAbs*c.natAbs:=by rw[<-Int.natAbs_mul];exact Int.natAbs_dvd_natAbs.2 h
 exact Int.natAbs_dvd_natAbs.1 (Nat.Coprime.dvd_of_dvd_mul_right (show Nat.Coprime a.natAbs c.natAbs from hg) h1)
def LV (hb:0<b)(hd:0<d)(h1:Int.gcd a b=1)(h2:Int.gcd c d=1)(h:a*d=c*b):a=c/\b=d:=by
 have E:b∣d:=by
  have:b∣d*a:=⟨c,by rw[Int.mul_comm d a,h,Int.mul_comm]⟩
  exact A7 this (by rw[Int.gcd_comm];exact h1)
 have e2:d∣b:=by
  have:d∣b*c:=⟨a,by rw[Int.mul_comm b c,<-h,Int.mul_comm]⟩
  exact A7 this (by rw[Int.gcd_comm];exact h2)
 have e:=Int.dvd_antisymm U U E e2
 subst e
 exact⟨Int.eq_of_mul_eq_mul_right U h,rfl⟩
def Hl (hb:0<b)(hd:0<d)(h:a*d=c*b):qc a b=qc c d/\dh a b=dh c d:=by
 have h1:=qb (n:=a) hb
 have h2:=qb (n:=c) hd
 refine LV (oF hb) (oF hd) (Du hb) (Du hd) ?_
 have e:qc a b*dh c d*(b*d)=qc c d*dh a b*(b*d):=by
  calc qc a b*dh c d*(b*d)=(qc a b*b)*(dh c d*d):=by grind
   _=(a*dh a b)*(dh c d*d):=by rw[h1]
   _=(a*d)*(dh a b*dh c d):=by grind
   _=(c*b)*(dh a b*dh c d):=by rw[h]
   _=(c*dh c d)*(dh a b*b):=by grind
   _=(qc c d*d)*(dh a b*b):=by rw[h2]
   _=qc c d*dh a b*(b*d):=by grind
 exact Int.eq_of_mul_eq_mul_right (Int.ne_of_gt (Int.mul_pos hb hd)) e
def A8 (hb:0<b)(hd:0<d)(h:a*d=c*b):qR a b=qR c d:=by
 obtain⟨h1,h2⟩:=Hl hb hd h
 unfold qR;rw[h1,h2]
def UP (hb:0<b)(hd:0<d)(h:qR a b=qR c d):a*d=c*b:=by
 unfold qR at h
 have E:=mQ (qb2 Prod.fst h)
 have e2:=mQ (qb2 Prod.snd h)
 have h1:=A4 (n:=a) hb
 have h2:=yG (n:=a) hb
 have h3:=A4 (n:=c) hd
 have h4:=yG (n:=c) hd
 rw[<-E]at h3
 rw[<-e2]at h4
 generalize qc a b=p at *
 generalize dh a b=q at *
 rw[<-h1,<-h2,<-h3,<-h4];grind
def A9 {k:Int}(hk:0<k):aO (x*k) (y*k)=aO x y:=AW ⟨λh=>Int.lt_of_mul_lt_mul_right h (Int.le_of_lt hk),λh=>Int.mul_lt_mul_of_pos_right h hk⟩ ⟨λh=>Int.eq_of_mul_eq_mul_right U h,λh=>by rw[h]⟩
def PK (hb:0<b)(hd:0<d):aO (qc a b*dh c d) (qc c d*dh a b)=aO (a*d) (c*b):=by
 rw[<-A9 (Int.mul_pos (lL (n:=a) hb) (lL (n:=c) hd))]
 have h1:=A4 (n:=a) hb
 have h2:=yG (n:=a) hb
 have h3:=A4 (n:=c) hd
 have h4:=yG (n:=c) hd
 generalize qc a b=p at *
 generalize dh a b=q at *
 generalize qc c d=r at *
 generalize dh c d=s at *
 generalize ((Int.gcd a b:Nat):Int)=g at *
 generalize ((Int.gcd c d:Nat):Int)=k at *
 rw[<-h1,<-h2,<-h3,<-h4,show p*s*(g*k)=p*g*(s*k)by grind,show r*q*(g*k)=r*k*(q*g)by grind]
def Ba (hb:0<b)(hd:0<d)(fa:Fz a)(fb:Fz b)(fc:Fz c)(fd:Fz d)(ht:Tb w):
 CL 26 #[.agg #[S (qR a b).1,S (qR a b).2],.agg #[S (qR c d).1,S (qR c d).2]] w (aI w λv _=>v=.int .i64 (aO (a*d) (c*b))):=
 l8 (LJ (LU hb fa fb) (LU hd fc fd) (A5 hb fa) (A6 hb fb) (A5 hd fc) (A6 hd fd) ht) (qb2 (Value.int .i64) (PK hb hd))
def yH :aj (qR a b).1=qc a b/\aj (qR a b).2=dh a b:=⟨aK _,aK _⟩
def Q9 (a b:Int):Prop:=a.natAbs<10^90/\0<b/\b<10^90
def Q9.fz (h:Q9 a b):Fz a/\Fz b:=by obtain⟨_,_,_⟩:=h;unfold Fz;omega
def Q9.red (h:Q9 a b):Q9 (qc a b) (dh a b):=⟨Nat.lt_of_le_of_lt (Dt h.2.1) h.1,oF h.2.1,by have:=LS (n:=a) h.2.1;have:=h.2.2;omega⟩
def Q9.ok (h:Q9 a b):bL (qR a b)=true:=LU h.2.1 h.fz.1 h.fz.2
def yI (ha:a.natAbs<10^90)(hb:b.natAbs<10^90):(a*b).natAbs<10^180:=by rw[Int.natAbs_mul];exact iH ha hb
def Dv (h:a.natAbs<10^180):Fz a:=by unfold Fz;omega
def UQ {n e:Int}(fn:Fz n)(fd:Fz d)(h:ii n d=some (qR c e)):ij n d=some (qR c e):=by
 unfold ij;rw[fn.fits,fd.fits];exact h
def UR (h1:Q9 a b)(h2:Q9 c d):dx (qR a b) (qR c d)=some (qR (a*d-c*b) (b*d)):=by
 unfold dx
 rw[h1.ok,h2.ok,yH.1,yH.2,yH.1,yH.2]
 have r1:=h1.red
 have r2:=h2.red
 have H:=yI r1.1 (b:=dh c d) (by have:=r2.2;omega)
 have O:=yI r2.1 (b:=dh a b) (by have:=r1.2;omega)
 have E:=yI (a:=dh a b) (b:=dh c d) (by have:=r1.2;omega) (by have:=r2.2;omega)
 rw[(Dv H).fits,(Dv O).fits]
 have G:=Int.mul_pos r1.2.1 r2.2.1
 simp only[Bool.and_self,if_true]
 refine UQ (by unfold Fz;omega) (Dv E) ?_
 rw[s9 U]
 congr 1
 refine A8 G (Int.mul_pos h1.2.1 h2.2.1) ?_
 have W:=qb (n:=a) h1.2.1
 have e2:=qb (n:=c) h2.2.1
 generalize qc a b=p at *
 generalize dh a b=q at *
 generalize qc c d=r at *
 generalize dh c d=s at *
 grind
section
def PL (h1:Q9 a b)(h2:Q9 c d)(ht:Tb w):CL 117 #[.agg #[S (qR a b).1,S (qR a b).2],.agg #[S (qR c d).1,S (qR c d).2]] w (aI w λv _=>v=Qv (a*d-c*b) (b*d)):=l8 (EH _ _ _ _ _ ht) (qb2 gT (UR h1 h2))
end
def PM {a b:Nat}(hk:0<k):sZ (a*k) (b*k)=sZ a b:=by
 unfold sZ
 rw[Nat.mul_mod_mul_right,Nat.mul_div_mul_right _ _ hk]
 have:(a%b*k=0)↔(a%b=0):=⟨λh=>(Nat.mul_eq_zero.1 h).resolve_right U,λh=>by rw[h,Nat.zero_mul]⟩
 simp only[this]
def PO {S d:Nat}(hk:0<k):qk S (n*k) (d*k)=qk S n d:=by
 unfold qk
 rw[show n*k*S=n*S*k by rw[Nat.mul_assoc,Nat.mul_comm k,<-Nat.mul_assoc],PM hk,Nat.mul_div_mul_right _ _ hk]
abbrev QV (a b:Int):Value:=.agg #[S (qR a b).1,S (qR a b).2]
abbrev IV (a b c d:Int):Value:=.agg #[S (qR a b).1,S (qR a b).2,S (qR c d).1,S (qR c d).2]
abbrev qw (ma mb sa sb ea eb la lb ha hb oa ob ga gb:Int):Array Value:=#[S (qR ma mb).1,S (qR ma mb).2,S (qR sa sb).1,S (qR sa sb).2,S (qR ea eb).1,S (qR ea eb).2,S (qR la lb).1,S (qR la lb).2,S (qR ha hb).1,S (qR ha hb).2,S (qR oa ob).1,S (qR oa ob).2,S (qR ga gb).1,S (qR ga gb).2]
end
section
set_option maxRecDepth 100000
attribute [local irreducible] wpListIn Code.wpIn Oper.wpIn Exit.then Exit.inBlock Exit.noGoto
set_option maxHeartbeats 40000000
def xa (h1:Q9 a b)(h2:Q9 c d)(ht:Tb w):CL 26 #[QV a b,QV c d] w (aI w λv _=>v=.int .i64 (aO (a*d) (c*b))):=
 Ba h1.2.1 h2.2.1 h1.fz.1 h1.fz.2 h2.fz.1 h2.fz.2 ht
def q9m:Q9 1 1000000:=⟨by decide,by decide,by decide⟩
def q92:Q9 1 2:=⟨by decide,by decide,by decide⟩
def q9h:Q9 100 1:=⟨by decide,by decide,by decide⟩
def Vp (h:-1000000000<=a/\a<=1000000000):In64 a:=by unfold In64;omega
def yJ (ha:In64 a)(hb:In64 b)(h0:b≠0)(ht:Tb w):
 CL 98 #[.int .i64 a,.int .i64 b] w (aI w λv w'=>v=QV a b):=by
 refine aE func98 Z (I ?_);refine al aY (λ_ O G=>?_);have E:=O.2;refine I ?_;refine cl Sf (PC ha hb h0 (ht.ext E)) ?_;rintro _ _ A1 rfl;have⟨G,E⟩:=bn A1.2 G E;refine I ?_;refine cl qD kX ?_;rintro _ _ W rfl;have⟨G,E⟩:=bn W.2 G E;refine SA G (λ_ A0 H=>?_);have E:=bh A0 E;refine I ?_;refine aX (v:=QV a b) (bY  rfl ?_) E Z;refine ai (t:=4) (cs:=[S (qR a b).1,S (qR a b).2]) (b:=w.heap.size) (o:=0) iO Z bV ?_ ?_;exact Z;exact aa0 H (i:=0) Z
def q8 (ql:Q9 la lb)(h12:pl<=12)(hl1:0<=aO (la*1000000) (1*lb))(hl2:aO (la*2) (1*lb)<=0)(ht:Tb w):
 CL 44 #[.agg #[S (qR la lb).1,S (qR la lb).2,.int .i64 pl]] w (aI w λv w'=>v=.tuple #[]):=by
 refine aE func44 Z (I ?_);refine bx (λ_ Ao G=>?_);have E:=Ao.2;refine I ?_;refine cl r9 (l8 (Y:=.bool true) (dU _ _ _ (ht.ext E)) (qb2 Value.bool ql.ok)) ?_;rintro _ _ Cr rfl;have⟨G,E⟩:=bn Cr.2 G E;refine I ?_;refine cl fe di ?_ (au (qb2 Value.bool (qa1 U)) Z);rintro _ _ Af rfl;have⟨G,E⟩:=bn Af.2 G E;refine I ?_;refine Cn sd 9 aP ac1 (λ_ _ _=>xt) [(fun(v:Value) (_:World)=>v=(pT w.heap.size:Value)),(fun(v:Value) (_:World)=>v=(QV la lb:Value)),(fun(v:Value) (_:World)=>v=(QV 1 1000000:Value)),(fun(v:Value) (_:World)=>v=(.int .i64 (aO (la*1000000) (1*lb)):Value)),(fun(v:Value) (_:World)=>v=(.bool (decide (0<=(aO (la*1000000) (1*lb)))):Value)),(fun(v:Value) (_:World)=>v=(.bool (decide (0<=(aO (la*1000000) (1*lb)))):Value)),(fun(v:Value) (_:World)=>v=(pT w.heap.size:Value)),(fun(v:Value) (_:World)=>v=(QV la lb:Value)),(fun(v:Value) (_:World)=>v=(QV 1 2:Value))] ⟨λ_ _ _ _ h=>h,λ_ _ _ _ h=>h,λ_ _ _ _ h=>h,λ_ _ _ _ h=>h,λ_ _ _ _ h=>h,λ_ _ _ _ h=>h,λ_ _ _ _ h=>h,λ_ _ _ _ h=>h,λ_ _ _ _ h=>h,trivial⟩ q0 q0 q0 ?_ ?_;refine⟨λAb _ _ wr _=>?_,?_⟩;obtain⟨Ab,rfl⟩:=dK wr;refine I ?_;exact Or.inl (nf (aa1 _))
 refine⟨λFR _ _ EW GC=>?_,?_⟩;obtain⟨FR,rfl⟩:=dK EW;have L2:=fA (GC 0 16 Z Z);refine I ?_;exact Or.inl (nf (aa1 _));refine⟨λAm _ E4 Ap _=>?_,?_⟩;obtain⟨Am,rfl⟩:=dK Ap;have KY:=(xt E E4);refine clb B7 (hc:=yJ (Vp dc) (Vp dc) dc (ht.ext KY)) (hk:=?_);rintro _ _ H3 rfl;refine I ?_;exact Or.inl (nf H3.2);refine⟨λCG _ Aw KM O=>?_,?_⟩;obtain⟨CG,rfl⟩:=dK KM;have E1:=(xt E Aw);have C1:=fA (O 1 17 Z Z);have B2:=fA (O 2 18 Z Z);refine cl oW (xa ql q9m (ht.ext E1)) ?_ (au C1 (au B2 Z));rintro _ _ G0 rfl;refine I ?_;exact Or.inl (nf G0.2);refine⟨λA1 _ _ E6 Aq=>?_,?_⟩;obtain⟨A1,rfl⟩:=dK E6;have L1:=fA (Aq 3 19 Z Z);refine I ?_;exact Or.inl (nf (aa1 _));refine⟨λB0 _ _ E7 E5=>?_,?_⟩;obtain⟨B0,rfl⟩:=dK E7;have L4:=fA (E5 4 20 Z Z);refine I ?_;exact Or.inl (nf (aa1 _));refine⟨λAy _ _ A2 E0=>?_,?_⟩;obtain⟨Ay,rfl⟩:=dK A2;have K2:=fA (E0 5 21 Z Z);have L3:=(K2.trans (qb2 Value.bool (qa1 DS)));refine I ?_;exact Or.inl (nf (aa1 _));refine⟨λny _ _ KC od=>?_,?_⟩;obtain⟨ny,rfl⟩:=dK KC;have Av:=fA (od 5 21 Z Z);have La:=fA (od 6 22 Z Z);have Kp:=(Av.trans (qb2 Value.bool (qa1 DS)));refine I ?_
 exact Or.inl (nf (aa1 _));refine⟨λB1 _ ES Ar Az=>?_,?_⟩;obtain⟨B1,rfl⟩:=dK Ar;have CB:=(xt E ES);have CY:=fA (Az 5 21 Z Z);have Li:=(CY.trans (qb2 Value.bool (qa1 DS)));refine I ?_;refine clb B7 (hc:=yJ (Vp dc) (Vp dc) dc (ht.ext CB)) (hk:=?_);rintro _ _ A0 rfl;refine I ?_;exact Or.inl (nf A0.2);exact trivial;intro Ax _ W As H;obtain⟨Ax,rfl⟩:=dK As;have E:=xt E W;have E9:=fA (H 5 21 Z Z);have Lj:=(E9.trans (qb2 Value.bool (qa1 DS)));refine I ?_;have H2:=fA (H 7 23 Z Z);have K3:=fA (H 8 24 Z Z);refine cl oW (xa ql q92 (ht.ext E)) ?_ (au H2 (au K3 Z));rintro _ _ Ix rfl;have E:=xt E Ix.2;refine I ?_;refine cl fe di ?_ (au (qb2 Value.bool (qa1 DS)) Z);rintro _ _ H4 rfl;have E:=xt E H4.2;refine I ?_;exact H6 (mg Z) E Z
def yK (qa:Q9 a b)(ht:Tb w):
 CL 102 #[QV a b] w (aI w λv w'=>v=.bool (decide (0<aO (a*1) (100*b)))):=by
 refine aE func102 Z (I ?_);refine bx (λ_ Am _=>?_);have E:=Am.2;refine I ?_;refine Cn sd 2 aP ac1 (λ_ _ _=>xt) [(fun(v:Value) (_:World)=>v=(QV a b:Value)),(fun(v:Value) (_:World)=>v=(QV 100 1:Value))] ⟨λ_ _ _ _ h=>h,λ_ _ _ _ h=>h,trivial⟩ q0 q0 q0 ?_ ?_;refine⟨λA2 _ _ W _=>?_,?_⟩;obtain⟨A2,rfl⟩:=dK W;refine I ?_;exact Or.inl (nf (aa1 _));refine⟨λny _ Ab od _=>?_,?_⟩;obtain⟨ny,rfl⟩:=dK od;have Ao:=(xt E Ab);refine clb B7 (hc:=yJ (Vp dc) (Vp dc) dc (ht.ext Ao)) (hk:=?_);rintro _ _ Af rfl;refine I ?_;exact Or.inl (nf Af.2);exact trivial;intro O _ A0 wr G;obtain⟨O,rfl⟩:=dK wr;have E:=xt E A0;have A1:=fA (G 0 3 Z Z);have nm:=fA (G 1 4 Z Z);refine cl oW (xa qa q9h (ht.ext E)) ?_ (au A1 (au nm Z));rintro _ _ H rfl;have E:=xt E H.2;refine I ?_;exact am (t:=2) (v:=.bool (decide (0<(aO (a*1) (100*b))))) Z E Z Z
end
end Go.Proofs.YtlmihmlnpjkblaaGreatDoor
namespace Go.Eng
open Go Go.RowKit
variable {l:List Oper}{d a s ty i j t b n0:Nat}{ls:Nat->Bool}{e:Nat->Value}{w w':World}
def oG:List (Option (Nat×Value))->Nat->Option (Option (Nat×Value))
 |[],_=>none
 |x::_,0=>some x
 |_::l,i+1=>oG l i
def VL (L:List (Option (Nat×Value)))(ls:Nat->Bool)(e:Nat->Value):Prop:=∀i d v,oG L i=some (some (d,v))->ls i=true->e d=v
def XQ:Option Nat->Nat->Bool
 |none,_=>false
 |some a,b=>Nat.beq a b
def US:List Oper->Bool
 |[]=>true
 |o::l=>(match o.dst with|none=>true|some d=>l.all λp=>!XQ p.dst d)&&US l
def Vq:List Oper->List (Option (Nat×Value))->Bool
 |_,[]=>true
 |[],_::_=>false
 |o::os,x::xs=>(match x with|none=>true|some y=>XQ o.dst y.1)&&Vq os xs
def inD (D:List Nat)(l:List Oper):Bool:=l.all λo=>match o.dst with|none=>true|some d=>Gd D d
def yL {o:Option Nat}:XQ o d=true↔o=some d:=by
 cases o with
 |none=>simp[XQ]
 |some a=>simp only[XQ,Option.some.injEq];exact⟨qb4,λh=>by subst h;simp⟩
theorem FH:∀{l:List Oper} {i j d:Nat} {o p:Oper},US l=true->l[i]?=some o->l[j]?=some p->o.dst=some d->p.dst=some d->i=j
 |[],i,_,_,_,_,_,h,_,_,_=>by simp at h
 |q::l,0,0,_,_,_,_,_,_,_,_=>rfl
 | q::l,0,j+1,d,o,p,h,ho,hp,hd,he=>by
   simp at ho;subst ho
   simp only[US,hd,Bool.and_eq_true]at h
   have:=List.all_eq_true.1 h.1 p (qb0 (by simpa using hp))
   rw[yL.2 he]at this;cases this
 | q::l,i+1,0,d,o,p,h,ho,hp,hd,he=>by
   simp at hp;subst hp
   simp only[US,he,Bool.and_eq_true]at h
   have:=List.all_eq_true.1 h.1 o (qb0 (by simpa using ho))
   rw[yL.2 hd]at this;cases this
 | q::l,i+1,j+1,d,o,p,h,ho,hp,hd,he=>by
   simp only[US,Bool.and_eq_true]at h
   have e:=FH h.2 (by simpa using ho) (by simpa using hp) hd he
   omega
def yM:∀{l:List Oper} {L:List (Option (Nat×Value))} {i d:Nat} {v:Value},Vq l L=true->oG L i=some (some (d,v))->∃o,l[i]?=some o/\o.dst=some d
 |_,[],i,_,_,_,h=>by cases i <;>cases h
 |[],_::_,_,_,_,h,_=>by cases h
 | o::os,x::xs,0,d,v,h,hx=>by
   cases hx
   simp only[Vq,Bool.and_eq_true]at h
   exact⟨o,rfl,yL.1 h.1⟩
 | o::os,x::xs,i+1,d,v,h,hx=>by
   simp only[Vq,Bool.and_eq_true]at h
   obtain⟨p,h1,h2⟩:=yM h.2 (show oG xs i=_ from hx)
   exact⟨p,by simpa using h1,h2⟩
section draws
variable {P:Program}{r:Option Nat}{n N:Nat}{e0:Nat->Value}{ds:List Deferred}{w0:World}{Q:Exit->Act->World->Prop}{M:Nat}
def vZ (N:Nat)(ds:List Deferred)(X:(Nat->Bool)->(Nat->Value)->World->Prop)(L:List (Option (Nat×Value)))(ls:Nat->Bool)(e:Nat->Value)(i:Nat)(dst:Option Nat):Exit->Act->World->Prop:=
 λx a' w'=>x=.normal/\∃v,a'=(act N e ds).put dst v/\(∀d u,oG L i=some (some (d,u))->v=u)/\X (eT ls i) (kF e dst v) w'
def Zw (r:Option Nat)(n:Nat)(P:Program)(N:Nat)(ds:List Deferred)(l:List Oper)(D:List Nat)(L:List (Option (Nat×Value)))(X:(Nat->Bool)->(Nat->Value)->World->Prop)(e0:Nat->Value):Nat->List Oper->Prop
 |_,[]=>True
 |i,o::os=>(∀(e:Nat->Value) (w:World) (ls:Nat->Bool),(∀t,Gd D t=false->e t=e0 t)->(∀k d v,oG L k=some (some (d,v))->cu l i k=true->e d=v)->X ls e w->(∀j k,cu l j k=true->ls j=true->ls k=true)->ls i=false->(∀k,cu l i k=true->ls k=true)->
  wpListIn (Fw r) n P l.toArray (vZ N ds X L ls e i o.dst) [o] (act N e ds) w)/\Zw r n P N ds l D L X e0 (i+1) os
def FI {D:List Nat}{L:List (Option (Nat×Value))}{X:(Nat->Bool)->(Nat->Value)->World->Prop}(hnd:US (l.take M)=true)(hmt:Vq (l.take M) L=true)(hD:inD D (l.take M)=true):
 ∀(os:List Oper) (i0:Nat),(∀k,os[k]?=(l.take M)[i0+k]?)->Zw r n P N ds l D L X e0 i0 os->
 tH r n P N ds l (λls e w=>(∀t,Gd D t=false->e t=e0 t)/\VL L ls e/\X ls e w) i0 os
 |[],_,_,_=>trivial
 | o ::os,i0,hk,h=>by
   refine⟨λe w ls hJ hcl hni hpr=>?_,FI hnd hmt hD os (i0+1) (λk=>by rw[show i0+1+k=i0+(k+1)by omega,<-hk (k+1)];rfl) h.2⟩
   obtain⟨hs,hv,hX⟩:=hJ
   have ho:(l.take M)[i0]?=some o:=by have:=hk 0;simpa using this.symm
   have hstep:=h.1 e w ls hs (λk d v hl A1=>hv k d v hl (hpr k A1)) hX hcl hni hpr
   refine tG (K1:=λa' w'=>∃v,a'=(act N e ds).put o.dst v/\(∀d u,oG L i0=some (some (d,u))->v=u)/\X (eT ls i0) (kF e o.dst v) w') hstep (λa' w' hE=>?_)
   obtain⟨v,A2,Ab,hX'⟩:=hE
   refine⟨v,A2,?_,?_,hX'⟩
   · cases hd:o.dst with
     |none=>exact hs
     | some d=>
       refine db ?_ hs
       have:=List.all_eq_true.1 hD o (qb0 ho)
       rw[hd]at this;exact this
   · intro j E G H hl
     by_cases hji:j=i0
     · subst hji
       obtain⟨p,O,W⟩:=yM hmt H
       rw[ho]at O
       cases O
       rw[W]
       show upd e E v E=G
       rw[ki];exact Ab E G H
     · have hl':ls j=true:=by
        have hb:Nat.beq j i0=false:=by
         cases hb:Nat.beq j i0 with
         |false=>rfl
         |true=>exact absurd (qb4 hb) hji
        unfold eT at hl;rw[hb]at hl;exact hl
       have A0:=hv j E G H hl'
       cases hd:o.dst with
       |none=>exact A0
       | some d=>
         show upd e d v E=G
         obtain⟨p,O,W⟩:=yM hmt H
         rw[upd_ne _ _ (λhh:E=d=>hji (FH hnd O ho (by rw[W,hh]) hd))]
         exact A0
def UT {id:Nat}(hm:P.follows .mixedOrders=true)(M:Nat)(D:List Nat)(L:List (Option (Nat×Value)))(X:(Nat->Bool)->(Nat->Value)->World->Prop)(h0:X (λ_=>false) e0 w0.drew)(hwf:M7 l=true)(hshape:ir l M=true)(hchk:(US (l.take M)&&(Vq (l.take M) L&&inD D (l.take M)))=true)(hstep:Zw r n P N ds l D L X e0 0 (l.take M))(hfin:∀(e:Nat->Value) (w:World) (ls:Nat->Bool),(∀j,Nat.blt j M=true->ls j=true)->(∀t,Gd D t=false->e t=e0 t)->(∀k d v,oG L k=some (some (d,v))->Nat.blt k M=true->e d=v)->X ls e w->wpListIn (Fw r) n P l.toArray Q (l.drop M) (act N e ds) w):
 (Code.region id l.toArray true).wpIn (Fw r) n P Q (act N e0 ds) w0:=by
 simp only[Bool.and_eq_true]at hchk
 refine IU hm M (λe0 ls e w=>(∀t,Gd D t=false->e t=e0 t)/\VL L ls e/\X ls e w) ⟨λ_ _=>rfl,(λ_ _ _ _ h=>by cases h),h0⟩ hwf hshape (FI hchk.1 hchk.2.1 hchk.2.2 _ 0 (λk=>by rw[Nat.zero_add]) hstep) ?_
 intro e w ls E hJ
 exact hfin e w ls E hJ.1 (λk d v hl hk=>hJ.2.1 k d v hl (E k hk)) hJ.2.2
def XA (w0:World)(a s d ty:Nat)(z v:Array Value)(ls:Nat->Bool)(e:Nat->Value)(w:World):Prop:=
 aP w0 w/\(ls a=true->∃b,e d=.pointer (some ⟨b,0,none⟩)/\w0.heap.size<=b/\ao w b ty (match ls s with|true=>v|false=>z))
def XA.start {z v:Array Value}:XA w0 a s d ty z v (λ_=>false) e0 w0.drew:=⟨ac1 w0,λh=>by cases h⟩
def fm (h:Nat.beq j i=false):eT ls i j=ls j:=by unfold eT;rw[h]
def PP :eT ls i i=true:=by unfold eT;simp
def jU {v:Value}(h:Nat.beq t d=false):upd e d v t=e t:=upd_ne _ _ (λE=>by subst E;simp at h)
def XA.fin {z v:Array Value}(h:XA w0 a s d ty z v ls e w)(ha:ls a=true)(hs:ls s=true\/z=v):∃b,e d=.pointer (some ⟨b,0,none⟩)/\w0.heap.size<=b/\ao w b ty v:=by
 obtain⟨b,h1,h2,h3⟩:=h.2 ha
 rcases hs with hs|hs
 · rw[hs]at h3;exact⟨b,h1,h2,h3⟩
 · subst hs;refine⟨b,h1,h2,?_⟩;cases hh:ls s <;>rw[hh]at h3 <;>exact h3
def XW (w0:World)(b s ty:Nat)(z v:Array Value)(ls:Nat->Bool)(_:Nat->Value)(w:World):Prop:=
 w0.grownBy w (some b)/\ao w b ty (match ls s with|true=>v|false=>z)
def XW.start {z v:Array Value}(h:ao w0 b ty z):XW w0 b s ty z v (λ_=>false) e0 w0.drew:=⟨lk (World.grownBy.refl w0 _) (ac1 w0),ac7 (ac1 w0) h⟩
def XW.fin {z v:Array Value}(h:XW w0 b s ty z v ls e w)(hs:ls s=true):ao w b ty v:=by
 have h3:=h.2
 rw[hs]at h3;exact h3
def XH (Rel:World->Prop)(n0 a d ty:Nat)(z:Array Value)(ls:Nat->Bool)(e:Nat->Value)(w:World):Prop:=
 Rel w/\n0<=w.heap.size/\(ls a=true->∃b,e d=.pointer (some ⟨b,0,none⟩)/\n0<=b/\ao w b ty z)
def XH.start {Rel:World->Prop}{z:Array Value}(h:Rel w0.drew):XH Rel w0.heap.size a d ty z (λ_=>false) e0 w0.drew:=⟨h,Below.size (ac1 w0),λh=>by cases h⟩
def dvH {Rel:World->Prop}{L:List (Option (Nat×Value))}{z:Array Value}{v:Value}{row:Option Nat}(hl:oG L i=some (some (d,v)))(hX:XH Rel n0 a t ty z ls e w)(h:Rel w')(k:w.grownBy w' row)(hr:∀g,row=some g->g<n0)(h1:Nat.beq a i=false:=by rfl)(h3:Nat.beq t d=false:=by rfl):
 vZ N ds (XH Rel n0 a t ty z) L ls e i (some d) .normal (act N (upd e d v) ds) w':=by
 refine⟨rfl,v,(ax ..).symm,(λ_ _ h=>by rw[hl]at h;cases h;rfl),h,qa8 hX.2.1 k.size,λE=>?_⟩
 rw[fm h1]at E
 obtain⟨b,G,e2,H⟩:=hX.2.2 E
 refine⟨b,?_,e2,aa3 k (λO=>by have:=hr b O.symm;omega) H⟩
 show upd e d v t=_
 rw[jU h3];exact G
def jv {Rel:World->Prop}{L:List (Option (Nat×Value))}{z:Array Value}{v:Value}(hl:oG L i=some (some (d,v)))(hX:XH Rel n0 a t ty z ls e w)(h:Rel w')(k:aP w w')(h1:Nat.beq a i=false:=by rfl)(h3:Nat.beq t d=false:=by rfl):
 vZ N ds (XH Rel n0 a t ty z) L ls e i (some d) .normal (act N (upd e d v) ds) w':=dvH hl hX h (lk (World.grownBy.refl w none) k) (λg h=>by cases h) h1 h3
end draws
end Go.Eng
namespace Go.Proofs.YtlmihmlnpjkblaaGreatDoor
open Go Go.Eng Go.RowKit Tryz
variable {a b' c' d':List UInt8}{cs lb vs:List Value}{d b c k off ft:Nat}{v:Value}
section
variable {P:Program}{r:Option Nat}{n:Nat}{Q:Exit->Act->World->Prop}{a:Act}{w:World}{c:Code}
def Zx (m:Nat)(h:c.wpIn (Fw r) n P (Exit.then (Code.roundsIn (Fw r) n P c Q m) Q) a w):(Code.loop c).wpIn (Fw r) n P Q a w:=wpIn_loop_rounds (m+1) h
def Zy {m:Nat}(h:c.wpIn (Fw r) n P (Exit.then (Code.roundsIn (Fw r) n P c Q m) Q) a w):Code.roundsIn (Fw r) n P c Q (m+1) a w:=h
end
section
variable {P:Program}{r:Option Nat}{n N:Nat}{e:Nat->Value}{ds:List Deferred}{w:World}{Q:Exit->Act->World->Prop}{K:Act->World->Prop}{t ty:Nat}{pos:String}{af:Array Edge}{g:Option (Nat×Bool)}{x y:Operand}
def XR {el:TypeId}{z:Value}{size bytes m:Nat}{parts:Array (Nat×Operand)}{vs:List (Nat×Value)}{cells:Array Value}(hu:P.underlying t=some (.slice el))(hi:gk P el z size bytes)(hp:(parts.toList.map fun(i,x)=>(i,ev N e x))=vs)(h24:m*size<=16777216)(hm:0<m*size)(hf:Instr.fill (λi=>some (i*size,size)) ((Array.range (m*size)).map (z.cells[· %z.cells.size]!)) vs=some cells)(hk:∀w',(w'.heap.size=w.heap.size+1/\aP w w')->ao w' w.heap.size el cells->K (act N (upd e d (.slice (some ⟨w.heap.size,0,none⟩) m m)) ds) w'):
 Oper.wpIn (Fw r) n P ⟨some d,.buildSlice t m parts,ty,pos,af,g⟩ (act N e ds) w K Q:=by
 obtain⟨i,E,H,G,_⟩:=hi.parts
 subst G
 refine cJ (v:=.slice (some ⟨w.heap.size,0,none⟩) m m) (w':=w.alloc (.cells cells el)) Z ?_ (by
  rw[ax]
  exact hk _ ⟨by simp,ae0 _ _⟩ (heap_alloc_new w _))
 have hp':(parts.map fun(i,x)=>(i,ev N e x)).toList=vs:=by rw[<-hp];simp
 subst hp'
 have h2:¬m*i.size>2^24:=J
 have h3:¬(m*i.size=0):=J
 simp only[execOp,Instr.buildSlice,Sem.run_bind,run_underlying hu,Result.andThen_ok,sizeOf,typeInfo,run_program,E,Sem.run_pure,zeroValue,H,h2,if_false,h3,hf,newRow,run_newObj,World.alloc_eq]
end
def XB (X:(Nat->Bool)->(Nat->Value)->World->Prop)(a t el m:Nat)(cs:Array Value)(ls:Nat->Bool)(e:Nat->Value)(w:World):Prop:=
 X ls e w/\(ls a=true->∃b,e t=.slice (some ⟨b,0,none⟩) m m/\ao w b el cs)
section
variable {N:Nat}{ds:List Deferred}{X:(Nat->Bool)->(Nat->Value)->World->Prop}{L:List (Option (Nat×Value))}{ls:Nat->Bool}{e:Nat->Value}{i a t el m:Nat}{cs:Array Value}{w w' w0:World}
def XB.start (h:X (λ_=>false) e w):XB X a t el m cs (λ_=>false) e w:=⟨h,λh=>by cases h⟩
def XB.up (hB:XB X a t el m cs ls e w)(hX:X (eT ls i) (upd e d v) w')(k:aP w w')(h1:Nat.beq a i=false:=by rfl)(h3:Nat.beq t d=false:=by rfl):XB X a t el m cs (eT ls i) (upd e d v) w':=by
 refine⟨hX,λE=>?_⟩
 rw[fm h1]at E
 obtain⟨b,p,q⟩:=hB.2 E
 exact⟨b,by rw[jU h3];exact p,ac7 k q⟩
def XA.up {a s t ty:Nat}{z u:Array Value}(hX:XA w0 a s t ty z u ls e w)(k:aP w w')(h1:Nat.beq a i=false:=by rfl)(h2:Nat.beq s i=false:=by rfl)(h3:Nat.beq t d=false:=by rfl):XA w0 a s t ty z u (eT ls i) (upd e d v) w':=by
 refine⟨aP.trans hX.1 k,λE=>?_⟩
 rw[fm h1]at E
 obtain⟨b,H,e2,G⟩:=hX.2 E
 exact⟨b,by rw[jU h3];exact H,e2,by rw[fm h2];exact ac7 k G⟩
end
def XK (X:(Nat->Bool)->(Nat->Value)->World->Prop)(n0 a1 t1 a t ty:Nat)(z:Array Value)(ls:Nat->Bool)(e:Nat->Value)(w:World):Prop:=
 X ls e w/\(ls a=true->∃b,e t=pT b/\n0<=b/\ao w b ty z/\(ls a1=true->e t1≠pT b))
section
variable {N:Nat}{ds:List Deferred}{X:(Nat->Bool)->(Nat->Value)->World->Prop}{Rel:World->Prop}{L:List (Option (Nat×Value))}{ls:Nat->Bool}{e:Nat->Value}{n0 i a t ty a1 t1 ty1:Nat}{z z1:Array Value}{w w':World}
def XK.start (h:X (λ_=>false) e w):XK X n0 a1 t1 a t ty z (λ_=>false) e w:=⟨h,λh=>by cases h⟩
def td {ex:Exit}{a':Act}(h:vZ N ds X L ls e i (some d) ex a' w')(hK:XK X n0 a1 t1 a t ty z ls e w)(k:∀b,n0<=b->ao w b ty z->ao w' b ty z)(h1:Nat.beq a i=false:=by rfl)(h2:Nat.beq a1 i=false:=by rfl)(h3:Nat.beq t d=false:=by rfl)(h4:Nat.beq t1 d=false:=by rfl):
 vZ N ds (XK X n0 a1 t1 a t ty z) L ls e i (some d) ex a' w':=by
 obtain⟨rfl,v,H,e2,G⟩:=h
 refine⟨rfl,v,H,e2,G,λE=>?_⟩
 rw[fm h1]at E
 obtain⟨b,p,q,r,s⟩:=hK.2 E
 refine⟨b,?_,q,k b q r,λhb=>?_⟩
 · show upd e d v t=_;rw[jU h3];exact p
 · rw[fm h2]at hb
   show upd e d v t1≠_;rw[jU h4];exact s hb
def XS (hl:oG L a1=some none)(hX:X (eT ls a1) (upd e t1 (pT w.heap.size)) w')(hK:XK X n0 a1 t1 a t ty z ls e w)(k:∀b,n0<=b->ao w b ty z->ao w' b ty z)(h1:Nat.beq a a1=false:=by rfl)(h3:Nat.beq t t1=false:=by rfl):
 vZ N ds (XK X n0 a1 t1 a t ty z) L ls e a1 (some t1) .normal (act N (upd e t1 (pT w.heap.size)) ds) w':=by
 refine⟨rfl,_,(ax ..).symm,(λ_ _ h=>by rw[hl]at h;cases h),hX,λG=>?_⟩
 rw[fm h1]at G
 obtain⟨b,p,q,r,s⟩:=hK.2 G
 refine⟨b,?_,q,k b q r,λ_=>?_⟩
 · show upd e t1 _ t=_;rw[jU h3];exact p
 · show upd e t1 _ t1≠_
   rw[ki]
   intro E
   have:=ao.lt r
   injection E with E;injection E with E;injection E with E
   omega
def XT (hl:oG L a=some none)(hX:X (eT ls a) (upd e t (pT w.heap.size)) w')(hn:n0<=w.heap.size)(hb:ao w' w.heap.size ty z)(hne:ls a1=true->e t1≠pT w.heap.size)(h1:Nat.beq a1 a=false:=by rfl)(h3:Nat.beq t1 t=false:=by rfl):
 vZ N ds (XK X n0 a1 t1 a t ty z) L ls e a (some t) .normal (act N (upd e t (pT w.heap.size)) ds) w':=by
 refine⟨rfl,_,(ax ..).symm,(λ_ _ h=>by rw[hl]at h;cases h),hX,λ_=>⟨w.heap.size,?_,hn,hb,λhb=>?_⟩⟩
 · show upd e t _ t=_;rw[ki]
 · rw[fm h1]at hb
   show upd e t _ t1≠_
   rw[jU h3];exact hne hb
def XH.new (hX:XH Rel n0 a1 t1 ty1 z1 ls e w)(h:Rel w')(k:aP w w')(hb:ao w' w.heap.size ty1 z1):XH Rel n0 a1 t1 ty1 z1 (eT ls a1) (upd e t1 (pT w.heap.size)) w':=
 ⟨h,qa8 hX.2.1 k.size,λ_=>⟨w.heap.size,ki ..,hX.2.1,hb⟩⟩
def XH.keep (hX:XH Rel n0 a1 t1 ty1 z1 ls e w)(h:Rel w')(k:aP w w')(h1:Nat.beq a1 i=false:=by rfl)(h3:Nat.beq t1 d=false:=by rfl):XH Rel n0 a1 t1 ty1 z1 (eT ls i) (upd e d v) w':=by
 refine⟨h,qa8 hX.2.1 k.size,λE=>?_⟩
 rw[fm h1]at E
 obtain⟨b,p,q,r⟩:=hX.2.2 E
 exact⟨b,by rw[jU h3];exact p,q,r.ext k⟩
def XH.ne (hX:XH Rel n0 a1 t1 ty1 z1 ls e w)(ha:ls a1=true):e t1≠pT w.heap.size:=by
 obtain⟨b,p,q,r⟩:=hX.2.2 ha
 rw[p]
 intro E
 have:=ao.lt r
 injection E with E;injection E with E;injection E with E
 omega
def LW (h1:v=pT b)(h2:v≠pT c):b≠c:=λh=>h2 (by rw[h1,h])
end
def Zz:prog.eqGuardType prog.depth 33=false:=by kernel_rfl
def XU:prog.stoodInHeld 33=false:=by kernel_rfl
def yN (w:World)(cs:Array Value)(i:Nat)(v:Value)(h:cs[i]?=some v):(part 9 cs i).run prog w=.ok v w:=by
 unfold part
 simp[isAgg,run_underlying underlying9,h]
def XV (w:World)(a b:List UInt8)(d:Nat):(Op.equalIn (d+1) 9 (S a) (S b)).run prog w=.ok (decide (a=b)) w:=by
 unfold Op.equalIn
 simp[run_underlying underlying9,S]
 have h:∀x y:ByteArray,(x==y)=(x.data==y.data):=λx y=>by cases x;cases y;rfl
 rw[h]
 exact Bool.eq_iff_iff.2 JT
def XX (w:World)(a b:R):(Op.equal 33 (.agg #[S a.1,S a.2]) (.agg #[S b.1,S b.2])).run prog w=.ok (decide (a=b)) w:=by
 unfold Op.equal Op.maxDepth
 show(Op.equalIn (9998+1+1) 33 _ _).run _ _=_
 unfold Op.equalIn
 obtain⟨a1,E⟩:=a
 obtain⟨b1,b2⟩:=b
 have H:=yN w #[S a1,S E] 0 (S a1) Z
 have p2:=yN w #[S a1,S E] 1 (S E) Z
 have p3:=yN w #[S b1,S b2] 0 (S b1) Z
 have p4:=yN w #[S b1,S b2] 1 (S b2) Z
 have G:=XV w a1 b1 9998
 have e2:=XV w E b2 9998
 simp[run_underlying underlying33,XU,H,p2,p3,p4,G,e2]
 by_cases h1:a1=b1 <;>by_cases h2:E=b2 <;>simp[h1,h2]
section
variable {r:Option Nat}{n N:Nat}{e:Nat->Value}{ds:List Deferred}{w:World}{Q:Exit->Act->World->Prop}{K:Act->World->Prop}
variable {ty:Nat}{pos:String}{af:Array Edge}{g:Option (Nat×Bool)}{u:Value}{x y:Operand}{t t':TypeId}
def LX {op:BinOp}(x y:Operand)(a b:Array Value):(eqGuard op 33 x y (.agg a) (.agg b)).run prog w=.ok () w:=by
 unfold eqGuard
 cases op <;>simp[Zz]
def yO {a b:R}{q:Bool}(hx:ev N e x=.agg #[S a.1,S a.2])(hy:ev N e y=.agg #[S b.1,S b.2])(hq:decide (a=b)=q)(hk:K (act N (upd e d (.bool q)) ds) w):
 Oper.wpIn (Fw r) n prog ⟨some d,.binOp .eql 33 x y t',ty,pos,af,g⟩ (act N e ds) w K Q:=
 dI hx hy (LX ..) (by subst hq;simp[binOp,XX]) hk
end
section
variable {P:Program}{r:Option Nat}{n N:Nat}{e:Nat->Value}{ds:List Deferred}{w:World}{Q:Exit->Act->World->Prop}{K:Act->World->Prop}
variable {ty:Nat}{pos:String}{af:Array Edge}{g:Option (Nat×Bool)}{u:Value}{x y:Operand}{t t':TypeId}
def vg {fs:Array Field}{f:Field}{D:TypeDesc}(hu:P.underlying t=some (.struct fs))(hf:fs[k]?=some f)(ho:f.offset=off)(hft:f.type=ft)(hD:P.underlying ft=some D)(hd:D.isRow=false)(hx:ev N e x=.agg cs.toArray)(hv:cs[off]?=some v)(hk:K (act N (upd e d v) ds) w):Oper.wpIn (Fw r) n P ⟨some d,.field t x k,ty,pos,af,g⟩ (act N e ds) w K Q:=by
 subst ho hft
 refine cJ (v:=v) (w':=w) Z ?_ KK
 have E:(isAgg f.type).run P w=.ok false w:=by
  unfold isAgg
  rw[Sem.run_bind,run_underlying hD w]
  cases D <;>simp_all
 have hv':cs.toArray[f.offset]?=some v:=by rw[List.getElem?_toArray];exact hv
 simp[execOp,hx,Instr.field,run_underlying hu,hf,asAgg,part,E,hv]
end
def PQ (w:World)(a b c d:List UInt8):(part 33 #[S a,S b,S c,S d] 0).run prog w=.ok (.agg #[S a,S b]) w:=by
 unfold part
 simp[isAgg,run_underlying underlying33]
def PR (w:World)(a b c d:List UInt8):(part 33 #[S a,S b,S c,S d] 2).run prog w=.ok (.agg #[S c,S d]) w:=by
 unfold part
 simp[isAgg,run_underlying underlying33]
section
variable {r:Option Nat}{n N:Nat}{e:Nat->Value}{ds:List Deferred}{w:World}{Q:Exit->Act->World->Prop}{K:Act->World->Prop}
variable {ty:Nat}{pos:String}{af:Array Edge}{g:Option (Nat×Bool)}{u:Value}{x y z:Operand}{t t':TypeId}{G:R->R×R}{q:R}
def Bb {R:Value->World->Prop}{f:FuncId}{xs:Array Operand}{ats:Array TypeId}(hf:Enters prog f)(hx:ev N e x=.func (.func f) #[] lb.toArray)(hv:xs.toList.map (ev N e)=vs)(hc:CL f (vs++lb).toArray w (kn R))(hk:∀v w',R v w'->K (act N (upd e d v) ds) w'):Oper.wpIn (Fw r) n prog ⟨some d,.call {callee:=.value x,args:=xs,argTypes:=ats},ty,pos,af,g⟩ (act N e ds) w K Q:=by
 subst hv
 have h2:xs.map (ev N e)++lb.toArray=(xs.toList.map (ev N e)++lb).toArray:=by simp
 refine⟨λf _=>ky r f,?_⟩
 have hs:(execOp (ev N e) ⟨some d,.call {callee:=.value x,args:=xs,argTypes:=ats},ty,pos,af,g⟩).run prog w=.ok (.enter f (xs.map (ev N e)++lb.toArray)) w:=by
  simp[execOp,resolve,Deferred.ofValue,hx,invoke,hf _ _]
 rw[iT Z,cR,hs]
 refine⟨(λh=>by rw[l9]at h;cases h),oK ((show CL f (xs.map (ev N e)++lb.toArray) w (kn R)from by rw[h2];exact hc).mono ?_)⟩
 intro e' w' h
 cases e' with
 | returned v=>
   show K ((act N e ds).put (some d) v) w'
   rw[ax];exact hk v w' h
 |panicked c=>exact h.elim
 |outgrown=>exact h.elim
def xb (hx:ev N e x=.agg #[S a,S b',S c',S d'])(hk:K (act N (upd e d (.agg #[S a,S b'])) ds) w):
 Oper.wpIn (Fw r) n prog ⟨some d,.field 144 x 0,ty,pos,af,g⟩ (act N e ds) w K Q:=by
 refine cJ (v:=.agg #[S a,S b']) (w':=w) Z ?_ KK
 have p:=PQ w a b' c' d'
 simp[execOp,Instr.field,hx,run_underlying underlying144,asAgg,p]
def Hm (hx:ev N e x=.agg #[S a,S b',S c',S d'])(hk:K (act N (upd e d (.agg #[S c',S d'])) ds) w):
 Oper.wpIn (Fw r) n prog ⟨some d,.field 144 x 1,ty,pos,af,g⟩ (act N e ds) w K Q:=by
 refine cJ (v:=.agg #[S c',S d']) (w':=w) Z ?_ KK
 have p:=PR w a b' c' d'
 simp[execOp,Instr.field,hx,run_underlying underlying144,asAgg,p]
end
end Go.Proofs.YtlmihmlnpjkblaaGreatDoor
