/- Part of the proof of a statement about an adjustment. -/
import Derived.Test.YtlmihmlnpjkblaaGreatDoorLaRToSp1S
import Derived.DeepKeys
set_option linter.all false
namespace Go.Proofs.YtlmihmlnpjkblaaGreatDoor
open Go Go.Eng Go.RowKit Tryz
variable {a b c d n1 d1 n2 d2 y N D la lb:Int}{n lo t pl f k:Nat}{A:Option Addr}{w:World}
section
attribute [local irreducible] wpListIn Code.wpIn Oper.wpIn Exit.then Exit.inBlock Exit.noGoto
set_option maxHeartbeats 40000000
def Hu (x y:Int):aQ x y=-aQ y x:=by
 unfold aQ;repeat' split
 all_goals first|rfl|omega
def Bf (h1:a<b↔c<d)(h2:a=b↔c=d):aQ a b=aQ c d:=by
 unfold aQ
 by_cases h:a<b
 · rw[if_pos h,if_pos (h1.1 h)]
 · rw[if_neg h,if_neg (λe=>h (h1.2 e))]
   by_cases h':a=b
   · rw[if_pos h',if_pos (h2.1 h')]
   · rw[if_neg h',if_neg (λe=>h' (h2.2 e))]
def LJ (h:a-b=c-d):aQ a b=aQ c d:=Bf U U
def Bg (h1:0<d1)(h2:0<d2)(h:n1/d1<n2/d2):n1*d2<n2*d1:=by
 have e1:=Int.lt_ediv_add_one_mul_self n1 h1
 have e2:=Int.ediv_mul_le n2 (show d2≠0 by omega)
 have H:(n1/d1+1)*d1<=(n2/d2)*d1:=Int.mul_le_mul_of_nonneg_right U U
 have G:n1*d2<(n2/d2)*d1*d2:=Int.mul_lt_mul_of_pos_right U h2
 have O:(n2/d2)*d2*d1<=n2*d1:=Int.mul_le_mul_of_nonneg_right e2 U
 have E:(n2/d2)*d1*d2=(n2/d2)*d2*d1:=by rw[Int.mul_assoc,Int.mul_comm d1 d2,<-Int.mul_assoc]
 omega
def XM (h1:0<d1)(h2:0<d2)(h:¬aQ (n1/d1) (n2/d2)=0):aQ (n1/d1) (n2/d2)=aQ (n1*d2) (n2*d1):=by
 have E:n1/d1≠n2/d2:=λe=>h (jy e)
 rcases Int.lt_or_gt_of_ne E with hl|hl
 · rw[gh hl,gh (Bg h1 h2 hl)]
 · rw[eY hl,eY (Bg h2 h1 hl)]
def Hw {x:Int}(h:aQ x y=0):x=y:=by
 unfold aQ at h
 split at h
 · omega
 · split at h
   · assumption
   · omega
def FN (h:aQ (n1/d1) (n2/d2)=0):aQ (n1*d2) (n2*d1)=aQ (n1%d1*d2) (n2%d2*d1):=by
 have e:=Hw h
 refine LJ ?_
 have a1:=Int.mul_ediv_add_emod n1 d1
 have E:=Int.mul_ediv_add_emod n2 d2
 generalize n1/d1=p at *;generalize n2/d2=q at *;generalize n1%d1=r at *;generalize n2%d2=s at *
 subst e;subst a1;subst E
 rw[Int.add_mul,Int.add_mul,show d1*p*d2=d2*p*d1 by rw[Int.mul_comm d1 p,Int.mul_comm d2 p,Int.mul_assoc,Int.mul_comm d1 d2,<-Int.mul_assoc]]
 omega
def PL {sg x:Int}(h:sg=1\/sg=-1):In64 (sg*aQ x y):=by
 have h1:aQ x y<=1/\-1<=aQ x y:=by unfold aQ;split;omega;split <;>omega
 unfold In64;rcases h with rfl|rfl <;>omega
section
variable {N1 D1 N2 D2 sg:Int}(hi:aQ (N1*D2) (N2*D1)=sg*aQ (n1*d2) (n2*d1))(h1:0<d1)(h2:0<d2)
include hi h1 h2
theorem XN (h:¬aQ (n1/d1) (n2/d2)=0):sg*aQ (n1/d1) (n2/d2)=aQ (N1*D2) (N2*D1):=by rw[hi,XM h1 h2 h]
theorem XO (h:aQ (n1/d1) (n2/d2)=0)(hr:ae (n1%d1)=[48])(hs:ae (n2%d2)=[48]):0=aQ (N1*D2) (N2*D1):=by
 rw[hi,FN h,dU.1 hr,dU.1 hs];simp[aQ]
theorem XP (h:aQ (n1/d1) (n2/d2)=0)(hr:ae (n1%d1)=[48])(hs:¬ae (n2%d2)=[48]):-sg=aQ (N1*D2) (N2*D1):=by
 have E:n2%d2≠0:=λe=>hs (dU.2 e)
 have h3:=Int.emod_nonneg n2 (show d2≠0 by omega)
 rw[hi,FN h,dU.1 hr,gh (by rw[Int.zero_mul];exact Int.mul_pos U h1)];omega
theorem XQ (h:aQ (n1/d1) (n2/d2)=0)(hr:¬ae (n1%d1)=[48])(hs:ae (n2%d2)=[48]):sg=aQ (N1*D2) (N2*D1):=by
 have E:n1%d1≠0:=λe=>hr (dU.2 e)
 have h3:=Int.emod_nonneg n1 (show d1≠0 by omega)
 rw[hi,FN h,dU.1 hs,eY (by rw[Int.zero_mul];exact Int.mul_pos U h2)];omega
theorem LK (h:aQ (n1/d1) (n2/d2)=0)(hr:¬ae (n1%d1)=[48])(hs:¬ae (n2%d2)=[48]):
 aQ (N1*D2) (N2*D1)=-sg*aQ (d1*(n2%d2)) (d2*(n1%d1))/\0<n1%d1/\0<n2%d2:=by
 have G:n1%d1≠0:=λe=>hr (dU.2 e)
 have h3:=Int.emod_nonneg n1 (show d1≠0 by omega)
 have h4:n2%d2≠0:=λe=>hs (dU.2 e)
 have E:=Int.emod_nonneg n2 (show d2≠0 by omega)
 refine⟨?_,by omega,by omega⟩
 rw[hi,FN h,Hu (d1*_),Int.mul_comm d1,Int.mul_comm d2,Int.neg_mul_neg]
end
def LL {n:Int}(h:Fz d)(hd:0<d):Fz (n%d):=by
 have h1:=Int.emod_nonneg n (show d≠0 by omega)
 have h2:=Int.emod_lt_of_pos n hd
 unfold Fz at *;omega
set_option maxRecDepth 100000 in
theorem LM {N1 D1 N2 D2:Int}(o1:bN (ae N1,ae D1)=true)(o2:bN (ae N2,ae D2)=true)(fN1:Fz N1)(fD1:Fz D1)(fN2:Fz N2)(fD2:Fz D2)(ht:Tb w):
 CL 26 #[.agg #[S (ae N1),S (ae D1)],.agg #[S (ae N2),S (ae D2)]] w (aH w λv w'=>v=.int .i64 (aQ (N1*D2) (N2*D1))):=by
 have P1:0<D1:=by have:=c7 o1;rwa [aJ]at this
 have P2:0<D2:=by have:=c7 o2;rwa [aJ]at this
 refine aD func26 rfl ?_;refine I ?_;refine bx (λAs g3 ny=>?_);have Ax:=g3.2;refine bx (λ_ fx Az=>?_);have⟨ny,Ax⟩:=bo fx.2 ny Ax;refine I ?_;refine cl tz (eE (ae N1) (ae D1) _ (ht.ext Ax)) ?_;rintro _ _ ce rfl;have⟨ny,Az,Ax⟩:=ca ce.2 ny Az Ax;refine I ?_;refine cl tz (eE (ae N2) (ae D2) _ (ht.ext Ax)) ?_;rintro _ _ ga rfl;have⟨ny,Az,Ax⟩:=ca ga.2 ny Az Ax;refine I ?_;refine wpIn_label (fm ?_);refine Xf [(4,12),(21,73)] (λeC e W=>∃n1:Int,∃d1:Int,∃n2:Int,∃d2:Int,∃sg:Int,(d1.toNat=eC)/\(e 5=.int .i64 sg)/\(0<d1)/\(0<d2)/\(Fz n1)/\(Fz d1)/\(Fz n2)/\(Fz d2)/\(sg=1\/sg=-1)/\(aQ (N1*D2) (N2*D1)=sg*aQ (n1*d2) (n2*d1))/\(aO w W)/\(ar W (w.heap.size) 33 #[S (ae n1),S (ae d1)])/\(ar W (As.heap.size) 33 #[S (ae n2),S (ae d2)])) ((D1).toNat) ⟨N1,D1,N2,D2,1,rfl,rfl,P1,P2,fN1,fD1,fN2,fD2,(Or.inl rfl),(Int.one_mul _).symm,Ax,ny,Az⟩ ?_;rintro _ _ _ ⟨n1,d1,n2,d2,sg,rfl,hR,Av,p2,E7,ES,E0,E1,cz,hi,E,hB1,hB2⟩;refine I ?_;refine cl zu (nE (Y:=.tuple #[S (ae (n1/d1)),S (ae (n1%d1)),.int .i64 0]) (ke _ _ _ (ht.ext E)) (qb2 wh (u3 E7 ES (Int.ne_of_gt Av) (kz E7 Av)))) ?_;rintro _ _ fc rfl;have⟨hB1,hB2,E⟩:=ca fc.2 hB1 hB2 E;refine I ?_
 refine cl zu (nE (Y:=.tuple #[S (ae (n2/d2)),S (ae (n2%d2)),.int .i64 0]) (ke _ _ _ (ht.ext E)) (qb2 wh (u3 E0 E1 (Int.ne_of_gt p2) (kz E0 p2)))) ?_;rintro _ _ cx rfl;have⟨hB1,hB2,E⟩:=ca cx.2 hB1 hB2 E;refine I ?_;refine cl xF (nE (Y:=.int .i64 (aQ (n1/d1) (n2/d2))) (pu _ _ _) (qb2 (Value.int .i64) (Lc (kz E7 Av) (kz E0 p2)))) ?_;rintro _ a8 h6 rfl;have⟨hB1,hB2,E⟩:=ca h6.2 hB1 hB2 E;refine I ?_;by_cases ns:(aQ (n1/d1) (n2/d2))=0;refine I ?_;by_cases np:(ae (n1%d1))=([48]);refine I ?_;refine sh (b:=[48]) ?_;refine I ?_;refine sh (b:=[48]) ?_;refine I ?_;by_cases wr:(ae (n2%d2))=([48]);refine I ?_;exact am (t:=4) (v:=.int .i64 0) rfl E (qb2 (Value.int .i64) (XO hi Av p2 ns np wr)) rfl;refine I ?_;refine sh (b:=[48]) ?_;refine I ?_;refine aa (zq (a:=sg) rfl (by unfold In64;omega) ?_);refine I ?_;exact am (t:=4) (v:=.int .i64 (-sg)) rfl E (qb2 (Value.int .i64) (XP hi Av p2 ns np wr)) rfl;refine I ?_;refine sh (b:=[48]) ?_;refine I ?_;refine sh (b:=[48]) ?_;refine I ?_;refine sh (b:=[48]) ?_;refine I ?_;by_cases p6:(ae (n2%d2))=([48]);refine I ?_;exact am (t:=4) (v:=.int .i64 sg) rfl E (qb2 (Value.int .i64) (XQ hi Av p2 ns np p6)) rfl;refine I ?_;have B0:=ac3 a8
 refine I1 o7 12 (λe0 ls e W=>(∀t,Gq [64,65,66,67,68,69,70,71,72,73] t=false->e t=e0 t)/\(aO w W)/\(a8.heap.size<=W.heap.size)/\(ls 0=true->e 64=.pointer (some ⟨w.heap.size,1,none⟩))/\(ls 1=true->e 65=S (ae d1))/\(ls 2=true->e 66=S (ae (n1%d1)))/\(ls 3=true->e 67=.agg #[S (ae d1),S (ae (n1%d1))])/\(ls 4=true->e 68=.pointer (some ⟨As.heap.size,1,none⟩))/\(ls 5=true->e 69=S (ae d2))/\(ls 6=true->e 70=S (ae (n2%d2)))/\(ls 7=true->e 71=.agg #[S (ae d2),S (ae (n2%d2))])/\(ls 8=true->e 72=.int .i64 sg)/\(ls 9=true->e 73=.int .i64 (-sg))/\(ls 10=false->ar W (w.heap.size) 33 #[S (ae n1),S (ae d1)])/\(ls 10=true->ar W (w.heap.size) 33 #[S (ae d1),S (ae (n1%d1))])/\(ls 11=false->ar W (As.heap.size) 33 #[S (ae n2),S (ae d2)])/\(ls 11=true->ar W (As.heap.size) 33 #[S (ae d2),S (ae (n2%d2))])) ⟨(λ_ _=>rfl),(xt E B0),(bz B0),(ff rfl),(ff rfl),(ff rfl),(ff rfl),(ff rfl),(ff rfl),(ff rfl),(ff rfl),(ff rfl),(ff rfl),(λ_=>(be B0 hB1)),(λh=>ff rfl h),(λ_=>(be B0 hB2)),(λh=>ff rfl h)⟩ (by kernel_rfl) (by kernel_rfl) ?_ ?_;refine⟨λfz a5 Cr dL EW E4 _=>?_,?_⟩;obtain⟨X0,E,Aw,A0,Ab,G,A1,O,Ao,A2,Ap,H,Af,Aq,Ar,Am,nm⟩:=dL;obtain⟨fz,rfl⟩:=b6 X0;have hY:Cr 1=false:=(bG EW (i:=0) (j:=1) rfl E4)
 have Lk:Cr 10=false:=(bG EW (i:=0) (j:=10) rfl E4);have S0:Cr 11=false:=(bG EW (i:=0) (j:=11) rfl E4);have co:ar a5 (w.heap.size) 33 #[S (ae n1),S (ae d1)]:=Aq Lk;have d6:ar a5 (As.heap.size) 33 #[S (ae n2),S (ae d2)]:=Am S0;refine I ?_;exact⟨rfl,_,(ax _ _ _ _ _).symm,(dl rfl X0),E,U,(λ_=>rfl),Ab,G,A1,O,Ao,A2,Ap,H,Af,(λ_=>co),(λcv=>ff Lk cv),(λ_=>d6),(λeB=>ff S0 eB)⟩;refine⟨λKM Vm C0 dq W3 bZ dC=>?_,?_⟩;obtain⟨S9,E,Aw,A0,Ab,G,A1,O,Ao,A2,Ap,H,Af,Aq,Ar,Am,nm⟩:=dq;obtain⟨KM,rfl⟩:=b6 S9;have fS:C0 0=true:=(dC 0 rfl);have bW:C0 10=false:=(bG W3 (i:=1) (j:=10) rfl bZ);have L1:C0 11=false:=(bG W3 (i:=1) (j:=11) rfl bZ);have hT:KM 64=.pointer (some ⟨w.heap.size,1,none⟩):=A0 fS;have h0:ar Vm (w.heap.size) 33 #[S (ae n1),S (ae d1)]:=Aq bW;have hG:ar Vm (As.heap.size) 33 #[S (ae n2),S (ae d2)]:=Am L1;refine I ?_;exact⟨rfl,_,(ax _ _ _ _ _).symm,(dl rfl S9),E,U,A0,(λ_=>rfl),G,A1,O,Ao,A2,Ap,H,Af,(λ_=>h0),(λhA=>ff bW hA),(λ_=>hG),(λfl=>ff L1 fl)⟩;refine⟨λch Ne X2 h9 b0 GC _=>?_,?_⟩;obtain⟨T3,E,Aw,A0,Ab,G,A1,O,Ao,A2,Ap,H,Af,Aq,Ar,Am,nm⟩:=h9;obtain⟨ch,rfl⟩:=b6 T3
 have bd:X2 10=false:=(bG b0 (i:=2) (j:=10) rfl GC);have K2:X2 11=false:=(bG b0 (i:=2) (j:=11) rfl GC);have hP:ar Ne (w.heap.size) 33 #[S (ae n1),S (ae d1)]:=Aq bd;have fb:ar Ne (As.heap.size) 33 #[S (ae n2),S (ae d2)]:=Am K2;refine I ?_;exact⟨rfl,_,(ax _ _ _ _ _).symm,(dl rfl T3),E,U,A0,Ab,(λ_=>rfl),A1,O,Ao,A2,Ap,H,Af,(λ_=>hP),(λcm=>ff bd cm),(λ_=>fb),(λeQ=>ff K2 eQ)⟩;refine⟨λE9 VW B1 d3 KY Q0 bb=>?_,?_⟩;obtain⟨Ix,E,Aw,A0,Ab,G,A1,O,Ao,A2,Ap,H,Af,Aq,Ar,Am,nm⟩:=d3;obtain⟨E9,rfl⟩:=b6 Ix;have ct:B1 2=true:=(bb 2 rfl);have f3:B1 1=true:=(bb 1 rfl);have KC:B1 10=false:=(bG KY (i:=3) (j:=10) rfl Q0);have K3:B1 11=false:=(bG KY (i:=3) (j:=11) rfl Q0);have fW:E9 65=S (ae d1):=Ab f3;have f9:E9 66=S (ae (n1%d1)):=G ct;have d5:ar VW (w.heap.size) 33 #[S (ae n1),S (ae d1)]:=Aq KC;have ft:ar VW (As.heap.size) 33 #[S (ae n2),S (ae d2)]:=Am K3;refine aa (bX (vs:=[(0,S (ae d1)),(1,S (ae (n1%d1)))]) (cells:=#[S (ae d1),S (ae (n1%d1))]) (pl:=[(0,1),(1,1)]) iW aU (by kernel_rfl) (cj fW (cj f9 rfl)) (by kernel_rfl) ?_);refine I ?_
 exact⟨rfl,_,(ax _ _ _ _ _).symm,(dl rfl Ix),E,U,A0,Ab,G,(λ_=>rfl),O,Ao,A2,Ap,H,Af,(λ_=>d5),(λeD=>ff KC eD),(λ_=>ft),(λbv=>ff K3 bv)⟩;refine⟨λeb e4 Li fD P0 H4 _=>?_,?_⟩;obtain⟨Wa,E,Aw,A0,Ab,G,A1,O,Ao,A2,Ap,H,Af,Aq,Ar,Am,nm⟩:=fD;obtain⟨eb,rfl⟩:=b6 Wa;have hS:Li 5=false:=(bG P0 (i:=4) (j:=5) rfl H4);have T2:Li 11=false:=(bG P0 (i:=4) (j:=11) rfl H4);have h8:ar e4 (As.heap.size) 33 #[S (ae n2),S (ae d2)]:=Am T2;refine I ?_;exact⟨rfl,_,(ax _ _ _ _ _).symm,(dl rfl Wa),E,U,A0,Ab,G,A1,(λ_=>rfl),Ao,A2,Ap,H,Af,(λarr=>Aq arr),(λfN=>Ar fN),(λ_=>h8),(λe5=>ff T2 e5)⟩;refine⟨λW0 eS ac fB cp hB gb=>?_,?_⟩;obtain⟨L4,E,Aw,A0,Ab,G,A1,O,Ao,A2,Ap,H,Af,Aq,Ar,Am,nm⟩:=fB;obtain⟨W0,rfl⟩:=b6 L4;have fu:ac 4=true:=(gb 4 rfl);have a6:ac 11=false:=(bG cp (i:=5) (j:=11) rfl hB);have hZ:W0 68=.pointer (some ⟨As.heap.size,1,none⟩):=O fu;have eX:ar eS (As.heap.size) 33 #[S (ae n2),S (ae d2)]:=Am a6;refine I ?_;exact⟨rfl,_,(ax _ _ _ _ _).symm,(dl rfl L4),E,U,A0,Ab,G,A1,O,(λ_=>rfl),A2,Ap,H,Af,(λhE=>Aq hE),(λf0=>Ar f0),(λ_=>eX),(λfR=>ff a6 fR)⟩;refine⟨λcy d4 e6 fy cq d0 _=>?_,?_⟩
 obtain⟨N0,E,Aw,A0,Ab,G,A1,O,Ao,A2,Ap,H,Af,Aq,Ar,Am,nm⟩:=fy;obtain⟨cy,rfl⟩:=b6 N0;have W2:e6 11=false:=(bG cq (i:=6) (j:=11) rfl d0);have ej:ar d4 (As.heap.size) 33 #[S (ae n2),S (ae d2)]:=Am W2;refine I ?_;exact⟨rfl,_,(ax _ _ _ _ _).symm,(dl rfl N0),E,U,A0,Ab,G,A1,O,Ao,(λ_=>rfl),Ap,H,Af,(λcw=>Aq cw),(λer=>Ar er),(λ_=>ej),(λgv=>ff W2 gv)⟩;refine⟨λCB fG CG gn gW fT ad=>?_,?_⟩;obtain⟨No,E,Aw,A0,Ab,G,A1,O,Ao,A2,Ap,H,Af,Aq,Ar,Am,nm⟩:=gn;obtain⟨CB,rfl⟩:=b6 No;have hD:CG 6=true:=(ad 6 rfl);have eW:CG 5=true:=(ad 5 rfl);have a0:CG 11=false:=(bG gW (i:=7) (j:=11) rfl fT);have gs:CB 69=S (ae d2):=Ao eW;have dd:CB 70=S (ae (n2%d2)):=A2 hD;have cr:ar fG (As.heap.size) 33 #[S (ae n2),S (ae d2)]:=Am a0;refine aa (bX (vs:=[(0,S (ae d2)),(1,S (ae (n2%d2)))]) (cells:=#[S (ae d2),S (ae (n2%d2))]) (pl:=[(0,1),(1,1)]) iW aU (by kernel_rfl) (cj gs (cj dd rfl)) (by kernel_rfl) ?_);refine I ?_;exact⟨rfl,_,(ax _ _ _ _ _).symm,(dl rfl No),E,U,A0,Ab,G,A1,O,Ao,A2,(λ_=>rfl),H,Af,(λhM=>Aq hM),(λeP=>Ar eP),(λ_=>cr),(λe3=>ff a0 e3)⟩;refine⟨λg0 _ _ ask _ _ _=>?_,?_⟩
 obtain⟨G0,E,Aw,A0,Ab,G,A1,O,Ao,A2,Ap,H,Af,Aq,Ar,Am,nm⟩:=ask;obtain⟨g0,rfl⟩:=b6 G0;refine I ?_;exact⟨rfl,_,(ax _ _ _ _ _).symm,(dl rfl G0),E,U,A0,Ab,G,A1,O,Ao,A2,Ap,(λ_=>rfl),Af,(λfa=>Aq fa),(λea=>Ar ea),(λeG=>Am eG),(λhK=>nm hK)⟩;refine⟨λH2 _ fX cb _ _ h5=>?_,?_⟩;obtain⟨a9,E,Aw,A0,Ab,G,A1,O,Ao,A2,Ap,H,Af,Aq,Ar,Am,nm⟩:=cb;obtain⟨H2,rfl⟩:=b6 a9;have bq:fX 8=true:=(h5 8 rfl);have gr:H2 72=.int .i64 (sg):=H bq;refine aa (zq (a:=sg) gr (by unfold In64;omega) ?_);refine I ?_;exact⟨rfl,_,(ax _ _ _ _ _).symm,(dl rfl a9),E,U,A0,Ab,G,A1,O,Ao,A2,Ap,H,(λ_=>rfl),(λhC=>Aq hC),(λhI=>Ar hI),(λet=>Am et),(λfP=>nm fP)⟩;refine⟨λV2 Lj E6 g2 Kp WV eg=>?_,?_⟩;obtain⟨a4,E,Aw,A0,Ab,G,A1,O,Ao,A2,Ap,H,Af,Aq,Ar,Am,nm⟩:=g2;obtain⟨V2,rfl⟩:=b6 a4;have La:E6 3=true:=(eg 3 rfl);have hW:E6 1=true:=(Kp 3 1 rfl La);have L2:E6 11=false:=(bG Kp (i:=10) (j:=11) rfl WV);have hV:V2 67=.agg #[S (ae d1),S (ae (n1%d1))]:=A1 La;have eq:ar Lj (w.heap.size) 33 #[S (ae n1),S (ae d1)]:=Aq WV;have FR:ar Lj (As.heap.size) 33 #[S (ae n2),S (ae d2)]:=Am L2;refine SA eq (λ_ fi hF=>?_);have⟨FR,E,_⟩:=j3 fi FR E;refine I ?_
 exact⟨rfl,undef,rfl,a4,E,U,A0,Ab,G,A1,O,Ao,A2,Ap,H,Af,(λfQ=>tf rfl fQ),(λ_=>hF),(λ_=>FR),(λbp=>ff L2 bp)⟩;refine⟨λan Rm Ay cc od fC a3=>?_,?_⟩;obtain⟨a2,E,Aw,A0,Ab,G,A1,O,Ao,A2,Ap,H,Af,Aq,Ar,Am,nm⟩:=cc;obtain⟨an,rfl⟩:=b6 a2;have B2:Ay 10=true:=(a3 10 rfl);have hN:Ay 3=true:=(od 10 3 rfl B2);have hQ:Ay 1=true:=(od 3 1 rfl hN);have H3:Ay 7=true:=(a3 7 rfl);have hU:Ay 5=true:=(od 7 5 rfl H3);have hX:an 71=.agg #[S (ae d2),S (ae (n2%d2))]:=Ap H3;have E5:ar Rm (w.heap.size) 33 #[S (ae d1),S (ae (n1%d1))]:=Ar B2;have g4:ar Rm (As.heap.size) 33 #[S (ae n2),S (ae d2)]:=Am fC;refine SA g4 (λ_ ed cf=>?_);have⟨E5,E,_⟩:=j3 ed E5 E;refine I ?_;exact⟨rfl,undef,rfl,a2,E,U,A0,Ab,G,A1,O,Ao,A2,Ap,H,Af,(λh7=>tf B2 h7),(λ_=>E5),(λg1=>tf rfl g1),(λ_=>cf)⟩;exact trivial;intro W1 L3 _ CY cT;obtain⟨hL,E,Aw,A0,Ab,G,A1,O,Ao,A2,Ap,H,Af,Aq,Ar,Am,nm⟩:=cT;obtain⟨W1,rfl⟩:=b6 hL;have c9:ar L3 (w.heap.size) 33 #[S (ae d1),S (ae (n1%d1))]:=Ar (CY 10 rfl);have hO:ar L3 (As.heap.size) 33 #[S (ae d2),S (ae (n2%d2))]:=nm (CY 11 rfl);have ha:W1 73=.int .i64 (-sg):=(Af (CY 9 rfl));refine I ?_
 exact bF (hk:=by have:=Int.emod_lt_of_pos n1 Av;have:=Int.emod_nonneg n1 (Int.ne_of_gt Av);omega) ⟨d1,n1%d1,d2,n2%d2,-sg,rfl,rfl,(LK hi Av p2 ns np p6).2.1,(LK hi Av p2 ns np p6).2.2,ES,(LL ES Av),E1,(LL E1 p2),U,(LK hi Av p2 ns np p6).1,E,c9,hO⟩;refine I ?_;refine aa (rm (a:=sg) (b:=aQ (n1/d1) (n2/d2)) (c:=sg*aQ (n1/d1) (n2/d2)) rfl rfl (PL cz) rfl ?_);refine I ?_;exact am (t:=4) (v:=.int .i64 (sg*aQ (n1/d1) (n2/d2))) rfl E (qb2 (Value.int .i64) (XN hi Av p2 ns)) rfl
set_option maxRecDepth 100000
def LN (n:Int):Lib.itoa n=ae n:=by
 unfold Lib.itoa ae
 split
 · rw[jj]
 · rw[jj];congr 1;omega
def qR (a b:Int):R:=(ae (eh a b),ae (dn a b))
def te (hb:b≠0):im a b=some (qR a b):=by unfold im;rw[if_neg hb];rfl
section
variable {b:Nat}{x:Int}{l m:List UInt8}
def PM (hB:ar w b 75 #[.bool false])(ht:Tb w)(hl:l=ae x)(hm:m=ae y)(fx:Fz x)(fy:Fz y)(fz:Fz (x*y)):
 CL 36 #[pT b,S l,S m] w (kv λv w'=>w.grownBy w' (some b)/\ar w' b 75 #[.bool false]/\v=S (ae (x*y))):=by
 have h:=mQ hB ht l m
 subst hl hm
 rw[Lb fx fy fz]at h
 exact h
def PO (hB:ar w b 75 #[.bool false])(ht:Tb w)(hl:l=ae x)(hm:m=ae y)(fx:Fz x)(fy:Fz y)(fz:Fz (x+y)):
 CL 84 #[pT b,.func (.func 186) #[] #[],S l,S m] w (kv λv w'=>w.grownBy w' (some b)/\ar w' b 75 #[.bool false]/\v=S (ae (x+y))):=by
 have h:=rT (o:=x7 l m) hB ht IA (λW hW=>yi _ _ W hW)
 subst hl hm
 rw[K9 fx fy fz]at h
 exact h
def tg (hB:ar w b 75 #[.bool false])(ht:Tb w)(hl:l=ae x)(hm:m=ae y)(fx:Fz x)(fy:Fz y)(h0:y≠0):
 CL 37 #[pT b,S l,S m] w (kv λv w'=>w.grownBy w' (some b)/\(∃q,ar w' b 75 #[.bool q])/\v=.tuple #[.agg #[S (qR x y).1,S (qR x y).2],.int .i64 0]):=by
 have h:=ym hB ht l m
 subst hl hm
 rw[wL fx.int fy.int,aJ,aJ,te h0]at h
 exact h
def UV (hB:ar w b 75 #[.bool false])(ht:Tb w){x y:List UInt8}{c:Nat}(hr:Rw w lo A [S x,S y])(hn:1=n)(hAb:∀ad,A=some ad->ad.block≠b)(ho:bN (x,y)=true):
 CL 35 #[pT b,.slice A n c] w (kv λv w'=>w.grownBy w' (some b)/\ar w' b 75 #[.bool false]/\v=.tuple #[]):=by
 have h:=py (rs:=[(x,y)]) (c:=c) hB ht hr hn U hAb
 rw[show cD false [(x,y)]=false by simp[cD,ho]]at h
 exact h
end
def vn (N D t:Int)(up:Bool):Int:=if up=true/\¬ae (N*t%D)=[48]then N*t/D+1 else N*t/D
def Qv (a b:Int):Value:=.tuple #[.agg #[S (qR a b).1,S (qR a b).2],.int .i64 0]
def Zy {t:Int}{up:Bool}(h:up=true)(h0:¬ae (N*t%D)=[48]):Qv (N*t/D+1) t=Qv (vn N D t up) t:=by unfold vn;rw[if_pos ⟨h,h0⟩]
def Zz {t:Int}{up:Bool}(h0:ae (N*t%D)=[48]):Qv (N*t/D) t=Qv (vn N D t up) t:=by unfold vn;rw[if_neg (λe=>e.2 h0)]
def ZA {t:Int}{up:Bool}(h:up=false):Qv (N*t/D) t=Qv (vn N D t up) t:=by unfold vn;rw[if_neg (λe=>by rw[h]at e;exact absurd e.1 dc)]
def LO (h:N.natAbs<10^199)(hd:0<D):Fz (N/D+1):=by
 have h1:Fz (N/D):=kz (by unfold Fz;omega) hd
 have h2:(N/D).natAbs<10^199:=by
  rcases Int.le_total 0 N with h0|h0
  · have h1:=Int.ediv_nonneg h0 (Int.le_of_lt hd)
    have h2:=Int.ediv_le_self (b:=D) h0
    omega
  · have h1:N/D<=0:=Int.ediv_nonpos_of_nonpos_of_neg h0 hd
    have h2:N<=N/D:=by
     refine Int.le_ediv_of_mul_le hd ?_
     have E:0<=(-N)*(D-1):=Int.mul_nonneg U U
     rw[Int.neg_mul,Int.mul_sub,Int.mul_one]at E
     omega
    omega
 unfold Fz;omega
def iO {l m:List UInt8}(hl:l=ae a)(hm:m=ae b)(fa:Fz a)(fb:Fz b)(h0:b≠0)(ht:Tb w):
 CL 184 #[S l,S m] w (aH w λv w'=>v=.tuple #[.agg #[S (qR a b).1,S (qR a b).2],.int .i64 0]):=by
 subst hl hm;have Ao:(!isInt (ae b))=false:=by rw[fb.int];rfl
 refine aD func184 Z (I ?_);refine al aU (λ_ Af G=>?_);have ht:=ab7 Af.2 ht;have E:=Af.2;refine I ?_;refine cl tA (iE (ae a) _) ?_;rintro _ _ A2 rfl;have ht:=ab7 A2.2 ht;have⟨G,E⟩:=bo A2.2 G E;refine I ?_;refine mz (s:=10) Z (qb2 Value.bool (qb2 Bool.not fa.int)) (I ?_);refine mz (s:=10) Z (qb2 Value.bool (qb2 Bool.not fa.int)) ?_;refine cl tA (iE (ae b) _) ?_;rintro _ H W rfl;have ht:=ab7 W.2 ht;have⟨G,E⟩:=bo W.2 G E;refine mz (s:=10) Z (qb2 Value.bool (qb2 Bool.not fa.int)) (I ?_);refine aa (jH (t:=false) (v:=.bool (!(isInt (ae b)))) (qb2 Value.bool (qb2 Bool.not fa.int)) Z ?_);refine aa (bX (vs:=[(0,.bool (!(isInt (ae b))))]) (cells:=#[.bool (!(isInt (ae b)))]) (pl:=[(0,1)]) VP B8 Hx Z Hx ?_);refine bx (λAp Ab Am=>?_);have ht:=ab7 Ab.2 ht;have⟨G,E⟩:=bo Ab.2 G E;refine I ?_;have Aq:ar Ap H.heap.size 75 #[.bool false]:=by have h:=Am;rw[Ao]at h;exact h
 refine I ?_;refine aa (bL (vs:=[pT H.heap.size,S (ae a),S (ae b)]) tB Z (tg Aq ht Z Z fa fb h0) ?_);rintro _ _ ⟨A1,⟨As,A0⟩,rfl⟩;have G:=aa2 A1 KK G;have E:=cS E A1 (bz E) (λg Ar=>by cases Ar;omega);refine I ?_;refine SA G (λ_ O nm=>?_);have A0:=pb O A0;have E:=bi O E;refine I ?_;refine aW (v:=.tuple #[.agg #[S (qR a b).1,S (qR a b).2],.int .i64 0]) (c8 (r1:=.cell 4 33) (r2:=.tmp 5) Z ?_ ?_) E Z;refine ai (t:=4) (cs:=[S (qR a b).1,S (qR a b).2]) (b:=w.heap.size) (o:=0) iW Z b8 ?_ ?_;exact Z;exact aa0 nm (i:=0) Z;exact aM (t:=5) RM _
def Bh {n:Int}(hn:In64 n)(ht:Tb w):
 CL 185 #[.int .i64 n] w (aH w λv w'=>v=S (ae n)):=by
 have h1:-9223372036854775808<=n:=by unfold In64 at hn;omega
 have h2:n<=9223372036854775807:=by unfold In64 at hn;omega
 refine aD func185 Z (I ?_);refine cl Iu (nE (Y:=S (ae n)) (x8 _ _ h1 h2 (ht.ext (aa3 _))) (qb2 S (LN n))) ?_;rintro _ _ G rfl;have E:=G.2;refine I ?_;exact am (t:=2) (v:=S (ae n)) Z E Z Z
def XR {n:Int}(h:In64 n):Fz n:=by unfold In64 at h;unfold Fz;omega
def PP (ha:In64 a)(hb:In64 b)(h0:b≠0)(ht:Tb w):
 CL 147 #[.int .i64 a,.int .i64 b] w (aH w λv w'=>v=.tuple #[.agg #[S (qR a b).1,S (qR a b).2],.int .i64 0]):=by
 refine aD func147 Z (I ?_);refine al aU (λ_ W G=>?_);have E:=W.2;refine I ?_;refine cl tC (Bh ha (ht.ext E)) ?_;rintro _ _ H rfl;have⟨G,E⟩:=bo H.2 G E;refine I ?_;refine cl tC (Bh hb (ht.ext E)) ?_;rintro _ _ O rfl;have⟨G,E⟩:=bo O.2 G E;refine cl oc (iO Z Z (XR ha) (XR hb) h0 (ht.ext E)) ?_;rintro _ _ A2 rfl;have⟨G,E⟩:=bo A2.2 G E;refine I ?_;refine SA G (λ_ A1 A0=>?_);have E:=bi A1 E;refine I ?_;refine aW (v:=.tuple #[.agg #[S (qR a b).1,S (qR a b).2],.int .i64 0]) (c8 (r1:=.cell 4 33) (r2:=.tmp 5) Z ?_ ?_) E Z;refine ai (t:=4) (cs:=[S (qR a b).1,S (qR a b).2]) (b:=w.heap.size) (o:=0) iW Z b8 ?_ ?_;exact Z;exact aa0 A0 (i:=0) Z;exact aM (t:=5) RM _
def xh {up:Bool}(ho:bN (ae N,ae D)=true)(fN:Fz N)(fD:Fz D)(hp:pl<=30)(hNT:(N*((10^pl:Nat):Int)).natAbs<10^199)(ht:Tb w):
 CL 148 #[.agg #[S (ae N),S (ae D)],.int .i64 pl,.bool up] w (aH w λv w'=>v=Qv (vn N D ((10^pl:Nat):Int) up) ((10^pl:Nat):Int)):=by
 have Aq:((10^pl:Nat):Int)≠0:=by have:=Nat.pow_pos (n:=pl) (show 0<10 by decide);omega
 have pD:0<D:=by have:=c7 ho;rwa [aJ]at this
 have fNT:Fz (N*((10^pl:Nat):Int)):=(by unfold Fz;omega);have A1:pl<200:=U;have fT:Fi (10^pl):=Nat.pow_lt_pow_right dc U;refine aD func148 Z (I ?_);refine bx (λAs B2 G=>?_);have ht:=ab7 B2.2 ht;have E:=B2.2;refine al aU (λW Ay H=>?_);have ht:=ab7 Ay.2 ht;have⟨G,E⟩:=bo Ay.2 G E;refine I ?_;refine aa (bX (vs:=[(0,.bool (decide (30<(pl:Int))))]) (cells:=#[.bool (decide (30<(pl:Int)))]) (pl:=[(0,1)]) VP B8 Hx Z Hx ?_);refine bx (λCB C0 E5=>?_);have ht:=ab7 C0.2 ht;have⟨G,H,E⟩:=ca C0.2 G H E;refine I ?_;have Am:ar CB W.heap.size 75 #[.bool false]:=by have h:=E5;rw[decide_eq_false U]at h;exact h
 refine I ?_;refine BS (λ_ CG _ E4=>?_);have ht:=ab7 CG ht;have⟨G,H,Am,E⟩:=fw CG G H Am E;refine aa (bL (vs:=[pT W.heap.size,.slice (some ⟨CB.heap.size,0,none⟩) 1 1]) Eo Z (UV Am ht (aa7 E4) Z (λ_ e=>by cases e;simp;omega) ho) ?_);rintro _ _ ⟨Ab,Ao,rfl⟩;have ht:=Tb.gr Ab Am dc ht;have G:=aa2 Ab KK G;have H:=aa2 Ab KK H;have E:=cS E Ab (bz E) (λg O=>by cases O;omega);refine I ?_;refine clb Iv (hc:=qO [48] pl _ U dc) (hk:=?_);rintro _ _ Az rfl;have ht:=ab7 Az.2 ht;have⟨G,H,Ao,E⟩:=fw Az.2 G H Ao E;refine aa (xz (a:=[49]) (b:=Lib.repeatL [48] pl) Z Z (by rw[ra];simp;omega) ?_);refine I ?_;refine aa (bL (vs:=[pT W.heap.size,S (ae N),S (([49])++(Lib.repeatL [48] pl))]) rF Z (PM Ao ht Z (qg A1) fN fT.z fNT) ?_);rintro _ _ ⟨A2,Af,rfl⟩;have ht:=Tb.gr A2 Ao dc ht;have G:=aa2 A2 KK G;have H:=aa2 A2 KK H;have E:=cS E A2 (bz E) (λg O=>by cases O;omega);refine I ?_;refine cl zu (nE (Y:=.tuple #[S (ae (N*((10^pl:Nat):Int)/D)),S (ae (N*((10^pl:Nat):Int)%D)),.int .i64 0]) (ke _ _ _ ht) (qb2 wh (u3 fNT fD (Int.ne_of_gt pD) (kz fNT pD)))) ?_;rintro _ _ nm rfl;have ht:=ab7 nm.2 ht;have⟨G,H,Af,E⟩:=fw nm.2 G H Af E;refine I ?_
 refine SO Af (λ_ Aw Ap=>?_);have ht:=Tb.put Aw Af dc ht;have⟨G,H⟩:=js Aw G H;have E:=bi Aw E;refine I ?_;rcases qa4 up with cw|cw;refine I ?_;refine nes (b:=[48]) (I ?_);by_cases wr:(ae (N*((10^pl:Nat):Int)%D))=([48]);refine I ?_;refine aa (bL (vs:=[pT W.heap.size,S (ae (N*((10^pl:Nat):Int)/D)),S (([49])++(Lib.repeatL [48] pl))]) tB Z (tg Ap ht Z (qg A1) (kz fNT pD) fT.z Aq) ?_);rintro _ _ ⟨Ar,⟨ES,Ax⟩,rfl⟩;have G:=aa2 Ar KK G;have H:=aa2 Ar KK H;have E:=cS E Ar (bz E) (λg O=>by cases O;omega);refine I ?_;refine SA H (λ_ B1 E0=>?_);have⟨G,Ax⟩:=js B1 G Ax;have E:=bi B1 E;refine I ?_;refine aW (v:=.tuple #[.agg #[S ((qR (N*((10^pl:Nat):Int)/D) ((10^pl:Nat):Int)).1),S ((qR (N*((10^pl:Nat):Int)/D) ((10^pl:Nat):Int)).2)],.int .i64 0]) (c8 (r1:=.cell 6 33) (r2:=.tmp 7) Z ?_ ?_) E (Zz wr);refine ai (t:=6) (cs:=[S ((qR (N*((10^pl:Nat):Int)/D) ((10^pl:Nat):Int)).1),S ((qR (N*((10^pl:Nat):Int)/D) ((10^pl:Nat):Int)).2)]) (b:=As.heap.size) (o:=0) iW Z b8 ?_ ?_
 exact Z;exact aa0 E0 (i:=0) Z;exact aM (t:=7) RM _;refine I ?_;refine aa (bL (vs:=[pT W.heap.size,.func (.func 186) #[] #[],S (ae (N*((10^pl:Nat):Int)/D)),S [49]]) rH Z (PO Ap ht Z Ld (kz fNT pD) (by unfold Fz;decide) (LO hNT pD)) ?_);rintro _ _ ⟨A0,E1,rfl⟩;have ht:=Tb.gr A0 Ap dc ht;have G:=aa2 A0 KK G;have H:=aa2 A0 KK H;have E:=cS E A0 (bz E) (λg O=>by cases O;omega);refine I ?_;refine aa (bL (vs:=[pT W.heap.size,S (ae (N*((10^pl:Nat):Int)/D+1)),S (([49])++(Lib.repeatL [48] pl))]) tB Z (tg E1 ht Z (qg A1) (LO hNT pD) fT.z Aq) ?_);rintro _ _ ⟨ny,⟨EW,CY⟩,rfl⟩;have G:=aa2 ny KK G;have H:=aa2 ny KK H;have E:=cS E ny (bz E) (λg O=>by cases O;omega);refine I ?_;refine SA H (λ_ od E7=>?_);have⟨G,CY⟩:=js od G CY;have E:=bi od E;refine I ?_;refine aW (v:=.tuple #[.agg #[S ((qR (N*((10^pl:Nat):Int)/D+1) ((10^pl:Nat):Int)).1),S ((qR (N*((10^pl:Nat):Int)/D+1) ((10^pl:Nat):Int)).2)],.int .i64 0]) (c8 (r1:=.cell 6 33) (r2:=.tmp 7) Z ?_ ?_) E (Zy cw wr)
 refine ai (t:=6) (cs:=[S ((qR (N*((10^pl:Nat):Int)/D+1) ((10^pl:Nat):Int)).1),S ((qR (N*((10^pl:Nat):Int)/D+1) ((10^pl:Nat):Int)).2)]) (b:=As.heap.size) (o:=0) iW Z b8 ?_ ?_;exact Z;exact aa0 E7 (i:=0) Z;exact aM (t:=7) RM _;refine I ?_;refine aa (bL (vs:=[pT W.heap.size,S (ae (N*((10^pl:Nat):Int)/D)),S (([49])++(Lib.repeatL [48] pl))]) tB Z (tg Ap ht Z (qg A1) (kz fNT pD) fT.z Aq) ?_);rintro _ _ ⟨Av,⟨E9,Cr⟩,rfl⟩;have G:=aa2 Av KK G;have H:=aa2 Av KK H;have E:=cS E Av (bz E) (λg O=>by cases O;omega);refine I ?_;refine SA H (λ_ B0 E6=>?_);have⟨G,Cr⟩:=js B0 G Cr;have E:=bi B0 E;refine I ?_;refine aW (v:=.tuple #[.agg #[S ((qR (N*((10^pl:Nat):Int)/D) ((10^pl:Nat):Int)).1),S ((qR (N*((10^pl:Nat):Int)/D) ((10^pl:Nat):Int)).2)],.int .i64 0]) (c8 (r1:=.cell 6 33) (r2:=.tmp 7) Z ?_ ?_) E (ZA cw);refine ai (t:=6) (cs:=[S ((qR (N*((10^pl:Nat):Int)/D) ((10^pl:Nat):Int)).1),S ((qR (N*((10^pl:Nat):Int)/D) ((10^pl:Nat):Int)).2)]) (b:=As.heap.size) (o:=0) iW Z b8 ?_ ?_;exact Z;exact aa0 E6 (i:=0) Z;exact aM (t:=7) RM _
def LP (ho:bN (ae N,ae D)=true)(fN:Fz N)(fD:Fz D)(hp:pl<=30)(hNT:(N*((10^pl:Nat):Int)).natAbs<10^199)(ht:Tb w):
 CL 100 #[.agg #[S (ae N),S (ae D)],.int .i64 pl] w (aH w λv w'=>v=.tuple #[.agg #[S ((qR (vn N D ((10^pl:Nat):Int) false) ((10^pl:Nat):Int)).1),S ((qR (vn N D ((10^pl:Nat):Int) false) ((10^pl:Nat):Int)).2)],.int .i64 0]):=by
 refine aD func100 Z (I ?_);refine bx (λA1 A2 G=>?_);have E:=A2.2;refine al aU (λ_ A0 H=>?_);have⟨G,E⟩:=bo A0.2 G E;refine I ?_;refine cl IK (xh ho fN fD hp hNT (ht.ext E)) ?_;rintro _ _ W rfl;have⟨G,H,E⟩:=ca W.2 G H E;refine I ?_;refine SA H (λ_ O Ab=>?_);have G:=pb O G;have E:=bi O E;refine I ?_;refine aW (v:=.tuple #[.agg #[S ((qR (vn N D ((10^pl:Nat):Int) false) ((10^pl:Nat):Int)).1),S ((qR (vn N D ((10^pl:Nat):Int) false) ((10^pl:Nat):Int)).2)],.int .i64 0]) (c8 (r1:=.cell 4 33) (r2:=.tmp 5) Z ?_ ?_) E Z;refine ai (t:=4) (cs:=[S ((qR (vn N D ((10^pl:Nat):Int) false) ((10^pl:Nat):Int)).1),S ((qR (vn N D ((10^pl:Nat):Int) false) ((10^pl:Nat):Int)).2)]) (b:=A1.heap.size) (o:=0) iW Z b8 ?_ ?_;exact Z;exact aa0 Ab (i:=0) Z;exact aM (t:=5) RM _
def UW (ho:bN (ae N,ae D)=true)(fN:Fz N)(fD:Fz D)(hp:pl<=30)(hNT:(N*((10^pl:Nat):Int)).natAbs<10^199)(ht:Tb w):
 CL 101 #[.agg #[S (ae N),S (ae D)],.int .i64 pl] w (aH w λv w'=>v=.tuple #[.agg #[S ((qR (vn N D ((10^pl:Nat):Int) true) ((10^pl:Nat):Int)).1),S ((qR (vn N D ((10^pl:Nat):Int) true) ((10^pl:Nat):Int)).2)],.int .i64 0]):=by
 refine aD func101 Z (I ?_);refine bx (λA1 A2 G=>?_);have E:=A2.2;refine al aU (λ_ A0 H=>?_);have⟨G,E⟩:=bo A0.2 G E;refine I ?_;refine cl IK (xh ho fN fD hp hNT (ht.ext E)) ?_;rintro _ _ W rfl;have⟨G,H,E⟩:=ca W.2 G H E;refine I ?_;refine SA H (λ_ O Ab=>?_);have G:=pb O G;have E:=bi O E;refine I ?_;refine aW (v:=.tuple #[.agg #[S ((qR (vn N D ((10^pl:Nat):Int) true) ((10^pl:Nat):Int)).1),S ((qR (vn N D ((10^pl:Nat):Int) true) ((10^pl:Nat):Int)).2)],.int .i64 0]) (c8 (r1:=.cell 4 33) (r2:=.tmp 5) Z ?_ ?_) E Z;refine ai (t:=4) (cs:=[S ((qR (vn N D ((10^pl:Nat):Int) true) ((10^pl:Nat):Int)).1),S ((qR (vn N D ((10^pl:Nat):Int) true) ((10^pl:Nat):Int)).2)]) (b:=A1.heap.size) (o:=0) iW Z b8 ?_ ?_;exact Z;exact aa0 Ab (i:=0) Z;exact aM (t:=5) RM _
def Bi:Nat->Nat->Nat
 |0,_=>0
 |f+1,n=>if n=0 then 0 else Bi f (n/10000)+1
def Bj:∀{f n:Nat},n<10000^f->(au 10000 n).length=Bi f n
 |0,n,h=>by rw[show n=0 by simpa using h,gw];rfl
 | f +1,n,h=>by
   unfold Bi
   split
   · rename_i h0;rw[h0,gw];rfl
   · rename_i h0
     rw[ge 10000 n U U,List.length_cons,Bj (f:=f)]
     rw[Nat.pow_succ]at h
     exact Nat.div_lt_of_lt_mul (by rw[Nat.mul_comm];exact h)
def PQ:Nat->Nat->Nat->Option Nat
 |0,_,_=>none
 |f+1,n,t=>if t<=(t+n/t)/2 then some t else PQ f n ((t+n/t)/2)
def UX (n:Nat):Option Nat:=PQ 1000 n (10000^((Bi 60 n+1)/2))
def ZB {r:Nat}(h:PQ f n t=some r)(hl:t<=(t+n/t)/2):r=t:=by
 cases f with
 |zero=>cases h
 |succ g=>unfold PQ at h;rw[if_pos hl]at h;cases h;rfl
def ZC {r:Nat}(h:PQ f n t=some r)(hl:¬t<=(t+n/t)/2):∃g,f=g+1/\PQ g n ((t+n/t)/2)=some r:=by
 cases f with
 |zero=>cases h
 |succ g=>unfold PQ at h;rw[if_neg hl]at h;exact⟨g,rfl,h⟩
def FO (k:Nat):au 10000 (10000^k)=List.replicate k 0++[1]:=by
 induction k with
 |zero=>decide
 | succ k ih=>
   rw[ge 10000 _ U (Nat.pow_pos U),Nat.pow_succ,Nat.mul_mod_left,Nat.mul_div_cancel _ U,ih,List.replicate_succ,List.cons_append]
def PR {c:Nat}(h:Rw w lo A ((madeCells (Value.int .i64 0).cells (k*1)).toList++[Value.int .i64 1]))(hc:k+1<=c):en w lo A (k+1) c (10000^k):=by
 refine⟨?_,by rw[FO];simp,hc⟩
 have e:(madeCells (Value.int .i64 0).cells (k*1)).toList++[Value.int .i64 1]=ints (au 10000 (10000^k)):=by
  show(madeCells #[Value.int .i64 0] (k*1)).toList++_=_
  rw[qK,FO];simp[ints]
 rw[<-e];exact h
def PS (h:Rw w lo A [Value.int .i64 2]):en w lo A 1 1 2:=by
 have e:au 10000 2=[2]:=by decide
 exact⟨by rw[e];exact h,by rw[e];rfl,qa0 _⟩
def PT (n:Nat):body (nS n)=bw n:=by unfold nS;rw[gL];simp
def UY (n:Nat):neg (nS n)=false:=by unfold nS;rw[qM];exact qa2 U
def LQ (hn:Fi n):CL 119 #[S (nS n),S [48]] w (aH w λv w'=>∃A1 n1 c1 A2 n2 c2,v=.tuple #[.agg #[.bool false,.slice A1 n1 c1],.agg #[.bool false,.slice A2 n2 c2],.bool true]/\en w' w.heap.size A1 n1 c1 n/\en w' w.heap.size A2 n2 c2 0):=by
 have h:=lC (nS n) [48] w hn.z.int jP
 rw[PT,UY,gK,show neg [48]=false from rfl,show aG (body [48])=0 from qL]at h
 exact h
def LR (h:Fi n):n<10000^50:=qb1 h dc
def LS (hn:n<10000^50)(ht:t<=10000^26):t+n/t<10000^51:=by
 have h1:n/t<=n:=Nat.div_le_self _ _
 have h2:(10000:Nat)^50+10000^26<10000^51:=by decide
 omega
def PU (ht:t≤10000 ^ 26) : iF (bg (bT false t))=.tuple #[S (nS t),.int .i64 0]:=by
 have h : fits (bT false t) = true := qa1 (by have h2:(10000:Nat)^26<10^200:=by decide
                                              simp[bT];omega)
 unfold bg;rw[if_pos h];rfl
def oL {x:Int}:(0<=aQ x y)↔y<=x:=by
 unfold aQ;split
 · constructor <;>intro h <;>omega
 · split
   · constructor <;>intro _ <;>omega
   · constructor <;>intro _ <;>omega
def ZD {f:FuncId}{a:Array Value}{X Y:Value}(h:CL f a w (aH w λv _=>v=X))(e:X=Y):CL f a w (aH w λv _=>v=Y):=e▸h
def XT {x y:Nat}(h:(0:Int)<=aQ (x:Int) (y:Int)):y<=x:=by
 rw[oL]at h
 omega
def XU {x y:Nat}(h:¬(0:Int)<=aQ (x:Int) (y:Int)):¬y<=x:=by
 rw[oL]at h
 omega
def UZ (hn:0<n)(ht:0<t):0<(t+n/t)/2:=by
 by_cases h:t=1
 · subst h;rw[Nat.div_one];omega
 · have h2:2<=t:=J
   exact Nat.div_pos (qa8 h2 (Nat.le_add_right _ _)) U
set_option maxRecDepth 100000 in
def FP {r:Nat}(fn:Fi n)(hn0:0<n)(hr:UX n=some r)(ht:Tb w):
 CL 226 #[S (nS n)] w (aH w λv w'=>v=.tuple #[S (nS r),.int .i64 0]):=by
 have EW:(au 10000 n).length=Bi 60 n:=Bj (qb1 (LR fn) (Nat.pow_le_pow_right dc dc));refine aD func226 Z (I ?_);refine cl kK (LQ fn) ?_;rintro _ E6 K3 ⟨A1,n1,c1,A2,n2,c2,rfl,hN,P0⟩;have H:=K3.2;have uhN:=hN.hi;have La:=cO hN (LR fn);have L3:0<n1:=by rw[<-hN.len,List.length_pos_iff];exact λe=>by have:=cK 10000 U n;rw[e]at this;simp[bU]at this;omega
 refine I ?_;refine al bI (λwr E1 B2=>?_);have hN:=aa6 E1.2 hN;have H:=xt H E1.2;refine al bI (λ_ E7 C0=>?_);have hN:=aa6 E7.2 hN;have⟨B2,H⟩:=bo E7.2 B2 H;refine SA B2 (λ_ E5 E=>?_);have hN:=ac4 E5 (λAm e=>by have:=uhN Am e;omega) hN;have⟨C0,H,_⟩:=j3 E5 C0 H;refine SA C0 (λE0 E4 G=>?_);have hN:=ac4 E4 (λAm e=>by have:=uhN Am e;omega) hN;have⟨E,H,_⟩:=j3 E4 E H;refine I ?_;refine aa (cG (a:=(n1:Int)) (b:=1) (c:=((n1+1:Nat):Int)) Z Z L7 U ?_);refine aa (wo (a:=((n1+1:Nat):Int)) (b:=2) (c:=((((n1+1)/2):Nat):Int)) Z Z U U L7 U ?_);refine aa (my (m:=((n1+1)/2)) g5 kI Z Z U CA (λ_ E9 _ Av=>?_));have Cr:(.slice (some ⟨E0.heap.size,0,none⟩) ((n1+1)/2) ((n1+1)/2):Value).ownBlock≠some (E6.heap.size):=λe=>by(have:=bt E;simp only[Value.ownBlock,Option.map_some,Option.some.injEq]at e;omega)
 have ES:(.slice (some ⟨E0.heap.size,0,none⟩) ((n1+1)/2) ((n1+1)/2):Value).ownBlock≠some (wr.heap.size):=λe=>by(have:=bt G;simp only[Value.ownBlock,Option.map_some,Option.some.injEq]at e;omega)
 have hN:=aa6 E9 hN;have⟨E,G,H⟩:=ca E9 E G H;refine BS (λ_ B1 _ H2=>?_);have hN:=aa6 B1 hN;have⟨E,G⟩:=dN B1 E G;have Av:=ab B1 Av;have H:=xt H B1;refine AP Av (aa7 H2) (λG0 KM CG od CB=>?_);have L1:=aR CB Cr (bt E);have L4:=aR CB ES (bt G);have hN:=en.gr od (λAm e=>by have:=uhN Am e;simp[Value.ownBlock];omega) hN;have E:=aa2 od (λe=>Cr e.symm) E;have G:=aa2 od (λe=>ES e.symm) G;have H:=bu Av U U H od;have P1:=od.size;refine aa (aK (v:=G0) Z ?_);refine I ?_;obtain⟨At,Kp,rfl,H3,-,-,-⟩:=e8 CG;have hT:=PR (aa7 CG) H3;have KY:PQ 1000 n (10000^((n1+1)/2))=some r:=by rw[<-hN.len,EW];exact hr
 refine I ?_;refine b7 [(2,3),(7,11),(32,60)] (λKC e W=>∃f:Nat,∃Ax:Option Addr,∃Af:Nat,∃A0:Nat,∃t:Nat,(f=KC)/\(e 7=.slice Ax Af A0)/\(PQ f n t=some r)/\(t<=10000^26)/\(0<t)/\(KM.heap.size<=W.heap.size)/\(aO w W)/\(en W w.heap.size A1 n1 c1 n)/\(ar W E6.heap.size 161 #[.bool false,.slice A1 n1 c1])/\(ar W wr.heap.size 161 #[.bool false,.slice A2 n2 c2])/\(en W w.heap.size Ax Af A0 t)) (1000) ⟨1000,At,((n1+1)/2)+1,Kp,10000^((n1+1)/2),rfl,rfl,KY,(Nat.pow_le_pow_right dc U),(Nat.pow_pos dc),(qa0 _),H,hN,E,G,(hT.mono U)⟩ ?_;rintro _ _ _ ⟨f,Ax,Af,A0,t,rfl,Lj,hf,Az,CY,Lk,O,hN,E,G,hT⟩;have lt:=cO (k:=27) hT (Nat.lt_of_le_of_lt Az dc);refine I ?_;refine clb Eg (hc:=sI hN U hT U CY) (hk:=?_);rintro _ _ B0 ⟨Aq,No,S0,Ar,Rm,N0,rfl,hQ,hRr⟩;have hN:=aa6 B0.2 hN;have⟨E,G⟩:=dN B0.2 E G;have hT:=aa6 B0.2 hT;have O:=xt O B0.2;have Li:=cO hQ (Nat.lt_of_le_of_lt (Nat.div_le_self _ _) (LR fn));refine I ?_;refine clb zw (hc:=pg hT U hQ U) (hk:=?_);rintro _ _ nm ⟨As,P2,cs,rfl,hS⟩;have hN:=aa6 nm.2 hN;have⟨E,G⟩:=dN nm.2 E G;have hT:=aa6 nm.2 hT;have O:=xt O nm.2;have ls:=cO hS (LS (LR fn) Az);refine BS (λ_ Ab _ GC=>?_);have hN:=aa6 Ab hN;have⟨E,G⟩:=dN Ab E G;have hT:=aa6 Ab hT
 have hS:=aa6 Ab hS;have O:=xt O Ab;have K2:=PS (aa7 GC);refine clb Eg (hc:=sI hS U K2 U dc) (hk:=?_);rintro _ _ Aw ⟨Ay,ny,H4,Ar2,Q0,Ne,rfl,hY,hR2⟩;have hN:=aa6 Aw.2 hN;have⟨E,G⟩:=dN Aw.2 E G;have hT:=aa6 Aw.2 hT;have O:=xt O Aw.2;have L2:=cO hY (Nat.lt_of_le_of_lt (Nat.div_le_self _ _) (LS (LR fn) Az));refine I ?_;refine clb zx (hc:=jN hY U hT) (hk:=?_);rintro _ _ Ao rfl;have hN:=aa6 Ao.2 hN;have⟨E,G⟩:=dN Ao.2 E G;have hT:=aa6 Ao.2 hT;have hY:=aa6 Ao.2 hY;have O:=xt O Ao.2;refine I ?_;by_cases v7:0<=(aQ (((t+n/t)/2:Nat):Int) ((t:Nat):Int));have Ap:=XT v7;have Ix:=ZB hf Ap;refine I ?_;refine aa (bX (vs:=[(1,.slice Ax Af A0)]) (cells:=#[.bool false,.slice Ax Af A0]) (pl:=[(0,1),(1,1)]) kJ bI Hx Z Hx ?_);refine clb mE (hc:=ZD (fZ (ng:=false) hT U (ht.ext O)) (PU Az)) (hk:=?_);rintro _ _ FR rfl;have O:=xt O FR.2;refine I ?_;exact bA (t:=2) (u:=3) (v1:=S (nS t)) (v2:=.int .i64 0) Z O (by rw[Ix]) Z Z;have Ap:=XU v7;obtain⟨g,rfl,h2⟩:=ZC hf Ap;refine I ?_;exact bF ⟨g,Ay,ny,H4,(t+n/t)/2,rfl,rfl,h2,(by have:=Nat.not_le.1 Ap;omega),(UZ hn0 CY),U,O,hN,E,G,(hY.mono U)⟩
end
section
def m6 (S:Nat)(a:N2):Option N2:=if yH a=true/\0<a.1*S/\0<a.2*S then(UX (a.1*S)).bind λx=>(UX (a.2*S)).bind λy=>if yH (x,y)=true then some (x,y+1)else none else none
def LU {S:Nat}{a r:N2}(h:m6 S a=some r):Bk 95 a/\0<a.1*S/\0<a.2*S/\∃x y,UX (a.1*S)=some x/\UX (a.2*S)=some y/\Bk 95 (x,y)/\r=(x,y+1):=by
 unfold m6 at h
 split at h
 · rename_i h1
   refine⟨kaC h1.1,h1.2.1,h1.2.2,?_⟩
   cases hx:UX (a.1*S)with
   |none=>rw[hx]at h;cases h
   | some x=>
     rw[hx,Option.bind_some]at h
     cases hy:UX (a.2*S)with
     |none=>rw[hy]at h;cases h
     | some y=>
       rw[hy,Option.bind_some]at h
       split at h
       · rename_i h2;cases h;exact⟨x,y,rfl,rfl,kaC h2,rfl⟩
       · cases h
 · cases h
def RQ:List UInt8:=[51,49,52,49,53,57,50,54,53,51,53,56,57,55,57,51,50,51,56,52,54,50,54,52,51,51,56,51,50,55,57,53,48,50,56,56,52,49,57,55,49,54,57,51,57,57,51,55,53,49,48,53,56,50,48,57,55,52,57,52,52,53,57,50,51,48,55,56,49,54,52,48,54,50,56,54,50,48,56,57,57]
def wc (k:Nat):Nat:=314159265358979323846264338327950288419716939937510582097494459230781640628620899/10^(80-k)
def LV (h:k<81):RQ.take (k+1)=nS (wc k):=by
 have:∀k:Fin 81,RQ.take (k.1+1)=nS (wc k.1):=by decide +kernel
 exact this ⟨k,h⟩
def XV :wc k<10^81:=Nat.lt_of_le_of_lt (Nat.div_le_self _ _) dc
section
variable {n:Int}
def lS (hd:0<d):0<((Int.gcd n d:Nat):Int):=by have:=Int.gcd_pos_of_ne_zero_right n (show d≠0 by omega);omega
def Bl (hd:0<d):eh n d*((Int.gcd n d:Nat):Int)=n:=by
 unfold eh;rw[if_neg U];exact Int.ediv_mul_cancel (Int.gcd_dvd_left ..)
def yS (hd:0<d):dn n d*((Int.gcd n d:Nat):Int)=d:=by
 unfold dn;rw[if_neg U];exact Int.ediv_mul_cancel (Int.gcd_dvd_right ..)
def qh (hd:0<d):eh n d*d=n*dn n d:=by
 have h1:=Bl (n:=n) hd
 have h2:=yS (n:=n) hd
 generalize eh n d=a at *
 generalize dn n d=b at *
 generalize ((Int.gcd n d:Nat):Int)=g at *
 rw[<-h1,<-h2,Int.mul_comm b g,Int.mul_assoc]
def oO (hd:0<d):0<dn n d:=by
 have h2:=yS (n:=n) hd
 have E:=lS (n:=n) hd
 rcases Int.lt_or_le 0 (dn n d)with h|h
 · exact h
 · have:=Int.mul_nonpos_of_nonpos_of_nonneg h (Int.le_of_lt E);omega
def LW (hd:0<d):dn n d<=d:=by
 have h2:=yS (n:=n) hd
 have G:=lS (n:=n) hd
 have E:=oO (n:=n) hd
 have:=Int.mul_le_mul_of_nonneg_left (show(1:Int)<=((Int.gcd n d:Nat):Int)by omega) (Int.le_of_lt E)
 omega
def DK (hd:0<d):(eh n d).natAbs<=n.natAbs:=by
 have h2:=qb2 Int.natAbs (Bl (n:=n) hd)
 have E:=lS (n:=n) hd
 rw[Int.natAbs_mul,Int.natAbs_natCast]at h2
 exact qa8 (Nat.le_mul_of_pos_right _ U) (Nat.le_of_eq h2)
def DL (hd:0<d):Int.gcd (eh n d) (dn n d)=1:=by
 have E:=lS (n:=n) hd
 have e:=Int.gcd_mul_right (eh n d) ((Int.gcd n d:Nat):Int) (dn n d)
 rw[Bl hd,yS hd,Int.natAbs_natCast]at e
 exact Nat.eq_of_mul_eq_mul_right (show 0<Int.gcd n d by omega) U
def XX (ha:Fz a)(hb:Fz b)(h0:0<b)(hg:Int.gcd a b=1):bN (ae a,ae b)=true:=by
 have e:bV (ae a) (ae b)=some [49]:=by
  unfold bV;rw[if_pos kb1,aJ,aJ,hg]
  decide +kernel
 unfold bN
 simp only[ha.int,hb.int,e]
 rw[gU hb.int,aJ,decide_eq_false (by rw[dh];omega)]
 rfl
def Bm (hd:0<d)(h:Fz n):Fz (eh n d):=Nat.lt_of_le_of_lt (DK hd) h
def Bn (hd:0<d)(h:Fz d):Fz (dn n d):=by have:=oO (n:=n) hd;have:=LW (n:=n) hd;unfold Fz at *;omega
def LX (hd:0<d)(fn:Fz n)(fd:Fz d):bN (qR n d)=true:=XX (Bm hd fn) (Bn hd fd) (oO hd) (DL hd)
end
def U0 {n:Int}(hd:0<d)(hg:Int.gcd n d=1):qR n d=(ae n,ae d):=by
 unfold qR eh dn;rw[hg,if_neg U,if_neg U];simp
def Bo (h:a∣b*c)(hg:Int.gcd a c=1):a∣b:=by
 have h1:a.natAbs∣b.natAbs*c.natAbs:=by rw[<-Int.natAbs_mul];exact Int.natAbs_dvd_natAbs.2 h
 exact Int.natAbs_dvd_natAbs.1 (Nat.Coprime.dvd_of_dvd_mul_right (show Nat.Coprime a.natAbs c.natAbs from hg) h1)
def LY (hb:0<b)(hd:0<d)(h1:Int.gcd a b=1)(h2:Int.gcd c d=1)(h:a*d=c*b):a=c/\b=d:=by
 have e1:b∣d:=by
  have:b∣d*a:=⟨c,by rw[Int.mul_comm d a,h,Int.mul_comm]⟩
  exact Bo this (by rw[Int.gcd_comm];exact h1)
 have e2:d∣b:=by
  have:d∣b*c:=⟨a,by rw[Int.mul_comm b c,<-h,Int.mul_comm]⟩
  exact Bo this (by rw[Int.gcd_comm];exact h2)
 have e:=Int.dvd_antisymm U U e1 e2
 subst e
 exact⟨Int.eq_of_mul_eq_mul_right U h,rfl⟩
def Hy (hb:0<b)(hd:0<d)(h:a*d=c*b):eh a b=eh c d/\dn a b=dn c d:=by
 have h1:=qh (n:=a) hb
 have h2:=qh (n:=c) hd
 refine LY (oO hb) (oO hd) (DL hb) (DL hd) ?_
 have e:eh a b*dn c d*(b*d)=eh c d*dn a b*(b*d):=by
  calc eh a b*dn c d*(b*d)=(eh a b*b)*(dn c d*d):=by grind
   _=(a*dn a b)*(dn c d*d):=by rw[h1]
   _=(a*d)*(dn a b*dn c d):=by grind
   _=(c*b)*(dn a b*dn c d):=by rw[h]
   _=(c*dn c d)*(dn a b*b):=by grind
   _=(eh c d*d)*(dn a b*b):=by rw[h2]
   _=eh c d*dn a b*(b*d):=by grind
 exact Int.eq_of_mul_eq_mul_right (Int.ne_of_gt (Int.mul_pos hb hd)) e
def LZ (hb:0<b)(hd:0<d)(h:a*d=c*b):qR a b=qR c d:=by
 obtain⟨h1,h2⟩:=Hy hb hd h
 unfold qR;rw[h1,h2]
def U2 (hb:0<b)(hd:0<d)(h:qR a b=qR c d):a*d=c*b:=by
 unfold qR at h
 have e1:=nf (qb2 Prod.fst h)
 have e2:=nf (qb2 Prod.snd h)
 have h1:=Bl (n:=a) hb
 have h2:=yS (n:=a) hb
 have h3:=Bl (n:=c) hd
 have h4:=yS (n:=c) hd
 rw[<-e1]at h3
 rw[<-e2]at h4
 generalize eh a b=p at *
 generalize dn a b=q at *
 rw[<-h1,<-h2,<-h3,<-h4];grind
def Bp {x k:Int}(hk:0<k):aQ (x*k) (y*k)=aQ x y:=Bf ⟨λh=>Int.lt_of_mul_lt_mul_right h (Int.le_of_lt hk),λh=>Int.mul_lt_mul_of_pos_right h hk⟩ ⟨λh=>Int.eq_of_mul_eq_mul_right U h,λh=>by rw[h]⟩
def PV (hb:0<b)(hd:0<d):aQ (eh a b*dn c d) (eh c d*dn a b)=aQ (a*d) (c*b):=by
 rw[<-Bp (Int.mul_pos (lS (n:=a) hb) (lS (n:=c) hd))]
 have h1:=Bl (n:=a) hb
 have h2:=yS (n:=a) hb
 have h3:=Bl (n:=c) hd
 have h4:=yS (n:=c) hd
 generalize eh a b=p at *
 generalize dn a b=q at *
 generalize eh c d=r at *
 generalize dn c d=s at *
 generalize ((Int.gcd a b:Nat):Int)=g at *
 generalize ((Int.gcd c d:Nat):Int)=k at *
 rw[<-h1,<-h2,<-h3,<-h4,show p*s*(g*k)=p*g*(s*k)by grind,show r*q*(g*k)=r*k*(q*g)by grind]
def Br (hb:0<b)(hd:0<d)(fa:Fz a)(fb:Fz b)(fc:Fz c)(fd:Fz d)(ht:Tb w):
 CL 26 #[.agg #[S (qR a b).1,S (qR a b).2],.agg #[S (qR c d).1,S (qR c d).2]] w (aH w λv _=>v=.int .i64 (aQ (a*d) (c*b))):=
 nE (LM (LX hb fa fb) (LX hd fc fd) (Bm hb fa) (Bn hb fb) (Bm hd fc) (Bn hd fd) ht) (qb2 (Value.int .i64) (PV hb hd))
def yT :aj (qR a b).1=eh a b/\aj (qR a b).2=dn a b:=⟨aJ _,aJ _⟩
def Q9 (a b:Int):Prop:=a.natAbs<10^90/\0<b/\b<10^90
def Q9.fz (h:Q9 a b):Fz a/\Fz b:=by obtain⟨_,_,_⟩:=h;unfold Fz;omega
def Q9.red (h:Q9 a b):Q9 (eh a b) (dn a b):=⟨Nat.lt_of_le_of_lt (DK h.2.1) h.1,oO h.2.1,by have:=LW (n:=a) h.2.1;have:=h.2.2;omega⟩
def Q9.ok (h:Q9 a b):bN (qR a b)=true:=LX h.2.1 h.fz.1 h.fz.2
def yU (ha:a.natAbs<10^90)(hb:b.natAbs<10^90):(a*b).natAbs<10^180:=by rw[Int.natAbs_mul];exact iJ ha hb
def DN (h:a.natAbs<10^180):Fz a:=by unfold Fz;omega
def U6 {n e:Int}(fn:Fz n)(fd:Fz d)(h:im n d=some (qR c e)):io n d=some (qR c e):=by
 unfold io;rw[fn.fits,fd.fits];exact h
def U7 (h1:Q9 a b)(h2:Q9 c d):dI (qR a b) (qR c d)=some (qR (a*d-c*b) (b*d)):=by
 unfold dI
 rw[h1.ok,h2.ok,yT.1,yT.2,yT.1,yT.2]
 have r1:=h1.red
 have r2:=h2.red
 have O:=yU r1.1 (b:=dn c d) (by have:=r2.2;omega)
 have H:=yU r2.1 (b:=dn a b) (by have:=r1.2;omega)
 have E:=yU (a:=dn a b) (b:=dn c d) (by have:=r1.2;omega) (by have:=r2.2;omega)
 rw[(DN O).fits,(DN H).fits]
 have G:=Int.mul_pos r1.2.1 r2.2.1
 simp only[Bool.and_self,if_true]
 refine U6 (by unfold Fz;omega) (DN E) ?_
 rw[te U]
 congr 1
 refine LZ G (Int.mul_pos h1.2.1 h2.2.1) ?_
 have e1:=qh (n:=a) h1.2.1
 have e2:=qh (n:=c) h2.2.1
 generalize eh a b=p at *
 generalize dn a b=q at *
 generalize eh c d=r at *
 generalize dn c d=s at *
 grind
section
def PW (h1:Q9 a b)(h2:Q9 c d)(ht:Tb w):CL 117 #[.agg #[S (qR a b).1,S (qR a b).2],.agg #[S (qR c d).1,S (qR c d).2]] w (aH w λv _=>v=Qv (a*d-c*b) (b*d)):=nE (E2 _ _ _ _ _ ht) (qb2 gY (U7 h1 h2))
end
def PX {a b:Nat}(hk:0<k):s6 (a*k) (b*k)=s6 a b:=by
 unfold s6
 rw[Nat.mul_mod_mul_right,Nat.mul_div_mul_right _ _ hk]
 have:(a%b*k=0)↔(a%b=0):=⟨λh=>(Nat.mul_eq_zero.1 h).resolve_right U,λh=>by rw[h,Nat.zero_mul]⟩
 simp only[this]
def PY {S d:Nat}(hk:0<k):qn S (n*k) (d*k)=qn S n d:=by
 unfold qn
 rw[show n*k*S=n*S*k by rw[Nat.mul_assoc,Nat.mul_comm k,<-Nat.mul_assoc],PX hk,Nat.mul_div_mul_right _ _ hk]
abbrev QV (a b:Int):Value:=.agg #[S (qR a b).1,S (qR a b).2]
abbrev IV (a b c d:Int):Value:=.agg #[S (qR a b).1,S (qR a b).2,S (qR c d).1,S (qR c d).2]
abbrev kaG (ma mb sa sb ea eb la lb ha hb oa ob ga gb:Int):Array Value:=#[S (qR ma mb).1,S (qR ma mb).2,S (qR sa sb).1,S (qR sa sb).2,S (qR ea eb).1,S (qR ea eb).2,S (qR la lb).1,S (qR la lb).2,S (qR ha hb).1,S (qR ha hb).2,S (qR oa ob).1,S (qR oa ob).2,S (qR ga gb).1,S (qR ga gb).2]
end
section
set_option maxRecDepth 100000
attribute [local irreducible] wpListIn Code.wpIn Oper.wpIn Exit.then Exit.inBlock Exit.noGoto
set_option maxHeartbeats 40000000
def xi (h1:Q9 a b)(h2:Q9 c d)(ht:Tb w):CL 26 #[QV a b,QV c d] w (aH w λv _=>v=.int .i64 (aQ (a*d) (c*b))):=
 Br h1.2.1 h2.2.1 h1.fz.1 h1.fz.2 h2.fz.1 h2.fz.2 ht
def q9m:Q9 1 1000000:=⟨by decide,by decide,by decide⟩
def q92:Q9 1 2:=⟨by decide,by decide,by decide⟩
def q9h:Q9 100 1:=⟨by decide,by decide,by decide⟩
def VA (h:-1000000000<=a/\a<=1000000000):In64 a:=by unfold In64;omega
def yV (ha:In64 a)(hb:In64 b)(h0:b≠0)(ht:Tb w):
 CL 98 #[.int .i64 a,.int .i64 b] w (aH w λv w'=>v=QV a b):=by
 refine aD func98 Z (I ?_);refine al aU (λ_ A1 G=>?_);have E:=A1.2;refine I ?_;refine cl Sr (PP ha hb h0 (ht.ext E)) ?_;rintro _ _ H rfl;have⟨G,E⟩:=bo H.2 G E;refine I ?_;refine cl qG k7 ?_;rintro _ _ O rfl;have⟨G,E⟩:=bo O.2 G E;refine SA G (λ_ A0 W=>?_);have E:=bi A0 E;refine I ?_;refine aW (v:=QV a b) (ci  rfl ?_) E Z;refine ai (t:=4) (cs:=[S (qR a b).1,S (qR a b).2]) (b:=w.heap.size) (o:=0) iW Z b8 ?_ ?_;exact Z;exact aa0 W (i:=0) Z
def xj (ql:Q9 la lb)(h12:pl<=12)(hl1:0<=aQ (la*1000000) (1*lb))(hl2:aQ (la*2) (1*lb)<=0)(ht:Tb w):
 CL 44 #[.agg #[S (qR la lb).1,S (qR la lb).2,.int .i64 pl]] w (aH w λv w'=>v=.tuple #[]):=by
 refine aD func44 Z (I ?_);refine bx (λ_ H3 G=>?_);have E:=H3.2;refine I ?_;refine cl tz (nE (Y:=.bool true) (eE _ _ _ (ht.ext E)) (qb2 Value.bool ql.ok)) ?_;rintro _ _ Av rfl;have⟨G,E⟩:=bo Av.2 G E;refine I ?_;refine cl fp df ?_ (av (qb2 Value.bool (qa1 U)) Z);rintro _ _ Aq rfl;have⟨G,E⟩:=bo Aq.2 G E;refine I ?_;refine I3 o7 9 aO ac3 (λ_ _ _=>xt) [(fun(v:Value) (_:World)=>v=(pT w.heap.size:Value)),(fun(v:Value) (_:World)=>v=(QV la lb:Value)),(fun(v:Value) (_:World)=>v=(QV 1 1000000:Value)),(fun(v:Value) (_:World)=>v=(.int .i64 (aQ (la*1000000) (1*lb)):Value)),(fun(v:Value) (_:World)=>v=(.bool (decide (0<=(aQ (la*1000000) (1*lb)))):Value)),(fun(v:Value) (_:World)=>v=(.bool (decide (0<=(aQ (la*1000000) (1*lb)))):Value)),(fun(v:Value) (_:World)=>v=(pT w.heap.size:Value)),(fun(v:Value) (_:World)=>v=(QV la lb:Value)),(fun(v:Value) (_:World)=>v=(QV 1 2:Value))] ⟨λ_ _ _ _ h=>h,λ_ _ _ _ h=>h,λ_ _ _ _ h=>h,λ_ _ _ _ h=>h,λ_ _ _ _ h=>h,λ_ _ _ _ h=>h,λ_ _ _ _ h=>h,λ_ _ _ _ h=>h,λ_ _ _ _ h=>h,trivial⟩ Hx Hx Hx ?_ ?_;refine⟨λK3 _ _ wr _=>?_,?_⟩;obtain⟨K3,rfl⟩:=b6 wr;refine I ?_;exact Or.inl (tS (aa3 _))
 refine⟨λAs _ _ B0 Ix=>?_,?_⟩;obtain⟨As,rfl⟩:=b6 B0;have Kp:=cV (Ix 0 16 Z Z);refine I ?_;exact Or.inl (tS (aa3 _));refine⟨λE5 _ EW CB _=>?_,?_⟩;obtain⟨E5,rfl⟩:=b6 CB;have W:=(xt E EW);refine clb Cq (hc:=yV (VA dc) (VA dc) dc (ht.ext W)) (hk:=?_);rintro _ _ H2 rfl;refine I ?_;exact Or.inl (tS H2.2);refine⟨λES _ Ar E1 O=>?_,?_⟩;obtain⟨ES,rfl⟩:=b6 E1;have Ap:=(xt E Ar);have KY:=cV (O 1 17 Z Z);have B2:=cV (O 2 18 Z Z);refine cl o6 (xi ql q9m (ht.ext Ap)) ?_ (av KY (av B2 Z));rintro _ _ Ay rfl;refine I ?_;exact Or.inl (tS Ay.2);refine⟨λAm _ _ KC A0=>?_,?_⟩;obtain⟨Am,rfl⟩:=b6 KC;have La:=cV (A0 3 19 Z Z);refine I ?_;exact Or.inl (tS (aa3 _));refine⟨λCG _ _ G0 Aw=>?_,?_⟩;obtain⟨CG,rfl⟩:=b6 G0;have L3:=cV (Aw 4 20 Z Z);refine I ?_;exact Or.inl (tS (aa3 _));refine⟨λCr _ _ FR Af=>?_,?_⟩;obtain⟨Cr,rfl⟩:=b6 FR;have E9:=cV (Af 5 21 Z Z);have Li:=(E9.trans (qb2 Value.bool (qa1 ka4)));refine I ?_;exact Or.inl (tS (aa3 _));refine⟨λny _ _ B1 od=>?_,?_⟩;obtain⟨ny,rfl⟩:=b6 B1;have KM:=cV (od 5 21 Z Z);have L2:=cV (od 6 22 Z Z);have L4:=(KM.trans (qb2 Value.bool (qa1 ka4)));refine I ?_
 exact Or.inl (tS (aa3 _));refine⟨λA1 _ E4 Ax Ao=>?_,?_⟩;obtain⟨A1,rfl⟩:=b6 Ax;have GC:=(xt E E4);have E6:=cV (Ao 5 21 Z Z);have L1:=(E6.trans (qb2 Value.bool (qa1 ka4)));refine I ?_;refine clb Cq (hc:=yV (VA dc) (VA dc) dc (ht.ext GC)) (hk:=?_);rintro _ _ Az rfl;refine I ?_;exact Or.inl (tS Az.2);exact trivial;intro E0 _ K2 E7 H;obtain⟨E0,rfl⟩:=b6 E7;have E:=xt E K2;have CY:=cV (H 5 21 Z Z);have Lj:=(CY.trans (qb2 Value.bool (qa1 ka4)));refine I ?_;have C0:=cV (H 7 23 Z Z);have A2:=cV (H 8 24 Z Z);refine cl o6 (xi ql q92 (ht.ext E)) ?_ (av C0 (av A2 Z));rintro _ _ Ab rfl;have E:=xt E Ab.2;refine I ?_;refine cl fp df ?_ (av (qb2 Value.bool (qa1 ka4)) Z);rintro _ _ H4 rfl;have E:=xt E H4.2;refine I ?_;exact Ij (nG Z) E Z
def yW (qa:Q9 a b)(ht:Tb w):
 CL 102 #[QV a b] w (aH w λv w'=>v=.bool (decide (0<aQ (a*1) (100*b)))):=by
 refine aD func102 Z (I ?_);refine bx (λ_ Ao _=>?_);have E:=Ao.2;refine I ?_;refine I3 o7 2 aO ac3 (λ_ _ _=>xt) [(fun(v:Value) (_:World)=>v=(QV a b:Value)),(fun(v:Value) (_:World)=>v=(QV 100 1:Value))] ⟨λ_ _ _ _ h=>h,λ_ _ _ _ h=>h,trivial⟩ Hx Hx Hx ?_ ?_;refine⟨λA0 _ _ A2 _=>?_,?_⟩;obtain⟨A0,rfl⟩:=b6 A2;refine I ?_;exact Or.inl (tS (aa3 _));refine⟨λny _ Am od _=>?_,?_⟩;obtain⟨ny,rfl⟩:=b6 od;have H:=(xt E Am);refine clb Cq (hc:=yV (VA dc) (VA dc) dc (ht.ext H)) (hk:=?_);rintro _ _ A1 rfl;refine I ?_;exact Or.inl (tS A1.2);exact trivial;intro Ab _ W wr G;obtain⟨Ab,rfl⟩:=b6 wr;have E:=xt E W;have O:=cV (G 0 3 Z Z);have nm:=cV (G 1 4 Z Z);refine cl o6 (xi qa q9h (ht.ext E)) ?_ (av O (av nm Z));rintro _ _ Af rfl;have E:=xt E Af.2;refine I ?_;exact am (t:=2) (v:=.bool (decide (0<(aQ (a*1) (100*b))))) Z E Z Z
end
end Go.Proofs.YtlmihmlnpjkblaaGreatDoor
namespace Go.Eng
open Go Go.RowKit
variable {l:List Oper}{d a s ty i j t b n0:Nat}{ls:Nat->Bool}{e:Nat->Value}{w w':World}
def ml:List (Option (Nat×Value))->Nat->Option (Option (Nat×Value))
 |[],_=>none
 |x::_,0=>some x
 |_::l,i+1=>ml l i
def VL (L:List (Option (Nat×Value)))(ls:Nat->Bool)(e:Nat->Value):Prop:=∀i d v,ml L i=some (some (d,v))->ls i=true->e d=v
def XY:Option Nat->Nat->Bool
 |none,_=>false
 |some a,b=>Nat.beq a b
def U8:List Oper->Bool
 |[]=>true
 |o::l=>(match o.dst with|none=>true|some d=>l.all λp=>!XY p.dst d)&&U8 l
def VB:List Oper->List (Option (Nat×Value))->Bool
 |_,[]=>true
 |[],_::_=>false
 |o::os,x::xs=>(match x with|none=>true|some y=>XY o.dst y.1)&&VB os xs
def inD (D:List Nat)(l:List Oper):Bool:=l.all λo=>match o.dst with|none=>true|some d=>Gq D d
def yX {o:Option Nat}:XY o d=true↔o=some d:=by
 cases o with
 |none=>simp[XY]
 |some a=>simp only[XY,Option.some.injEq];exact⟨qb4,λh=>by subst h;simp⟩
def FQ:∀{l:List Oper} {i j d:Nat} {o p:Oper},U8 l=true->l[i]?=some o->l[j]?=some p->o.dst=some d->p.dst=some d->i=j
 |[],i,_,_,_,_,_,h,_,_,_=>by simp at h
 |q::l,0,0,_,_,_,_,_,_,_,_=>rfl
 | q::l,0,j+1,d,o,p,h,ho,hp,hd,he=>by
   simp at ho;subst ho
   simp only[U8,hd,Bool.and_eq_true]at h
   have:=List.all_eq_true.1 h.1 p (qb0 (by simpa using hp))
   rw[yX.2 he]at this;cases this
 | q::l,i+1,0,d,o,p,h,ho,hp,hd,he=>by
   simp at hp;subst hp
   simp only[U8,he,Bool.and_eq_true]at h
   have:=List.all_eq_true.1 h.1 o (qb0 ka6)
   rw[yX.2 hd]at this;cases this
 | q::l,i+1,j+1,d,o,p,h,ho,hp,hd,he=>by
   simp only[U8,Bool.and_eq_true]at h
   have e:=FQ h.2 ka6 (by simpa using hp) hd he
   omega
def yY:∀{l:List Oper} {L:List (Option (Nat×Value))} {i d:Nat} {v:Value},VB l L=true->ml L i=some (some (d,v))->∃o,l[i]?=some o/\o.dst=some d
 |_,[],i,_,_,_,h=>by cases i <;>cases h
 |[],_::_,_,_,_,h,_=>by cases h
 | o::os,x::xs,0,d,v,h,hx=>by
   cases hx
   simp only[VB,Bool.and_eq_true]at h
   exact⟨o,rfl,yX.1 h.1⟩
 | o::os,x::xs,i+1,d,v,h,hx=>by
   simp only[VB,Bool.and_eq_true]at h
   obtain⟨p,h1,h2⟩:=yY h.2 (show ml xs i=_ from hx)
   exact⟨p,by simpa using h1,h2⟩
section draws
variable {P:Program}{r:Option Nat}{n N:Nat}{e0:Nat->Value}{ds:List Deferred}{w0:World}{Q:Exit->Act->World->Prop}{M:Nat}
def sr (N:Nat)(ds:List Deferred)(X:(Nat->Bool)->(Nat->Value)->World->Prop)(L:List (Option (Nat×Value)))(ls:Nat->Bool)(e:Nat->Value)(i:Nat)(dst:Option Nat):Exit->Act->World->Prop:=
 λx a' w'=>x=.normal/\∃v,a'=(act N e ds).put dst v/\(∀d u,ml L i=some (some (d,u))->v=u)/\X (eU ls i) (kL e dst v) w'
def ZE (r:Option Nat)(n:Nat)(P:Program)(N:Nat)(ds:List Deferred)(l:List Oper)(D:List Nat)(L:List (Option (Nat×Value)))(X:(Nat->Bool)->(Nat->Value)->World->Prop)(e0:Nat->Value):Nat->List Oper->Prop
 |_,[]=>True
 |i,o::os=>(∀(e:Nat->Value) (w:World) (ls:Nat->Bool),(∀t,Gq D t=false->e t=e0 t)->(∀k d v,ml L k=some (some (d,v))->cF l i k=true->e d=v)->X ls e w->(∀j k,cF l j k=true->ls j=true->ls k=true)->ls i=false->(∀k,cF l i k=true->ls k=true)->
  wpListIn (Fw r) n P l.toArray (sr N ds X L ls e i o.dst) [o] (act N e ds) w)/\ZE r n P N ds l D L X e0 (i+1) os
def FT {D:List Nat}{L:List (Option (Nat×Value))}{X:(Nat->Bool)->(Nat->Value)->World->Prop}(hnd:U8 (l.take M)=true)(hmt:VB (l.take M) L=true)(hD:inD D (l.take M)=true):
 ∀(os:List Oper) (i0:Nat),(∀k,os[k]?=(l.take M)[i0+k]?)->ZE r n P N ds l D L X e0 i0 os->
 tM r n P N ds l (λls e w=>(∀t,Gq D t=false->e t=e0 t)/\VL L ls e/\X ls e w) i0 os
 |[],_,_,_=>trivial
 | o ::os,i0,hk,h=>by
   refine⟨λe w ls hJ hcl hni hpr=>?_,FT hnd hmt hD os (i0+1) (λk=>by rw[show i0+1+k=i0+(k+1)by omega,<-hk (k+1)];rfl) h.2⟩
   obtain⟨hs,hv,hX⟩:=hJ
   have ho:(l.take M)[i0]?=some o:=by have:=hk 0;simpa using this.symm
   have hstep:=h.1 e w ls hs (λk d v hl A1=>hv k d v hl (hpr k A1)) hX hcl hni hpr
   refine tL (K1:=λa' w'=>∃v,a'=(act N e ds).put o.dst v/\(∀d u,ml L i0=some (some (d,u))->v=u)/\X (eU ls i0) (kL e o.dst v) w') hstep (λa' w' hE=>?_)
   obtain⟨v,Ab,A2,hX'⟩:=hE
   refine⟨v,Ab,?_,?_,hX'⟩
   · cases hd:o.dst with
     |none=>exact hs
     | some d=>
       refine dl ?_ hs
       have:=List.all_eq_true.1 hD o (qb0 ho)
       rw[hd]at this;exact this
   · intro j E H O hl
     by_cases hji:j=i0
     · subst hji
       obtain⟨p,G,W⟩:=yY hmt O
       rw[ho]at G
       cases G
       rw[W]
       show upd e E v E=H
       rw[kr];exact A2 E H O
     · have hl':ls j=true:=by
        have hb:Nat.beq j i0=false:=by
         cases hb:Nat.beq j i0 with
         |false=>rfl
         |true=>exact absurd (qb4 hb) hji
        unfold eU at hl;rw[hb]at hl;exact hl
       have A0:=hv j E H O hl'
       cases hd:o.dst with
       |none=>exact A0
       | some d=>
         show upd e d v E=H
         obtain⟨p,G,W⟩:=yY hmt O
         rw[upd_ne _ _ (λhh:E=d=>hji (FQ hnd G ho (by rw[W,hh]) hd))]
         exact A0
def Hz {id:Nat}(hm:P.follows .mixedOrders=true)(M:Nat)(D:List Nat)(L:List (Option (Nat×Value)))(X:(Nat->Bool)->(Nat->Value)->World->Prop)(h0:X (λ_=>false) e0 w0.drew)(hwf:Ni l=true)(hshape:ix l M=true)(hchk:(U8 (l.take M)&&(VB (l.take M) L&&inD D (l.take M)))=true)(hstep:ZE r n P N ds l D L X e0 0 (l.take M))(hfin:∀(e:Nat->Value) (w:World) (ls:Nat->Bool),(∀j,Nat.blt j M=true->ls j=true)->(∀t,Gq D t=false->e t=e0 t)->(∀k d v,ml L k=some (some (d,v))->Nat.blt k M=true->e d=v)->X ls e w->wpListIn (Fw r) n P l.toArray Q (l.drop M) (act N e ds) w):
 (Code.region id l.toArray true).wpIn (Fw r) n P Q (act N e0 ds) w0:=by
 simp only[Bool.and_eq_true]at hchk
 refine I1 hm M (λe0 ls e w=>(∀t,Gq D t=false->e t=e0 t)/\VL L ls e/\X ls e w) ⟨λ_ _=>rfl,(λ_ _ _ _ h=>by cases h),h0⟩ hwf hshape (FT hchk.1 hchk.2.1 hchk.2.2 _ 0 (λk=>by rw[Nat.zero_add]) hstep) ?_
 intro e w ls E hJ
 exact hfin e w ls E hJ.1 (λk d v hl hk=>hJ.2.1 k d v hl (E k hk)) hJ.2.2
def XA (w0:World)(a s d ty:Nat)(z v:Array Value)(ls:Nat->Bool)(e:Nat->Value)(w:World):Prop:=
 aO w0 w/\(ls a=true->∃b,e d=.pointer (some ⟨b,0,none⟩)/\w0.heap.size<=b/\ar w b ty (match ls s with|true=>v|false=>z))
def XA.start {z v:Array Value}:XA w0 a s d ty z v (λ_=>false) e0 w0.drew:=⟨ac3 w0,λh=>by cases h⟩
def e7 (h:Nat.beq j i=false):eU ls i j=ls j:=by unfold eU;rw[h]
def FU :eU ls i i=true:=by unfold eU;simp
def jZ {v:Value}(h:Nat.beq t d=false):upd e d v t=e t:=upd_ne _ _ (λE=>by subst E;simp at h)
def XA.fin {z v:Array Value}(h:XA w0 a s d ty z v ls e w)(ha:ls a=true)(hs:ls s=true\/z=v):∃b,e d=.pointer (some ⟨b,0,none⟩)/\w0.heap.size<=b/\ar w b ty v:=by
 obtain⟨b,h1,h2,h3⟩:=h.2 ha
 rcases hs with hs|hs
 · rw[hs]at h3;exact⟨b,h1,h2,h3⟩
 · subst hs;refine⟨b,h1,h2,?_⟩;cases hh:ls s <;>rw[hh]at h3 <;>exact h3
def XW (w0:World)(b s ty:Nat)(z v:Array Value)(ls:Nat->Bool)(_:Nat->Value)(w:World):Prop:=
 w0.grownBy w (some b)/\ar w b ty (match ls s with|true=>v|false=>z)
def XW.start {z v:Array Value}(h:ar w0 b ty z):XW w0 b s ty z v (λ_=>false) e0 w0.drew:=⟨lw (World.grownBy.refl w0 _) (ac3 w0),ad1 (ac3 w0) h⟩
def XW.fin {z v:Array Value}(h:XW w0 b s ty z v ls e w)(hs:ls s=true):ar w b ty v:=by
 have h3:=h.2
 rw[hs]at h3;exact h3
def XH (Rel:World->Prop)(n0 a d ty:Nat)(z:Array Value)(ls:Nat->Bool)(e:Nat->Value)(w:World):Prop:=
 Rel w/\n0<=w.heap.size/\(ls a=true->∃b,e d=.pointer (some ⟨b,0,none⟩)/\n0<=b/\ar w b ty z)
def XH.start {Rel:World->Prop}{z:Array Value}(h:Rel w0.drew):XH Rel w0.heap.size a d ty z (λ_=>false) e0 w0.drew:=⟨h,Below.size (ac3 w0),λh=>by cases h⟩
def dvH {Rel:World->Prop}{L:List (Option (Nat×Value))}{z:Array Value}{v:Value}{row:Option Nat}(hl:ml L i=some (some (d,v)))(hX:XH Rel n0 a t ty z ls e w)(h:Rel w')(k:w.grownBy w' row)(hr:∀g,row=some g->g<n0)(h1:Nat.beq a i=false:=by rfl)(h3:Nat.beq t d=false:=by rfl):
 sr N ds (XH Rel n0 a t ty z) L ls e i (some d) .normal (act N (upd e d v) ds) w':=by
 refine⟨rfl,v,(ax ..).symm,(λ_ _ h=>by rw[hl]at h;cases h;rfl),h,qa8 hX.2.1 k.size,λE=>?_⟩
 rw[e7 h1]at E
 obtain⟨b,e1,e2,H⟩:=hX.2.2 E
 refine⟨b,?_,e2,aa2 k (λG=>by have:=hr b G.symm;omega) H⟩
 show upd e d v t=_
 rw[jZ h3];exact e1
def jC {Rel:World->Prop}{L:List (Option (Nat×Value))}{z:Array Value}{v:Value}(hl:ml L i=some (some (d,v)))(hX:XH Rel n0 a t ty z ls e w)(h:Rel w')(k:aO w w')(h1:Nat.beq a i=false:=by rfl)(h3:Nat.beq t d=false:=by rfl):
 sr N ds (XH Rel n0 a t ty z) L ls e i (some d) .normal (act N (upd e d v) ds) w':=dvH hl hX h (lw (World.grownBy.refl w none) k) (λg h=>by cases h) h1 h3
end draws
end Go.Eng
namespace Go.Proofs.YtlmihmlnpjkblaaGreatDoor
open Go Go.Eng Go.RowKit Tryz
variable {a b' c' d':List UInt8}{cs lb vs:List Value}{d b c k off ft:Nat}{v:Value}
section
variable {P:Program}{r:Option Nat}{n:Nat}{Q:Exit->Act->World->Prop}{a:Act}{w:World}{c:Code}
def ZF (m:Nat)(h:c.wpIn (Fw r) n P (Exit.then (Code.roundsIn (Fw r) n P c Q m) Q) a w):(Code.loop c).wpIn (Fw r) n P Q a w:=wpIn_loop_rounds (m+1) h
def ZG {m:Nat}(h:c.wpIn (Fw r) n P (Exit.then (Code.roundsIn (Fw r) n P c Q m) Q) a w):Code.roundsIn (Fw r) n P c Q (m+1) a w:=h
end
section
variable {P:Program}{r:Option Nat}{n N:Nat}{e:Nat->Value}{ds:List Deferred}{w:World}{Q:Exit->Act->World->Prop}{K:Act->World->Prop}{t ty:Nat}{pos:String}{af:Array Edge}{g:Option (Nat×Bool)}{x y:Operand}
def XZ {el:TypeId}{z:Value}{size bytes m:Nat}{parts:Array (Nat×Operand)}{vs:List (Nat×Value)}{cells:Array Value}(hu:P.underlying t=some (.slice el))(hi:gu P el z size bytes)(hp:(parts.toList.map fun(i,x)=>(i,ev N e x))=vs)(h24:m*size<=16777216)(hm:0<m*size)(hf:Instr.fill (λi=>some (i*size,size)) ((Array.range (m*size)).map (z.cells[· %z.cells.size]!)) vs=some cells)(hk:∀w',(w'.heap.size=w.heap.size+1/\aO w w')->ar w' w.heap.size el cells->K (act N (upd e d (.slice (some ⟨w.heap.size,0,none⟩) m m)) ds) w'):
 Oper.wpIn (Fw r) n P ⟨some d,.buildSlice t m parts,ty,pos,af,g⟩ (act N e ds) w K Q:=by
 obtain⟨i,H,G,E,_⟩:=hi.parts
 subst E
 refine cQ (v:=.slice (some ⟨w.heap.size,0,none⟩) m m) (w':=w.alloc (.cells cells el)) Z ?_ (by
  rw[ax]
  exact hk _ ⟨by simp,ae2 _ _⟩ (heap_alloc_new w _))
 have hp':(parts.map fun(i,x)=>(i,ev N e x)).toList=vs:=by rw[<-hp];simp
 subst hp'
 have h2:¬m*i.size>2^24:=J
 have h3:¬(m*i.size=0):=J
 simp only[execOp,Instr.buildSlice,Sem.run_bind,run_underlying hu,Result.andThen_ok,sizeOf,typeInfo,run_program,H,Sem.run_pure,zeroValue,G,h2,if_false,h3,hf,newRow,run_newObj,World.alloc_eq]
end
def XB (X:(Nat->Bool)->(Nat->Value)->World->Prop)(a t el m:Nat)(cs:Array Value)(ls:Nat->Bool)(e:Nat->Value)(w:World):Prop:=
 X ls e w/\(ls a=true->∃b,e t=.slice (some ⟨b,0,none⟩) m m/\ar w b el cs)
section
variable {N:Nat}{ds:List Deferred}{X:(Nat->Bool)->(Nat->Value)->World->Prop}{L:List (Option (Nat×Value))}{ls:Nat->Bool}{e:Nat->Value}{i a t el m:Nat}{cs:Array Value}{w w' w0:World}
def XB.start (h:X (λ_=>false) e w):XB X a t el m cs (λ_=>false) e w:=⟨h,λh=>by cases h⟩
def XB.up (hB:XB X a t el m cs ls e w)(hX:X (eU ls i) (upd e d v) w')(k:aO w w')(h1:Nat.beq a i=false:=by rfl)(h3:Nat.beq t d=false:=by rfl):XB X a t el m cs (eU ls i) (upd e d v) w':=by
 refine⟨hX,λE=>?_⟩
 rw[e7 h1]at E
 obtain⟨b,p,q⟩:=hB.2 E
 exact⟨b,by rw[jZ h3];exact p,ad1 k q⟩
def XA.up {a s t ty:Nat}{z u:Array Value}(hX:XA w0 a s t ty z u ls e w)(k:aO w w')(h1:Nat.beq a i=false:=by rfl)(h2:Nat.beq s i=false:=by rfl)(h3:Nat.beq t d=false:=by rfl):XA w0 a s t ty z u (eU ls i) (upd e d v) w':=by
 refine⟨aO.trans hX.1 k,λE=>?_⟩
 rw[e7 h1]at E
 obtain⟨b,e1,e2,G⟩:=hX.2 E
 exact⟨b,by rw[jZ h3];exact e1,e2,by rw[e7 h2];exact ad1 k G⟩
end
def XK (X:(Nat->Bool)->(Nat->Value)->World->Prop)(n0 a1 t1 a t ty:Nat)(z:Array Value)(ls:Nat->Bool)(e:Nat->Value)(w:World):Prop:=
 X ls e w/\(ls a=true->∃b,e t=pT b/\n0<=b/\ar w b ty z/\(ls a1=true->e t1≠pT b))
section
variable {N:Nat}{ds:List Deferred}{X:(Nat->Bool)->(Nat->Value)->World->Prop}{Rel:World->Prop}{L:List (Option (Nat×Value))}{ls:Nat->Bool}{e:Nat->Value}{n0 i a t ty a1 t1 ty1:Nat}{z z1:Array Value}{w w':World}
def XK.start (h:X (λ_=>false) e w):XK X n0 a1 t1 a t ty z (λ_=>false) e w:=⟨h,λh=>by cases h⟩
def tj {ex:Exit}{a':Act}(h:sr N ds X L ls e i (some d) ex a' w')(hK:XK X n0 a1 t1 a t ty z ls e w)(k:∀b,n0<=b->ar w b ty z->ar w' b ty z)(h1:Nat.beq a i=false:=by rfl)(h2:Nat.beq a1 i=false:=by rfl)(h3:Nat.beq t d=false:=by rfl)(h4:Nat.beq t1 d=false:=by rfl):
 sr N ds (XK X n0 a1 t1 a t ty z) L ls e i (some d) ex a' w':=by
 obtain⟨rfl,v,e1,e2,G⟩:=h
 refine⟨rfl,v,e1,e2,G,λE=>?_⟩
 rw[e7 h1]at E
 obtain⟨b,p,q,r,s⟩:=hK.2 E
 refine⟨b,?_,q,k b q r,λhb=>?_⟩
 · show upd e d v t=_;rw[jZ h3];exact p
 · rw[e7 h2]at hb
   show upd e d v t1≠_;rw[jZ h4];exact s hb
def X1 (hl:ml L a1=some none)(hX:X (eU ls a1) (upd e t1 (pT w.heap.size)) w')(hK:XK X n0 a1 t1 a t ty z ls e w)(k:∀b,n0<=b->ar w b ty z->ar w' b ty z)(h1:Nat.beq a a1=false:=by rfl)(h3:Nat.beq t t1=false:=by rfl):
 sr N ds (XK X n0 a1 t1 a t ty z) L ls e a1 (some t1) .normal (act N (upd e t1 (pT w.heap.size)) ds) w':=by
 refine⟨rfl,_,(ax ..).symm,(λ_ _ h=>by rw[hl]at h;cases h),hX,λG=>?_⟩
 rw[e7 h1]at G
 obtain⟨b,p,q,r,s⟩:=hK.2 G
 refine⟨b,?_,q,k b q r,λ_=>?_⟩
 · show upd e t1 _ t=_;rw[jZ h3];exact p
 · show upd e t1 _ t1≠_
   rw[kr]
   intro E
   have:=ar.lt r
   injection E with E;injection E with E;injection E with E
   omega
def X3 (hl:ml L a=some none)(hX:X (eU ls a) (upd e t (pT w.heap.size)) w')(hn:n0<=w.heap.size)(hb:ar w' w.heap.size ty z)(hne:ls a1=true->e t1≠pT w.heap.size)(h1:Nat.beq a1 a=false:=by rfl)(h3:Nat.beq t1 t=false:=by rfl):
 sr N ds (XK X n0 a1 t1 a t ty z) L ls e a (some t) .normal (act N (upd e t (pT w.heap.size)) ds) w':=by
 refine⟨rfl,_,(ax ..).symm,(λ_ _ h=>by rw[hl]at h;cases h),hX,λ_=>⟨w.heap.size,?_,hn,hb,λhb=>?_⟩⟩
 · show upd e t _ t=_;rw[kr]
 · rw[e7 h1]at hb
   show upd e t _ t1≠_
   rw[jZ h3];exact hne hb
def XH.new (hX:XH Rel n0 a1 t1 ty1 z1 ls e w)(h:Rel w')(k:aO w w')(hb:ar w' w.heap.size ty1 z1):XH Rel n0 a1 t1 ty1 z1 (eU ls a1) (upd e t1 (pT w.heap.size)) w':=
 ⟨h,qa8 hX.2.1 k.size,λ_=>⟨w.heap.size,kr ..,hX.2.1,hb⟩⟩
def XH.keep (hX:XH Rel n0 a1 t1 ty1 z1 ls e w)(h:Rel w')(k:aO w w')(h1:Nat.beq a1 i=false:=by rfl)(h3:Nat.beq t1 d=false:=by rfl):XH Rel n0 a1 t1 ty1 z1 (eU ls i) (upd e d v) w':=by
 refine⟨h,qa8 hX.2.1 k.size,λE=>?_⟩
 rw[e7 h1]at E
 obtain⟨b,p,q,r⟩:=hX.2.2 E
 exact⟨b,by rw[jZ h3];exact p,q,r.ext k⟩
def XH.ne (hX:XH Rel n0 a1 t1 ty1 z1 ls e w)(ha:ls a1=true):e t1≠pT w.heap.size:=by
 obtain⟨b,p,q,r⟩:=hX.2.2 ha
 rw[p]
 intro E
 have:=ar.lt r
 injection E with E;injection E with E;injection E with E
 omega
def L0 (h1:v=pT b)(h2:v≠pT c):b≠c:=λh=>h2 (by rw[h1,h])
end
def ZH:prog.eqGuardType prog.depth 33=false:=by kernel_rfl
def X4:prog.stoodInHeld 33=false:=by kernel_rfl
def yZ (w:World)(cs:Array Value)(i:Nat)(v:Value)(h:cs[i]?=some v):(part 9 cs i).run prog w=.ok v w:=by
 unfold part
 simp[isAgg,run_underlying underlying9,h]
def X5 (w:World)(a b:List UInt8)(d:Nat):(Op.equalIn (d+1) 9 (S a) (S b)).run prog w=.ok (decide (a=b)) w:=by
 unfold Op.equalIn
 simp[run_underlying underlying9,S]
 have h:∀x y:ByteArray,(x==y)=(x.data==y.data):=λx y=>by cases x;cases y;rfl
 rw[h]
 exact Bool.eq_iff_iff.2 Rg
def X6 (w:World)(a b:R):(Op.equal 33 (.agg #[S a.1,S a.2]) (.agg #[S b.1,S b.2])).run prog w=.ok (decide (a=b)) w:=by
 unfold Op.equal Op.maxDepth
 show(Op.equalIn (9998+1+1) 33 _ _).run _ _=_
 unfold Op.equalIn
 obtain⟨a1,E⟩:=a
 obtain⟨b1,b2⟩:=b
 have G:=yZ w #[S a1,S E] 0 (S a1) Z
 have p2:=yZ w #[S a1,S E] 1 (S E) Z
 have p3:=yZ w #[S b1,S b2] 0 (S b1) Z
 have p4:=yZ w #[S b1,S b2] 1 (S b2) Z
 have e1:=X5 w a1 b1 9998
 have e2:=X5 w E b2 9998
 simp[run_underlying underlying33,X4,G,p2,p3,p4,e1,e2]
 by_cases h1:a1=b1 <;>by_cases h2:E=b2 <;>simp[h1,h2]
section
variable {r:Option Nat}{n N:Nat}{e:Nat->Value}{ds:List Deferred}{w:World}{Q:Exit->Act->World->Prop}{K:Act->World->Prop}
variable {ty:Nat}{pos:String}{af:Array Edge}{g:Option (Nat×Bool)}{u:Value}{x y:Operand}{t t':TypeId}
def L5 {op:BinOp}(x y:Operand)(a b:Array Value):(eqGuard op 33 x y (.agg a) (.agg b)).run prog w=.ok () w:=by
 unfold eqGuard
 cases op <;>simp[ZH]
def FV {a b:R}{q:Bool}(hx:ev N e x=.agg #[S a.1,S a.2])(hy:ev N e y=.agg #[S b.1,S b.2])(hq:decide (a=b)=q)(hk:K (act N (upd e d (.bool q)) ds) w):
 Oper.wpIn (Fw r) n prog ⟨some d,.binOp .eql 33 x y t',ty,pos,af,g⟩ (act N e ds) w K Q:=
 dR hx hy (L5 ..) (by subst hq;simp[binOp,X6]) hk
end
section
variable {P:Program}{r:Option Nat}{n N:Nat}{e:Nat->Value}{ds:List Deferred}{w:World}{Q:Exit->Act->World->Prop}{K:Act->World->Prop}
variable {ty:Nat}{pos:String}{af:Array Edge}{g:Option (Nat×Bool)}{u:Value}{x y:Operand}{t t':TypeId}
def vq {fs:Array Field}{f:Field}{D:TypeDesc}(hu:P.underlying t=some (.struct fs))(hf:fs[k]?=some f)(ho:f.offset=off)(hft:f.type=ft)(hD:P.underlying ft=some D)(hd:D.isRow=false)(hx:ev N e x=.agg cs.toArray)(hv:cs[off]?=some v)(hk:K (act N (upd e d v) ds) w):Oper.wpIn (Fw r) n P ⟨some d,.field t x k,ty,pos,af,g⟩ (act N e ds) w K Q:=by
 subst ho hft
 refine cQ (v:=v) (w':=w) Z ?_ RW
 have E:(isAgg f.type).run P w=.ok false w:=by
  unfold isAgg
  rw[Sem.run_bind,run_underlying hD w]
  cases D <;>simp_all
 have hv':cs.toArray[f.offset]?=some v:=by rw[List.getElem?_toArray];exact hv
 simp[execOp,hx,Instr.field,run_underlying hu,hf,asAgg,part,E,hv]
end
def PZ (w:World)(a b c d:List UInt8):(part 33 #[S a,S b,S c,S d] 0).run prog w=.ok (.agg #[S a,S b]) w:=by
 unfold part
 simp[isAgg,run_underlying underlying33]
def P3 (w:World)(a b c d:List UInt8):(part 33 #[S a,S b,S c,S d] 2).run prog w=.ok (.agg #[S c,S d]) w:=by
 unfold part
 simp[isAgg,run_underlying underlying33]
section
variable {r:Option Nat}{n N:Nat}{e:Nat->Value}{ds:List Deferred}{w:World}{Q:Exit->Act->World->Prop}{K:Act->World->Prop}
variable {ty:Nat}{pos:String}{af:Array Edge}{g:Option (Nat×Bool)}{u:Value}{x y z:Operand}{t t':TypeId}{G:R->R×R}{q:R}
def Bs {R:Value->World->Prop}{f:FuncId}{xs:Array Operand}{ats:Array TypeId}(hf:Enters prog f)(hx:ev N e x=.func (.func f) #[] lb.toArray)(hv:xs.toList.map (ev N e)=vs)(hc:CL f (vs++lb).toArray w (kv R))(hk:∀v w',R v w'->K (act N (upd e d v) ds) w'):Oper.wpIn (Fw r) n prog ⟨some d,.call {callee:=.value x,args:=xs,argTypes:=ats},ty,pos,af,g⟩ (act N e ds) w K Q:=by
 subst hv
 have h2:xs.map (ev N e)++lb.toArray=(xs.toList.map (ev N e)++lb).toArray:=by simp
 refine⟨λf _=>kF r f,?_⟩
 have hs:(execOp (ev N e) ⟨some d,.call {callee:=.value x,args:=xs,argTypes:=ats},ty,pos,af,g⟩).run prog w=.ok (.enter f (xs.map (ev N e)++lb.toArray)) w:=by
  simp[execOp,resolve,Deferred.ofValue,hx,invoke,hf _ _]
 rw[iT Z,cW,hs]
 refine⟨(λh=>by rw[mp]at h;cases h),oS ((show CL f (xs.map (ev N e)++lb.toArray) w (kv R)from by rw[h2];exact hc).mono ?_)⟩
 intro e' w' h
 cases e' with
 | returned v=>
   show K ((act N e ds).put (some d) v) w'
   rw[ax];exact hk v w' h
 |panicked c=>exact h.elim
 |outgrown=>exact h.elim
def xk (hx:ev N e x=.agg #[S a,S b',S c',S d'])(hk:K (act N (upd e d (.agg #[S a,S b'])) ds) w):
 Oper.wpIn (Fw r) n prog ⟨some d,.field 144 x 0,ty,pos,af,g⟩ (act N e ds) w K Q:=by
 refine cQ (v:=.agg #[S a,S b']) (w':=w) Z ?_ RW
 have p:=PZ w a b' c' d'
 simp[execOp,Instr.field,hx,run_underlying underlying144,asAgg,p]
def HA (hx:ev N e x=.agg #[S a,S b',S c',S d'])(hk:K (act N (upd e d (.agg #[S c',S d'])) ds) w):
 Oper.wpIn (Fw r) n prog ⟨some d,.field 144 x 1,ty,pos,af,g⟩ (act N e ds) w K Q:=by
 refine cQ (v:=.agg #[S c',S d']) (w':=w) Z ?_ RW
 have p:=P3 w a b' c' d'
 simp[execOp,Instr.field,hx,run_underlying underlying144,asAgg,p]
end
end Go.Proofs.YtlmihmlnpjkblaaGreatDoor
