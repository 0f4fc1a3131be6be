/- Part of the proof of a statement about an adjustment. -/
import Derived.Test.YtlmihmlnpjkblaaGreatDoorLa2ToSp1L
import Derived.DeepKeys
set_option linter.all false
namespace Go.Proofs.YtlmihmlnpjkblaaGreatDoor
open Go Go.Eng Go.RowKit Tryz
variable {a b c d n1 d1 n2 d2 x y N D la lb:Int}{n lo t pl f k:Nat}{A:Option Addr}{w:World}
section
attribute [local irreducible] wpListIn Code.wpIn Oper.wpIn Exit.then Exit.inBlock Exit.noGoto
set_option maxHeartbeats 40000000
def He (x y:Int):aN x y=-aN y x:=by
 unfold aN;repeat' split
 all_goals first|rfl|omega
def AO (h1:a<b↔c<d)(h2:a=b↔c=d):aN a b=aN c d:=by
 unfold aN
 by_cases h:a<b
 · rw[if_pos h,if_pos (h1.1 h)]
 · rw[if_neg h,if_neg (λe=>h (h1.2 e))]
   by_cases h':a=b
   · rw[if_pos h',if_pos (h2.1 h')]
   · rw[if_neg h',if_neg (λe=>h' (h2.2 e))]
def LA (h:a-b=c-d):aN a b=aN c d:=AO U U
def AQ (h1:0<d1)(h2:0<d2)(h:n1/d1<n2/d2):n1*d2<n2*d1:=by
 have H:=Int.lt_ediv_add_one_mul_self n1 h1
 have e2:=Int.ediv_mul_le n2 (show d2≠0 by omega)
 have E:(n1/d1+1)*d1<=(n2/d2)*d1:=Int.mul_le_mul_of_nonneg_right U U
 have W:n1*d2<(n2/d2)*d1*d2:=Int.mul_lt_mul_of_pos_right U h2
 have G:(n2/d2)*d2*d1<=n2*d1:=Int.mul_le_mul_of_nonneg_right e2 U
 have O:(n2/d2)*d1*d2=(n2/d2)*d2*d1:=by rw[Int.mul_assoc,Int.mul_comm d1 d2,<-Int.mul_assoc]
 omega
def XD (h1:0<d1)(h2:0<d2)(h:¬aN (n1/d1) (n2/d2)=0):aN (n1/d1) (n2/d2)=aN (n1*d2) (n2*d1):=by
 have E:n1/d1≠n2/d2:=λe=>h (jp e)
 rcases Int.lt_or_gt_of_ne E with hl|hl
 · rw[fV hl,fV (AQ h1 h2 hl)]
 · rw[eK hl,eK (AQ h2 h1 hl)]
def Hf (h:aN x y=0):x=y:=by
 unfold aN at h
 split at h
 · omega
 · split at h
   · assumption
   · omega
def Fv (h:aN (n1/d1) (n2/d2)=0):aN (n1*d2) (n2*d1)=aN (n1%d1*d2) (n2%d2*d1):=by
 have e:=Hf h
 refine LA ?_
 have a1:=Int.mul_ediv_add_emod n1 d1
 have E:=Int.mul_ediv_add_emod n2 d2
 generalize n1/d1=p at *;generalize n2/d2=q at *;generalize n1%d1=r at *;generalize n2%d2=s at *
 subst e;subst a1;subst E
 rw[Int.add_mul,Int.add_mul,show d1*p*d2=d2*p*d1 by rw[Int.mul_comm d1 p,Int.mul_comm d2 p,Int.mul_assoc,Int.mul_comm d1 d2,<-Int.mul_assoc]]
 omega
def Pm {sg:Int}(h:sg=1\/sg=-1):In64 (sg*aN x y):=by
 have h1:aN x y<=1/\-1<=aN x y:=by unfold aN;split;omega;split <;>omega
 unfold In64;rcases h with rfl|rfl <;>omega
section
variable {N1 D1 N2 D2 sg:Int}(hi:aN (N1*D2) (N2*D1)=sg*aN (n1*d2) (n2*d1))(h1:0<d1)(h2:0<d2)
include hi h1 h2
theorem XE (h:¬aN (n1/d1) (n2/d2)=0):sg*aN (n1/d1) (n2/d2)=aN (N1*D2) (N2*D1):=by rw[hi,XD h1 h2 h]
theorem XF (h:aN (n1/d1) (n2/d2)=0)(hr:ae (n1%d1)=[48])(hs:ae (n2%d2)=[48]):0=aN (N1*D2) (N2*D1):=by
 rw[hi,Fv h,dJ.1 hr,dJ.1 hs];simp[aN]
theorem XG (h:aN (n1/d1) (n2/d2)=0)(hr:ae (n1%d1)=[48])(hs:¬ae (n2%d2)=[48]):-sg=aN (N1*D2) (N2*D1):=by
 have E:n2%d2≠0:=λe=>hs (dJ.2 e)
 have h3:=Int.emod_nonneg n2 (show d2≠0 by omega)
 rw[hi,Fv h,dJ.1 hr,fV (by rw[Int.zero_mul];exact Int.mul_pos U h1)];omega
theorem XI (h:aN (n1/d1) (n2/d2)=0)(hr:¬ae (n1%d1)=[48])(hs:ae (n2%d2)=[48]):sg=aN (N1*D2) (N2*D1):=by
 have E:n1%d1≠0:=λe=>hr (dJ.2 e)
 have h3:=Int.emod_nonneg n1 (show d1≠0 by omega)
 rw[hi,Fv h,dJ.1 hs,eK (by rw[Int.zero_mul];exact Int.mul_pos U h2)];omega
theorem LB (h:aN (n1/d1) (n2/d2)=0)(hr:¬ae (n1%d1)=[48])(hs:¬ae (n2%d2)=[48]):
 aN (N1*D2) (N2*D1)=-sg*aN (d1*(n2%d2)) (d2*(n1%d1))/\0<n1%d1/\0<n2%d2:=by
 have E:n1%d1≠0:=λe=>hr (dJ.2 e)
 have h3:=Int.emod_nonneg n1 (show d1≠0 by omega)
 have h4:n2%d2≠0:=λe=>hs (dJ.2 e)
 have G:=Int.emod_nonneg n2 (show d2≠0 by omega)
 refine⟨?_,by omega,by omega⟩
 rw[hi,Fv h,He (d1*_),Int.mul_comm d1,Int.mul_comm d2,Int.neg_mul_neg]
end
def LC {n:Int}(h:Fz d)(hd:0<d):Fz (n%d):=by
 have h1:=Int.emod_nonneg n (show d≠0 by omega)
 have h2:=Int.emod_lt_of_pos n hd
 unfold Fz at *;omega
set_option maxRecDepth 100000 in
theorem AR {N1 D1 N2 D2:Int}(o1:bJ (ae N1,ae D1)=true)(o2:bJ (ae N2,ae D2)=true)(fN1:Fz N1)(fD1:Fz D1)(fN2:Fz N2)(fD2:Fz D2)(ht:Tb w):
 CL 26 #[.agg #[S (ae N1),S (ae D1)],.agg #[S (ae N2),S (ae D2)]] w (aG w λv w'=>v=.int .i64 (aN (N1*D2) (N2*D1))):=by
 have P1:0<D1:=by have:=cE o1;rwa [aI]at this
 have P2:0<D2:=by have:=cE o2;rwa [aI]at this
 refine aC func26 rfl ?_;refine I ?_;refine bx (λAs gW ny=>?_);have Ax:=gW.2;refine bx (λ_ hA Ay=>?_);have⟨ny,Ax⟩:=bn hA.2 ny Ax;refine I ?_;refine cl td (eo (ae N1) (ae D1) _ (ht.ext Ax)) ?_;rintro _ _ cz rfl;have⟨ny,Ay,Ax⟩:=cj cz.2 ny Ay Ax;refine I ?_;refine cl td (eo (ae N2) (ae D2) _ (ht.ext Ax)) ?_;rintro _ _ hG rfl;have⟨ny,Ay,Ax⟩:=cj hG.2 ny Ay Ax;refine I ?_;refine wpIn_label (e9 ?_);refine W7 [(4,12),(21,73)] (λd0 e W=>∃n1:Int,∃d1:Int,∃n2:Int,∃d2:Int,∃sg:Int,(d1.toNat=d0)/\(e 5=.int .i64 sg)/\(0<d1)/\(0<d2)/\(Fz n1)/\(Fz d1)/\(Fz n2)/\(Fz d2)/\(sg=1\/sg=-1)/\(aN (N1*D2) (N2*D1)=sg*aN (n1*d2) (n2*d1))/\(aO w W)/\(ap W (w.heap.size) 33 #[S (ae n1),S (ae d1)])/\(ap W (As.heap.size) 33 #[S (ae n2),S (ae d2)])) ((D1).toNat) ⟨N1,D1,N2,D2,1,rfl,rfl,P1,P2,fN1,fD1,fN2,fD2,(Or.inl rfl),(Int.one_mul _).symm,Ax,ny,Ay⟩ ?_;rintro _ _ _ ⟨n1,d1,n2,d2,sg,rfl,ha,Av,p2,EW,E1,ES,CG,fP,hi,E,hB1,hB2⟩;refine I ?_;refine cl y6 (nc (Y:=.tuple #[S (ae (n1/d1)),S (ae (n1%d1)),.int .i64 0]) (j5 _ _ _ (ht.ext E)) (qb2 vI (uH EW E1 (Int.ne_of_gt Av) (kq EW Av)))) ?_;rintro _ _ ga rfl;have⟨hB1,hB2,E⟩:=cj ga.2 hB1 hB2 E;refine I ?_
 refine cl y6 (nc (Y:=.tuple #[S (ae (n2/d2)),S (ae (n2%d2)),.int .i64 0]) (j5 _ _ _ (ht.ext E)) (qb2 vI (uH ES CG (Int.ne_of_gt p2) (kq ES p2)))) ?_;rintro _ _ hD rfl;have⟨hB1,hB2,E⟩:=cj hD.2 hB1 hB2 E;refine I ?_;refine cl xm (nc (Y:=.int .i64 (aN (n1/d1) (n2/d2))) (pf _ _ _) (qb2 (Value.int .i64) (KX (kq EW Av) (kq ES p2)))) ?_;rintro _ bd eD rfl;have⟨hB1,hB2,E⟩:=cj eD.2 hB1 hB2 E;refine I ?_;by_cases ns:(aN (n1/d1) (n2/d2))=0;refine I ?_;by_cases np:(ae (n1%d1))=([48]);refine I ?_;refine rH (b:=[48]) ?_;refine I ?_;refine rH (b:=[48]) ?_;refine I ?_;by_cases wr:(ae (n2%d2))=([48]);refine I ?_;exact am (t:=4) (v:=.int .i64 0) rfl E (qb2 (Value.int .i64) (XF hi Av p2 ns np wr)) rfl;refine I ?_;refine rH (b:=[48]) ?_;refine I ?_;refine aa (yY (a:=sg) rfl (by unfold In64;omega) ?_);refine I ?_;exact am (t:=4) (v:=.int .i64 (-sg)) rfl E (qb2 (Value.int .i64) (XG hi Av p2 ns np wr)) rfl;refine I ?_;refine rH (b:=[48]) ?_;refine I ?_;refine rH (b:=[48]) ?_;refine I ?_;refine rH (b:=[48]) ?_;refine I ?_;by_cases p6:(ae (n2%d2))=([48]);refine I ?_;exact am (t:=4) (v:=.int .i64 sg) rfl E (qb2 (Value.int .i64) (XI hi Av p2 ns np p6)) rfl;refine I ?_;have B1:=ac3 bd
 refine IP tm 12 (λe0 ls e W=>(∀t,F8 [64,65,66,67,68,69,70,71,72,73] t=false->e t=e0 t)/\(aO w W)/\(bd.heap.size<=W.heap.size)/\(ls 0=true->e 64=.pointer (some ⟨w.heap.size,1,none⟩))/\(ls 1=true->e 65=S (ae d1))/\(ls 2=true->e 66=S (ae (n1%d1)))/\(ls 3=true->e 67=.agg #[S (ae d1),S (ae (n1%d1))])/\(ls 4=true->e 68=.pointer (some ⟨As.heap.size,1,none⟩))/\(ls 5=true->e 69=S (ae d2))/\(ls 6=true->e 70=S (ae (n2%d2)))/\(ls 7=true->e 71=.agg #[S (ae d2),S (ae (n2%d2))])/\(ls 8=true->e 72=.int .i64 sg)/\(ls 9=true->e 73=.int .i64 (-sg))/\(ls 10=false->ap W (w.heap.size) 33 #[S (ae n1),S (ae d1)])/\(ls 10=true->ap W (w.heap.size) 33 #[S (ae d1),S (ae (n1%d1))])/\(ls 11=false->ap W (As.heap.size) 33 #[S (ae n2),S (ae d2)])/\(ls 11=true->ap W (As.heap.size) 33 #[S (ae d2),S (ae (n2%d2))])) ⟨(λ_ _=>rfl),(xt E B1),(bz B1),(ff rfl),(ff rfl),(ff rfl),(ff rfl),(ff rfl),(ff rfl),(ff rfl),(ff rfl),(ff rfl),(ff rfl),(λ_=>(be B1 hB1)),(λh=>ff rfl h),(λ_=>(be B1 hB2)),(λh=>ff rfl h)⟩ (by kernel_rfl) (by kernel_rfl) ?_ ?_;refine⟨λg3 L4 FR h5 E5 Cr _=>?_,?_⟩;obtain⟨KM,E,Aw,A2,G,O,Ab,Ap,H,Af,Ao,A0,A1,Aq,Ar,Am,nm⟩:=h5;obtain⟨g3,rfl⟩:=dX KM;have hX:FR 1=false:=(bS E5 (i:=0) (j:=1) rfl Cr)
 have a5:FR 10=false:=(bS E5 (i:=0) (j:=10) rfl Cr);have GC:FR 11=false:=(bS E5 (i:=0) (j:=11) rfl Cr);have dd:ap L4 (w.heap.size) 33 #[S (ae n1),S (ae d1)]:=Aq a5;have e4:ap L4 (As.heap.size) 33 #[S (ae n2),S (ae d2)]:=Am GC;refine I ?_;exact⟨rfl,_,(aw _ _ _ _ _).symm,(c8 rfl KM),E,U,(λ_=>rfl),G,O,Ab,Ap,H,Af,Ao,A0,A1,(λ_=>dd),(λd4=>ff a5 d4),(λ_=>e4),(λfT=>ff GC fT)⟩;refine⟨λKY X0 C1 hO ac Q0 d5=>?_,?_⟩;obtain⟨bb,E,Aw,A2,G,O,Ab,Ap,H,Af,Ao,A0,A1,Aq,Ar,Am,nm⟩:=hO;obtain⟨KY,rfl⟩:=dX bb;have fW:C1 0=true:=(d5 0 rfl);have b0:C1 10=false:=(bS ac (i:=1) (j:=10) rfl Q0);have bp:C1 11=false:=(bS ac (i:=1) (j:=11) rfl Q0);have hS:KY 64=.pointer (some ⟨w.heap.size,1,none⟩):=A2 fW;have ea:ap X0 (w.heap.size) 33 #[S (ae n1),S (ae d1)]:=Aq b0;have ej:ap X0 (As.heap.size) 33 #[S (ae n2),S (ae d2)]:=Am bp;refine I ?_;exact⟨rfl,_,(aw _ _ _ _ _).symm,(c8 rfl bb),E,U,A2,(λ_=>rfl),O,Ab,Ap,H,Af,Ao,A0,A1,(λ_=>ea),(λfB=>ff b0 fB),(λ_=>ej),(λf9=>ff bp f9)⟩;refine⟨λh6 T3 K3 fi H2 No _=>?_,?_⟩;obtain⟨a2,E,Aw,A2,G,O,Ab,Ap,H,Af,Ao,A0,A1,Aq,Ar,Am,nm⟩:=fi;obtain⟨h6,rfl⟩:=dX a2
 have bZ:K3 10=false:=(bS H2 (i:=2) (j:=10) rfl No);have ad:K3 11=false:=(bS H2 (i:=2) (j:=11) rfl No);have eZ:ap T3 (w.heap.size) 33 #[S (ae n1),S (ae d1)]:=Aq bZ;have fx:ap T3 (As.heap.size) 33 #[S (ae n2),S (ae d2)]:=Am ad;refine I ?_;exact⟨rfl,_,(aw _ _ _ _ _).symm,(c8 rfl a2),E,U,A2,G,(λ_=>rfl),Ab,Ap,H,Af,Ao,A0,A1,(λ_=>eZ),(λhC=>ff bZ hC),(λ_=>fx),(λeB=>ff ad eB)⟩;refine⟨λE0 La B2 cv a0 H4 bW=>?_,?_⟩;obtain⟨bq,E,Aw,A2,G,O,Ab,Ap,H,Af,Ao,A0,A1,Aq,Ar,Am,nm⟩:=cv;obtain⟨E0,rfl⟩:=dX bq;have et:B2 2=true:=(bW 2 rfl);have h0:B2 1=true:=(bW 1 rfl);have a8:B2 10=false:=(bS a0 (i:=3) (j:=10) rfl H4);have WV:B2 11=false:=(bS a0 (i:=3) (j:=11) rfl H4);have fu:E0 65=S (ae d1):=G h0;have hP:E0 66=S (ae (n1%d1)):=O et;have cf:ap La (w.heap.size) 33 #[S (ae n1),S (ae d1)]:=Aq a8;have fy:ap La (As.heap.size) 33 #[S (ae n2),S (ae d2)]:=Am WV;refine aa (bU (vs:=[(0,S (ae d1)),(1,S (ae (n1%d1)))]) (cells:=#[S (ae d1),S (ae (n1%d1))]) (pl:=[(0,1),(1,1)]) iK aS (by kernel_rfl) (cY fu (cY hP rfl)) (by kernel_rfl) ?_);refine I ?_
 exact⟨rfl,_,(aw _ _ _ _ _).symm,(c8 rfl bq),E,U,A2,G,O,(λ_=>rfl),Ap,H,Af,Ao,A0,A1,(λ_=>cf),(λgn=>ff a8 gn),(λ_=>fy),(λcq=>ff WV cq)⟩;refine⟨λg0 hN a9 dL L2 KC _=>?_,?_⟩;obtain⟨Ne,E,Aw,A2,G,O,Ab,Ap,H,Af,Ao,A0,A1,Aq,Ar,Am,nm⟩:=dL;obtain⟨g0,rfl⟩:=dX Ne;have hT:a9 5=false:=(bS L2 (i:=4) (j:=5) rfl KC);have H3:a9 11=false:=(bS L2 (i:=4) (j:=11) rfl KC);have f3:ap hN (As.heap.size) 33 #[S (ae n2),S (ae d2)]:=Am H3;refine I ?_;exact⟨rfl,_,(aw _ _ _ _ _).symm,(c8 rfl Ne),E,U,A2,G,O,Ab,(λ_=>rfl),H,Af,Ao,A0,A1,(λarr=>Aq arr),(λd6=>Ar d6),(λ_=>f3),(λdq=>ff H3 dq)⟩;refine⟨λan fb W2 ed fC gs cc=>?_,?_⟩;obtain⟨W3,E,Aw,A2,G,O,Ab,Ap,H,Af,Ao,A0,A1,Aq,Ar,Am,nm⟩:=ed;obtain⟨an,rfl⟩:=dX W3;have fX:W2 4=true:=(cc 4 rfl);have T2:W2 11=false:=(bS fC (i:=5) (j:=11) rfl gs);have hZ:an 68=.pointer (some ⟨As.heap.size,1,none⟩):=Ap fX;have cb:ap fb (As.heap.size) 33 #[S (ae n2),S (ae d2)]:=Am T2;refine I ?_;exact⟨rfl,_,(aw _ _ _ _ _).symm,(c8 rfl W3),E,U,A2,G,O,Ab,Ap,(λ_=>rfl),Af,Ao,A0,A1,(λeQ=>Aq eQ),(λfN=>Ar fN),(λ_=>cb),(λe3=>ff T2 e3)⟩;refine⟨λcT hB cw g1 eb hI _=>?_,?_⟩
 obtain⟨S9,E,Aw,A2,G,O,Ab,Ap,H,Af,Ao,A0,A1,Aq,Ar,Am,nm⟩:=g1;obtain⟨cT,rfl⟩:=dX S9;have Wa:cw 11=false:=(bS eb (i:=6) (j:=11) rfl hI);have g2:ap hB (As.heap.size) 33 #[S (ae n2),S (ae d2)]:=Am Wa;refine I ?_;exact⟨rfl,_,(aw _ _ _ _ _).symm,(c8 rfl S9),E,U,A2,G,O,Ab,Ap,H,(λ_=>rfl),Ao,A0,A1,(λhK=>Aq hK),(λfQ=>Ar fQ),(λ_=>g2),(λdC=>ff Wa dC)⟩;refine⟨λE6 co CY fR g4 eS L1=>?_,?_⟩;obtain⟨Rm,E,Aw,A2,G,O,Ab,Ap,H,Af,Ao,A0,A1,Aq,Ar,Am,nm⟩:=fR;obtain⟨E6,rfl⟩:=dX Rm;have ct:CY 6=true:=(L1 6 rfl);have cy:CY 5=true:=(L1 5 rfl);have Li:CY 11=false:=(bS g4 (i:=7) (j:=11) rfl eS);have fz:E6 69=S (ae d2):=H cy;have h8:E6 70=S (ae (n2%d2)):=Af ct;have ch:ap co (As.heap.size) 33 #[S (ae n2),S (ae d2)]:=Am Li;refine aa (bU (vs:=[(0,S (ae d2)),(1,S (ae (n2%d2)))]) (cells:=#[S (ae d2),S (ae (n2%d2))]) (pl:=[(0,1),(1,1)]) iK aS (by kernel_rfl) (cY fz (cY h8 rfl)) (by kernel_rfl) ?_);refine I ?_;exact⟨rfl,_,(aw _ _ _ _ _).symm,(c8 rfl Rm),E,U,A2,G,O,Ab,Ap,H,Af,(λ_=>rfl),A0,A1,(λeW=>Aq eW),(λfc=>Ar fc),(λ_=>ch),(λfG=>ff Li fG)⟩;refine⟨λcp _ _ ask _ _ _=>?_,?_⟩
 obtain⟨Vm,E,Aw,A2,G,O,Ab,Ap,H,Af,Ao,A0,A1,Aq,Ar,Am,nm⟩:=ask;obtain⟨cp,rfl⟩:=dX Vm;refine I ?_;exact⟨rfl,_,(aw _ _ _ _ _).symm,(c8 rfl Vm),E,U,A2,G,O,Ab,Ap,H,Af,Ao,(λ_=>rfl),A1,(λeg=>Aq eg),(λc9=>Ar c9),(λhE=>Am hE),(λfD=>nm fD)⟩;refine⟨λa4 _ f0 hL _ _ hM=>?_,?_⟩;obtain⟨P0,E,Aw,A2,G,O,Ab,Ap,H,Af,Ao,A0,A1,Aq,Ar,Am,nm⟩:=hL;obtain⟨a4,rfl⟩:=dX P0;have eG:f0 8=true:=(hM 8 rfl);have h7:a4 72=.int .i64 (sg):=A0 eG;refine aa (yY (a:=sg) h7 (by unfold In64;omega) ?_);refine I ?_;exact⟨rfl,_,(aw _ _ _ _ _).symm,(c8 rfl P0),E,U,A2,G,O,Ab,Ap,H,Af,Ao,A0,(λ_=>rfl),(λfl=>Aq fl),(λgv=>Ar gv),(λfa=>Am fa),(λcr=>nm cr)⟩;refine⟨λK2 S0 CB ce VW a3 d3=>?_,?_⟩;obtain⟨N0,E,Aw,A2,G,O,Ab,Ap,H,Af,Ao,A0,A1,Aq,Ar,Am,nm⟩:=ce;obtain⟨K2,rfl⟩:=dX N0;have Lj:CB 3=true:=(d3 3 rfl);have hQ:CB 1=true:=(VW 3 1 rfl Lj);have W1:CB 11=false:=(bS VW (i:=10) (j:=11) rfl a3);have hY:K2 67=.agg #[S (ae d1),S (ae (n1%d1))]:=Ab Lj;have cx:ap S0 (w.heap.size) 33 #[S (ae n1),S (ae d1)]:=Aq a3;have E7:ap S0 (As.heap.size) 33 #[S (ae n2),S (ae d2)]:=Am W1;refine SA cx (λ_ e6 fS=>?_);have⟨E7,E,_⟩:=kt e6 E7 E;refine I ?_
 exact⟨rfl,undef,rfl,N0,E,U,A2,G,O,Ab,Ap,H,Af,Ao,A0,A1,(λer=>tf rfl er),(λ_=>fS),(λ_=>E7),(λeC=>ff W1 eC)⟩;refine⟨λa6 Ix Az eP od e5 X2=>?_,?_⟩;obtain⟨Kp,E,Aw,A2,G,O,Ab,Ap,H,Af,Ao,A0,A1,Aq,Ar,Am,nm⟩:=eP;obtain⟨a6,rfl⟩:=dX Kp;have G0:Az 10=true:=(X2 10 rfl);have cm:Az 3=true:=(od 10 3 rfl G0);have hW:Az 1=true:=(od 3 1 rfl cm);have Lk:Az 7=true:=(X2 7 rfl);have hR:Az 5=true:=(od 7 5 rfl Lk);have hU:a6 71=.agg #[S (ae d2),S (ae (n2%d2))]:=Ao Lk;have E9:ap Ix (w.heap.size) 33 #[S (ae d1),S (ae (n1%d1))]:=Ar G0;have gr:ap Ix (As.heap.size) 33 #[S (ae n2),S (ae d2)]:=Am e5;refine SA gr (λ_ hF e1=>?_);have⟨E9,E,_⟩:=kt hF E9 E;refine I ?_;exact⟨rfl,undef,rfl,Kp,E,U,A2,G,O,Ab,Ap,H,Af,Ao,A0,A1,(λft=>tf G0 ft),(λ_=>E9),(λgb=>tf rfl gb),(λ_=>e1)⟩;exact trivial;intro bv L3 _ E4 f7;obtain⟨eX,E,Aw,A2,G,O,Ab,Ap,H,Af,Ao,A0,A1,Aq,Ar,Am,nm⟩:=f7;obtain⟨bv,rfl⟩:=dX eX;have h9:ap L3 (w.heap.size) 33 #[S (ae d1),S (ae (n1%d1))]:=Ar (E4 10 rfl);have eq:ap L3 (As.heap.size) 33 #[S (ae d2),S (ae (n2%d2))]:=nm (E4 11 rfl);have hV:bv 73=.int .i64 (-sg):=(A1 (E4 9 rfl));refine I ?_
 exact bI (hk:=by have:=Int.emod_lt_of_pos n1 Av;have:=Int.emod_nonneg n1 (Int.ne_of_gt Av);omega) ⟨d1,n1%d1,d2,n2%d2,-sg,rfl,rfl,(LB hi Av p2 ns np p6).2.1,(LB hi Av p2 ns np p6).2.2,E1,(LC E1 Av),CG,(LC CG p2),U,(LB hi Av p2 ns np p6).1,E,h9,eq⟩;refine I ?_;refine aa (qX (a:=sg) (b:=aN (n1/d1) (n2/d2)) (c:=sg*aN (n1/d1) (n2/d2)) rfl rfl (Pm fP) rfl ?_);refine I ?_;exact am (t:=4) (v:=.int .i64 (sg*aN (n1/d1) (n2/d2))) rfl E (qb2 (Value.int .i64) (XE hi Av p2 ns)) rfl
set_option maxRecDepth 100000
def LD (n:Int):Lib.itoa n=ae n:=by
 unfold Lib.itoa ae
 split
 · rw[jd]
 · rw[jd];congr 1;omega
def qR (a b:Int):R:=(ae (k8 a b),ae (df a b))
def sR (hb:b≠0):ie a b=some (qR a b):=by unfold ie;rw[if_neg hb];rfl
section
variable {b:Nat}{l m:List UInt8}
def Pn (hB:ap w b 75 #[.bool false])(ht:Tb w)(hl:l=ae x)(hm:m=ae y)(fx:Fz x)(fy:Fz y)(fz:Fz (x*y)):
 CL 36 #[pT b,S l,S m] w (kj λv w'=>w.grownBy w' (some b)/\ap w' b 75 #[.bool false]/\v=S (ae (x*y))):=by
 have h:=mC hB ht l m
 subst hl hm
 rw[KW fx fy fz]at h
 exact h
def Po (hB:ap w b 75 #[.bool false])(ht:Tb w)(hl:l=ae x)(hm:m=ae y)(fx:Fz x)(fy:Fz y)(fz:Fz (x+y)):
 CL 84 #[pT b,.func (.func 186) #[] #[],S l,S m] w (kj λv w'=>w.grownBy w' (some b)/\ap w' b 75 #[.bool false]/\v=S (ae (x+y))):=by
 have h:=rj (o:=xN l m) hB ht Ij (λW hW=>xX _ _ W hW)
 subst hl hm
 rw[KV fx fy fz]at h
 exact h
def sS (hB:ap w b 75 #[.bool false])(ht:Tb w)(hl:l=ae x)(hm:m=ae y)(fx:Fz x)(fy:Fz y)(h0:y≠0):
 CL 37 #[pT b,S l,S m] w (kj λv w'=>w.grownBy w' (some b)/\(∃q,ap w' b 75 #[.bool q])/\v=.tuple #[.agg #[S (qR x y).1,S (qR x y).2],.int .i64 0]):=by
 have h:=xZ hB ht l m
 subst hl hm
 rw[wA fx.int fy.int,aI,aI,sR h0]at h
 exact h
def UK (hB:ap w b 75 #[.bool false])(ht:Tb w){x y:List UInt8}{c:Nat}(hr:Rw w lo A [S x,S y])(hn:1=n)(hAb:∀ad,A=some ad->ad.block≠b)(ho:bJ (x,y)=true):
 CL 35 #[pT b,.slice A n c] w (kj λv w'=>w.grownBy w' (some b)/\ap w' b 75 #[.bool false]/\v=.tuple #[]):=by
 have h:=pj (rs:=[(x,y)]) (c:=c) hB ht hr hn U hAb
 rw[show b9 false [(x,y)]=false by simp[b9,ho]]at h
 exact h
end
def u3 (N D t:Int)(up:Bool):Int:=if up=true/\¬ae (N*t%D)=[48]then N*t/D+1 else N*t/D
def Qv (a b:Int):Value:=.tuple #[.agg #[S (qR a b).1,S (qR a b).2],.int .i64 0]
def Zp {t:Int}{up:Bool}(h:up=true)(h0:¬ae (N*t%D)=[48]):Qv (N*t/D+1) t=Qv (u3 N D t up) t:=by unfold u3;rw[if_pos ⟨h,h0⟩]
def Zq {t:Int}{up:Bool}(h0:ae (N*t%D)=[48]):Qv (N*t/D) t=Qv (u3 N D t up) t:=by unfold u3;rw[if_neg (λe=>e.2 h0)]
def Zr {t:Int}{up:Bool}(h:up=false):Qv (N*t/D) t=Qv (u3 N D t up) t:=by unfold u3;rw[if_neg (λe=>by rw[h]at e;exact absurd e.1 dc)]
def LE (h:N.natAbs<10^199)(hd:0<D):Fz (N/D+1):=by
 have h1:Fz (N/D):=kq (by unfold Fz;omega) hd
 have h2:(N/D).natAbs<10^199:=by
  rcases Int.le_total 0 N with h0|h0
  · have h1:=Int.ediv_nonneg h0 (Int.le_of_lt hd)
    have h2:=Int.ediv_le_self (b:=D) h0
    omega
  · have h1:N/D<=0:=Int.ediv_nonpos_of_nonpos_of_neg h0 hd
    have h2:N<=N/D:=by
     refine Int.le_ediv_of_mul_le hd ?_
     have E:0<=(-N)*(D-1):=Int.mul_nonneg U U
     rw[Int.neg_mul,Int.mul_sub,Int.mul_one]at E
     omega
    omega
 unfold Fz;omega
def iJ {l m:List UInt8}(hl:l=ae a)(hm:m=ae b)(fa:Fz a)(fb:Fz b)(h0:b≠0)(ht:Tb w):
 CL 184 #[S l,S m] w (aG w λv w'=>v=.tuple #[.agg #[S (qR a b).1,S (qR a b).2],.int .i64 0]):=by
 subst hl hm;have Am:(!isInt (ae b))=false:=by rw[fb.int];rfl
 refine aC func184 Z (I ?_);refine al aS (λ_ Af G=>?_);have ht:=ab5 Af.2 ht;have E:=Af.2;refine I ?_;refine cl te (iz (ae a) _) ?_;rintro _ _ A1 rfl;have ht:=ab5 A1.2 ht;have⟨G,E⟩:=bn A1.2 G E;refine I ?_;refine me (s:=10) Z (qb2 Value.bool (qb2 Bool.not fa.int)) (I ?_);refine me (s:=10) Z (qb2 Value.bool (qb2 Bool.not fa.int)) ?_;refine cl te (iz (ae b) _) ?_;rintro _ W Ab rfl;have ht:=ab5 Ab.2 ht;have⟨G,E⟩:=bn Ab.2 G E;refine me (s:=10) Z (qb2 Value.bool (qb2 Bool.not fa.int)) (I ?_);refine aa (jy (t:=false) (v:=.bool (!(isInt (ae b)))) (qb2 Value.bool (qb2 Bool.not fa.int)) Z ?_);refine aa (bU (vs:=[(0,.bool (!(isInt (ae b))))]) (cells:=#[.bool (!(isInt (ae b)))]) (pl:=[(0,1)]) VH BC q0 Z q0 ?_);refine bx (λAq A2 Ar=>?_);have ht:=ab5 A2.2 ht;have⟨G,E⟩:=bn A2.2 G E;refine I ?_;have Ao:ap Aq W.heap.size 75 #[.bool false]:=by have h:=Ar;rw[Am]at h;exact h
 refine I ?_;refine aa (bH (vs:=[pT W.heap.size,S (ae a),S (ae b)]) tg Z (sS Ao ht Z Z fa fb h0) ?_);rintro _ _ ⟨H,⟨As,O⟩,rfl⟩;have G:=aa3 H q4 G;have E:=cL E H (bz E) (λg Ap=>by cases Ap;omega);refine I ?_;refine SA G (λ_ A0 nm=>?_);have O:=pb A0 O;have E:=bi A0 E;refine I ?_;refine aX (v:=.tuple #[.agg #[S (qR a b).1,S (qR a b).2],.int .i64 0]) (cO (r1:=.cell 4 33) (r2:=.tmp 5) Z ?_ ?_) E Z;refine ak (t:=4) (cs:=[S (qR a b).1,S (qR a b).2]) (b:=w.heap.size) (o:=0) iK Z bX ?_ ?_;exact Z;exact aa0 nm (i:=0) Z;exact aL (t:=5) GS _
def AS {n:Int}(hn:In64 n)(ht:Tb w):
 CL 185 #[.int .i64 n] w (aG w λv w'=>v=S (ae n)):=by
 have h1:-9223372036854775808<=n:=by unfold In64 at hn;omega
 have h2:n<=9223372036854775807:=by unfold In64 at hn;omega
 refine aC func185 Z (I ?_);refine cl If (nc (Y:=S (ae n)) (xO _ _ h1 h2 (ht.ext (aa4 _))) (qb2 S (LD n))) ?_;rintro _ _ G rfl;have E:=G.2;refine I ?_;exact am (t:=2) (v:=S (ae n)) Z E Z Z
def XJ {n:Int}(h:In64 n):Fz n:=by unfold In64 at h;unfold Fz;omega
def Pp (ha:In64 a)(hb:In64 b)(h0:b≠0)(ht:Tb w):
 CL 147 #[.int .i64 a,.int .i64 b] w (aG w λv w'=>v=.tuple #[.agg #[S (qR a b).1,S (qR a b).2],.int .i64 0]):=by
 refine aC func147 Z (I ?_);refine al aS (λ_ A0 G=>?_);have E:=A0.2;refine I ?_;refine cl tj (AS ha (ht.ext E)) ?_;rintro _ _ A1 rfl;have⟨G,E⟩:=bn A1.2 G E;refine I ?_;refine cl tj (AS hb (ht.ext E)) ?_;rintro _ _ H rfl;have⟨G,E⟩:=bn H.2 G E;refine cl nO (iJ Z Z (XJ ha) (XJ hb) h0 (ht.ext E)) ?_;rintro _ _ A2 rfl;have⟨G,E⟩:=bn A2.2 G E;refine I ?_;refine SA G (λ_ O W=>?_);have E:=bi O E;refine I ?_;refine aX (v:=.tuple #[.agg #[S (qR a b).1,S (qR a b).2],.int .i64 0]) (cO (r1:=.cell 4 33) (r2:=.tmp 5) Z ?_ ?_) E Z;refine ak (t:=4) (cs:=[S (qR a b).1,S (qR a b).2]) (b:=w.heap.size) (o:=0) iK Z bX ?_ ?_;exact Z;exact aa0 W (i:=0) Z;exact aL (t:=5) GS _
def wU {up:Bool}(ho:bJ (ae N,ae D)=true)(fN:Fz N)(fD:Fz D)(hp:pl<=30)(hNT:(N*((10^pl:Nat):Int)).natAbs<10^199)(ht:Tb w):
 CL 148 #[.agg #[S (ae N),S (ae D)],.int .i64 pl,.bool up] w (aG w λv w'=>v=Qv (u3 N D ((10^pl:Nat):Int) up) ((10^pl:Nat):Int)):=by
 have Aw:((10^pl:Nat):Int)≠0:=by have:=Nat.pow_pos (n:=pl) (show 0<10 by decide);omega
 have pD:0<D:=by have:=cE ho;rwa [aI]at this
 have fNT:Fz (N*((10^pl:Nat):Int)):=(by unfold Fz;omega);have Ab:pl<200:=U;have fT:Fi (10^pl):=Nat.pow_lt_pow_right dc U;refine aC func148 Z (I ?_);refine bx (λAs Cr G=>?_);have ht:=ab5 Cr.2 ht;have E:=Cr.2;refine al aS (λW CB H=>?_);have ht:=ab5 CB.2 ht;have⟨G,E⟩:=bn CB.2 G E;refine I ?_;refine aa (bU (vs:=[(0,.bool (decide (30<(pl:Int))))]) (cells:=#[.bool (decide (30<(pl:Int)))]) (pl:=[(0,1)]) VH BC q0 Z q0 ?_);refine bx (λCG C1 E1=>?_);have ht:=ab5 C1.2 ht;have⟨G,H,E⟩:=cj C1.2 G H E;refine I ?_;have Ao:ap CG W.heap.size 75 #[.bool false]:=by have h:=E1;rw[decide_eq_false U]at h;exact h
 refine I ?_;refine BS (λ_ E0 _ E5=>?_);have ht:=ab5 E0 ht;have⟨G,H,Ao,E⟩:=fo E0 G H Ao E;refine aa (bH (vs:=[pT W.heap.size,.slice (some ⟨CG.heap.size,0,none⟩) 1 1]) DW Z (UK Ao ht (aa8 E5) Z (λ_ e=>by cases e;simp;omega) ho) ?_);rintro _ _ ⟨A2,Af,rfl⟩;have ht:=Tb.gr A2 Ao dc ht;have G:=aa3 A2 q4 G;have H:=aa3 A2 q4 H;have E:=cL E A2 (bz E) (λg O=>by cases O;omega);refine I ?_;refine clb Ig (hc:=qC [48] pl _ U dc) (hk:=?_);rintro _ _ Ay rfl;have ht:=ab5 Ay.2 ht;have⟨G,H,Af,E⟩:=fo Ay.2 G H Af E;refine aa (xh (a:=[49]) (b:=Lib.repeatL [48] pl) Z Z (by rw[qP];simp;omega) ?_);refine I ?_;refine aa (bH (vs:=[pT W.heap.size,S (ae N),S (([49])++(Lib.repeatL [48] pl))]) q8 Z (Pn Af ht Z (pW Ab) fN fT.z fNT) ?_);rintro _ _ ⟨Am,A1,rfl⟩;have ht:=Tb.gr Am Af dc ht;have G:=aa3 Am q4 G;have H:=aa3 Am q4 H;have E:=cL E Am (bz E) (λg O=>by cases O;omega);refine I ?_;refine cl y6 (nc (Y:=.tuple #[S (ae (N*((10^pl:Nat):Int)/D)),S (ae (N*((10^pl:Nat):Int)%D)),.int .i64 0]) (j5 _ _ _ ht) (qb2 vI (uH fNT fD (Int.ne_of_gt pD) (kq fNT pD)))) ?_;rintro _ _ nm rfl;have ht:=ab5 nm.2 ht;have⟨G,H,A1,E⟩:=fo nm.2 G H A1 E;refine I ?_
 refine SO A1 (λ_ Av A0=>?_);have ht:=Tb.put Av A1 dc ht;have⟨G,H⟩:=jU Av G H;have E:=bi Av E;refine I ?_;rcases qa4 up with cw|cw;refine I ?_;refine Z3 (b:=[48]) (I ?_);by_cases wr:(ae (N*((10^pl:Nat):Int)%D))=([48]);refine I ?_;refine aa (bH (vs:=[pT W.heap.size,S (ae (N*((10^pl:Nat):Int)/D)),S (([49])++(Lib.repeatL [48] pl))]) tg Z (sS A0 ht Z (pW Ab) (kq fNT pD) fT.z Aw) ?_);rintro _ _ ⟨Aq,⟨FR,B2⟩,rfl⟩;have G:=aa3 Aq q4 G;have H:=aa3 Aq q4 H;have E:=cL E Aq (bz E) (λg O=>by cases O;omega);refine I ?_;refine SA H (λ_ Az E6=>?_);have⟨G,B2⟩:=jU Az G B2;have E:=bi Az E;refine I ?_;refine aX (v:=.tuple #[.agg #[S ((qR (N*((10^pl:Nat):Int)/D) ((10^pl:Nat):Int)).1),S ((qR (N*((10^pl:Nat):Int)/D) ((10^pl:Nat):Int)).2)],.int .i64 0]) (cO (r1:=.cell 6 33) (r2:=.tmp 7) Z ?_ ?_) E (Zq wr);refine ak (t:=6) (cs:=[S ((qR (N*((10^pl:Nat):Int)/D) ((10^pl:Nat):Int)).1),S ((qR (N*((10^pl:Nat):Int)/D) ((10^pl:Nat):Int)).2)]) (b:=As.heap.size) (o:=0) iK Z bX ?_ ?_
 exact Z;exact aa0 E6 (i:=0) Z;exact aL (t:=7) GS _;refine I ?_;refine aa (bH (vs:=[pT W.heap.size,.func (.func 186) #[] #[],S (ae (N*((10^pl:Nat):Int)/D)),S [49]]) q9 Z (Po A0 ht Z KZ (kq fNT pD) (by unfold Fz;decide) (LE hNT pD)) ?_);rintro _ _ ⟨Ap,E9,rfl⟩;have ht:=Tb.gr Ap A0 dc ht;have G:=aa3 Ap q4 G;have H:=aa3 Ap q4 H;have E:=cL E Ap (bz E) (λg O=>by cases O;omega);refine I ?_;refine aa (bH (vs:=[pT W.heap.size,S (ae (N*((10^pl:Nat):Int)/D+1)),S (([49])++(Lib.repeatL [48] pl))]) tg Z (sS E9 ht Z (pW Ab) (LE hNT pD) fT.z Aw) ?_);rintro _ _ ⟨ny,⟨ES,CY⟩,rfl⟩;have G:=aa3 ny q4 G;have H:=aa3 ny q4 H;have E:=cL E ny (bz E) (λg O=>by cases O;omega);refine I ?_;refine SA H (λ_ od E7=>?_);have⟨G,CY⟩:=jU od G CY;have E:=bi od E;refine I ?_;refine aX (v:=.tuple #[.agg #[S ((qR (N*((10^pl:Nat):Int)/D+1) ((10^pl:Nat):Int)).1),S ((qR (N*((10^pl:Nat):Int)/D+1) ((10^pl:Nat):Int)).2)],.int .i64 0]) (cO (r1:=.cell 6 33) (r2:=.tmp 7) Z ?_ ?_) E (Zp cw wr)
 refine ak (t:=6) (cs:=[S ((qR (N*((10^pl:Nat):Int)/D+1) ((10^pl:Nat):Int)).1),S ((qR (N*((10^pl:Nat):Int)/D+1) ((10^pl:Nat):Int)).2)]) (b:=As.heap.size) (o:=0) iK Z bX ?_ ?_;exact Z;exact aa0 E7 (i:=0) Z;exact aL (t:=7) GS _;refine I ?_;refine aa (bH (vs:=[pT W.heap.size,S (ae (N*((10^pl:Nat):Int)/D)),S (([49])++(Lib.repeatL [48] pl))]) tg Z (sS A0 ht Z (pW Ab) (kq fNT pD) fT.z Aw) ?_);rintro _ _ ⟨Ar,⟨EW,Ax⟩,rfl⟩;have G:=aa3 Ar q4 G;have H:=aa3 Ar q4 H;have E:=cL E Ar (bz E) (λg O=>by cases O;omega);refine I ?_;refine SA H (λ_ B1 E4=>?_);have⟨G,Ax⟩:=jU B1 G Ax;have E:=bi B1 E;refine I ?_;refine aX (v:=.tuple #[.agg #[S ((qR (N*((10^pl:Nat):Int)/D) ((10^pl:Nat):Int)).1),S ((qR (N*((10^pl:Nat):Int)/D) ((10^pl:Nat):Int)).2)],.int .i64 0]) (cO (r1:=.cell 6 33) (r2:=.tmp 7) Z ?_ ?_) E (Zr cw);refine ak (t:=6) (cs:=[S ((qR (N*((10^pl:Nat):Int)/D) ((10^pl:Nat):Int)).1),S ((qR (N*((10^pl:Nat):Int)/D) ((10^pl:Nat):Int)).2)]) (b:=As.heap.size) (o:=0) iK Z bX ?_ ?_;exact Z;exact aa0 E4 (i:=0) Z;exact aL (t:=7) GS _
def LF (ho:bJ (ae N,ae D)=true)(fN:Fz N)(fD:Fz D)(hp:pl<=30)(hNT:(N*((10^pl:Nat):Int)).natAbs<10^199)(ht:Tb w):
 CL 100 #[.agg #[S (ae N),S (ae D)],.int .i64 pl] w (aG w λv w'=>v=.tuple #[.agg #[S ((qR (u3 N D ((10^pl:Nat):Int) false) ((10^pl:Nat):Int)).1),S ((qR (u3 N D ((10^pl:Nat):Int) false) ((10^pl:Nat):Int)).2)],.int .i64 0]):=by
 refine aC func100 Z (I ?_);refine bx (λA0 A1 G=>?_);have E:=A1.2;refine al aS (λ_ A2 H=>?_);have⟨G,E⟩:=bn A2.2 G E;refine I ?_;refine cl Iu (wU ho fN fD hp hNT (ht.ext E)) ?_;rintro _ _ W rfl;have⟨G,H,E⟩:=cj W.2 G H E;refine I ?_;refine SA H (λ_ O Ab=>?_);have G:=pb O G;have E:=bi O E;refine I ?_;refine aX (v:=.tuple #[.agg #[S ((qR (u3 N D ((10^pl:Nat):Int) false) ((10^pl:Nat):Int)).1),S ((qR (u3 N D ((10^pl:Nat):Int) false) ((10^pl:Nat):Int)).2)],.int .i64 0]) (cO (r1:=.cell 4 33) (r2:=.tmp 5) Z ?_ ?_) E Z;refine ak (t:=4) (cs:=[S ((qR (u3 N D ((10^pl:Nat):Int) false) ((10^pl:Nat):Int)).1),S ((qR (u3 N D ((10^pl:Nat):Int) false) ((10^pl:Nat):Int)).2)]) (b:=A0.heap.size) (o:=0) iK Z bX ?_ ?_;exact Z;exact aa0 Ab (i:=0) Z;exact aL (t:=5) GS _
def UL (ho:bJ (ae N,ae D)=true)(fN:Fz N)(fD:Fz D)(hp:pl<=30)(hNT:(N*((10^pl:Nat):Int)).natAbs<10^199)(ht:Tb w):
 CL 101 #[.agg #[S (ae N),S (ae D)],.int .i64 pl] w (aG w λv w'=>v=.tuple #[.agg #[S ((qR (u3 N D ((10^pl:Nat):Int) true) ((10^pl:Nat):Int)).1),S ((qR (u3 N D ((10^pl:Nat):Int) true) ((10^pl:Nat):Int)).2)],.int .i64 0]):=by
 refine aC func101 Z (I ?_);refine bx (λA0 A1 G=>?_);have E:=A1.2;refine al aS (λ_ A2 H=>?_);have⟨G,E⟩:=bn A2.2 G E;refine I ?_;refine cl Iu (wU ho fN fD hp hNT (ht.ext E)) ?_;rintro _ _ W rfl;have⟨G,H,E⟩:=cj W.2 G H E;refine I ?_;refine SA H (λ_ O Ab=>?_);have G:=pb O G;have E:=bi O E;refine I ?_;refine aX (v:=.tuple #[.agg #[S ((qR (u3 N D ((10^pl:Nat):Int) true) ((10^pl:Nat):Int)).1),S ((qR (u3 N D ((10^pl:Nat):Int) true) ((10^pl:Nat):Int)).2)],.int .i64 0]) (cO (r1:=.cell 4 33) (r2:=.tmp 5) Z ?_ ?_) E Z;refine ak (t:=4) (cs:=[S ((qR (u3 N D ((10^pl:Nat):Int) true) ((10^pl:Nat):Int)).1),S ((qR (u3 N D ((10^pl:Nat):Int) true) ((10^pl:Nat):Int)).2)]) (b:=A0.heap.size) (o:=0) iK Z bX ?_ ?_;exact Z;exact aa0 Ab (i:=0) Z;exact aL (t:=5) GS _
def AT:Nat->Nat->Nat
 |0,_=>0
 |f+1,n=>if n=0 then 0 else AT f (n/10000)+1
def AU:∀{f n:Nat},n<10000^f->(ao 10000 n).length=AT f n
 |0,n,h=>by rw[show n=0 by simpa using h,gq];rfl
 | f +1,n,h=>by
   unfold AT
   split
   · rename_i h0;rw[h0,gq];rfl
   · rename_i h0
     rw[fO 10000 n U U,List.length_cons,AU (f:=f)]
     rw[Nat.pow_succ]at h
     exact Nat.div_lt_of_lt_mul (by rw[Nat.mul_comm];exact h)
def Pq:Nat->Nat->Nat->Option Nat
 |0,_,_=>none
 |f+1,n,t=>if t<=(t+n/t)/2 then some t else Pq f n ((t+n/t)/2)
def UM (n:Nat):Option Nat:=Pq 1000 n (10000^((AT 60 n+1)/2))
def Zs {r:Nat}(h:Pq f n t=some r)(hl:t<=(t+n/t)/2):r=t:=by
 cases f with
 |zero=>cases h
 |succ g=>unfold Pq at h;rw[if_pos hl]at h;cases h;rfl
def Zt {r:Nat}(h:Pq f n t=some r)(hl:¬t<=(t+n/t)/2):∃g,f=g+1/\Pq g n ((t+n/t)/2)=some r:=by
 cases f with
 |zero=>cases h
 |succ g=>unfold Pq at h;rw[if_neg hl]at h;exact⟨g,rfl,h⟩
def Fx (k:Nat):ao 10000 (10000^k)=List.replicate k 0++[1]:=by
 induction k with
 |zero=>decide
 | succ k ih=>
   rw[fO 10000 _ U (Nat.pow_pos U),Nat.pow_succ,Nat.mul_mod_left,Nat.mul_div_cancel _ U,ih,List.replicate_succ,List.cons_append]
def Pr {c:Nat}(h:Rw w lo A ((madeCells (Value.int .i64 0).cells (k*1)).toList++[Value.int .i64 1]))(hc:k+1<=c):qc w lo A (k+1) c (10000^k):=by
 refine⟨?_,by rw[Fx];simp,hc⟩
 have e:(madeCells (Value.int .i64 0).cells (k*1)).toList++[Value.int .i64 1]=ints (ao 10000 (10000^k)):=by
  show(madeCells #[Value.int .i64 0] (k*1)).toList++_=_
  rw[qx,Fx];simp[ints]
 rw[<-e];exact h
def Ps (h:Rw w lo A [Value.int .i64 2]):qc w lo A 1 1 2:=by
 have e:ao 10000 2=[2]:=by decide
 exact⟨by rw[e];exact h,by rw[e];rfl,qa0 _⟩
def Pt (n:Nat):body (nS n)=bo n:=by unfold nS;rw[gE];simp
def UN (n:Nat):neg (nS n)=false:=by unfold nS;rw[qA];exact qa2 U
def LG (hn:Fi n):CL 119 #[S (nS n),S [48]] w (aG w λv w'=>∃A1 n1 c1 A2 n2 c2,v=.tuple #[.agg #[.bool false,.slice A1 n1 c1],.agg #[.bool false,.slice A2 n2 c2],.bool true]/\qc w' w.heap.size A1 n1 c1 n/\qc w' w.heap.size A2 n2 c2 0):=by
 have h:=lv (nS n) [48] w hn.z.int jH
 rw[Pt,UN,gD,show neg [48]=false from rfl,show aE (body [48])=0 from qy]at h
 exact h
def LH (h:Fi n):n<10000^50:=qb1 h dc
def LI (hn:n<10000^50)(ht:t<=10000^26):t+n/t<10000^51:=by
 have h1:n/t<=n:=Nat.div_le_self _ _
 have h2:(10000:Nat)^50+10000^26<10000^51:=by decide
 omega
def Pu (ht:t≤10000 ^ 26) : iA (ba (bN false t))=.tuple #[S (nS t),.int .i64 0]:=by
 have h : fits (bN false t) = true := qa1 (by have h2:(10000:Nat)^26<10^200:=by decide
                                              simp[bN];omega)
 unfold ba;rw[if_pos h];rfl
def ox :(0<=aN x y)↔y<=x:=by
 unfold aN;split
 · constructor <;>intro h <;>omega
 · split
   · constructor <;>intro _ <;>omega
   · constructor <;>intro _ <;>omega
def Zu {f:FuncId}{a:Array Value}{X Y:Value}(h:CL f a w (aG w λv _=>v=X))(e:X=Y):CL f a w (aG w λv _=>v=Y):=e▸h
def XL {x y:Nat}(h:(0:Int)<=aN (x:Int) (y:Int)):y<=x:=by
 rw[ox]at h
 omega
def XM {x y:Nat}(h:¬(0:Int)<=aN (x:Int) (y:Int)):¬y<=x:=by
 rw[ox]at h
 omega
def UO (hn:0<n)(ht:0<t):0<(t+n/t)/2:=by
 by_cases h:t=1
 · subst h;rw[Nat.div_one];omega
 · have h2:2<=t:=J
   exact Nat.div_pos (qa8 h2 (Nat.le_add_right _ _)) U
set_option maxRecDepth 100000 in
def Fy {r:Nat}(fn:Fi n)(hn0:0<n)(hr:UM n=some r)(ht:Tb w):
 CL 226 #[S (nS n)] w (aG w λv w'=>v=.tuple #[S (nS r),.int .i64 0]):=by
 have H4:(ao 10000 n).length=AT 60 n:=AU (qb1 (LH fn) (Nat.pow_le_pow_right dc dc));refine aC func226 Z (I ?_);refine cl kB (LG fn) ?_;rintro _ E5 Kp ⟨A1,n1,c1,A2,n2,c2,rfl,hN,Li⟩;have O:=Kp.2;have uhN:=hN.hi;have P0:=cJ hN (LH fn);have No:0<n1:=by rw[<-hN.len,List.length_pos_iff];exact λe=>by have:=cD 10000 U n;rw[e]at this;simp[bO]at this;omega
 refine I ?_;refine al bG (λwr E6 C1=>?_);have hN:=aa7 E6.2 hN;have O:=xt O E6.2;refine al bG (λ_ EW CB=>?_);have hN:=aa7 EW.2 hN;have⟨C1,O⟩:=bn EW.2 C1 O;refine SA C1 (λ_ CY E=>?_);have hN:=ac2 CY (λAm e=>by have:=uhN Am e;omega) hN;have⟨CB,O,_⟩:=kt CY CB O;refine SA CB (λCr E0 G=>?_);have hN:=ac2 E0 (λAm e=>by have:=uhN Am e;omega) hN;have⟨E,O,_⟩:=kt E0 E O;refine I ?_;refine aa (ci (a:=(n1:Int)) (b:=1) (c:=((n1+1:Nat):Int)) Z Z JT U ?_);refine aa (vW (a:=((n1+1:Nat):Int)) (b:=2) (c:=((((n1+1)/2):Nat):Int)) Z Z U U JT U ?_);refine aa (md (m:=((n1+1)/2)) gQ k7 Z Z U RC (λ_ E1 _ B2=>?_));have ES:(.slice (some ⟨Cr.heap.size,0,none⟩) ((n1+1)/2) ((n1+1)/2):Value).ownBlock≠some (E5.heap.size):=λe=>by(have:=bt E;simp only[Value.ownBlock,Option.map_some,Option.some.injEq]at e;omega)
 have E7:(.slice (some ⟨Cr.heap.size,0,none⟩) ((n1+1)/2) ((n1+1)/2):Value).ownBlock≠some (wr.heap.size):=λe=>by(have:=bt G;simp only[Value.ownBlock,Option.map_some,Option.some.injEq]at e;omega)
 have hN:=aa7 E1 hN;have⟨E,G,O⟩:=cj E1 E G O;refine BS (λ_ Ap _ GC=>?_);have hN:=aa7 Ap hN;have⟨E,G⟩:=dZ Ap E G;have B2:=ab Ap B2;have O:=xt O Ap;refine AP B2 (aa8 GC) (λK3 KC E9 od E4=>?_);have S0:=aQ E4 ES (bt E);have Lj:=aQ E4 E7 (bt G);have hN:=qc.gr od (λAm e=>by have:=uhN Am e;simp[Value.ownBlock];omega) hN;have E:=aa3 od (λe=>ES e.symm) E;have G:=aa3 od (λe=>E7 e.symm) G;have O:=bm B2 U U O od;have Q0:=od.size;refine aa (aK (v:=K3) Z ?_);refine I ?_;obtain⟨At,G0,rfl,KM,-,-,-⟩:=eM E9;have hT:=Pr (aa8 E9) KM;have H2:Pq 1000 n (10000^((n1+1)/2))=some r:=by rw[<-hN.len,H4];exact hr
 refine I ?_;refine cg [(2,3),(7,11),(32,60)] (λFR e W=>∃f:Nat,∃Ax:Option Addr,∃Af:Nat,∃A0:Nat,∃t:Nat,(f=FR)/\(e 7=.slice Ax Af A0)/\(Pq f n t=some r)/\(t<=10000^26)/\(0<t)/\(KC.heap.size<=W.heap.size)/\(aO w W)/\(qc W w.heap.size A1 n1 c1 n)/\(ap W E5.heap.size 161 #[.bool false,.slice A1 n1 c1])/\(ap W wr.heap.size 161 #[.bool false,.slice A2 n2 c2])/\(qc W w.heap.size Ax Af A0 t)) (1000) ⟨1000,At,((n1+1)/2)+1,G0,10000^((n1+1)/2),rfl,rfl,H2,(Nat.pow_le_pow_right dc U),(Nat.pow_pos dc),(qa0 _),O,hN,E,G,(hT.mono U)⟩ ?_;rintro _ _ _ ⟨f,Ax,Af,A0,t,rfl,L4,hf,Av,CG,La,H,hN,E,G,hT⟩;have lt:=cJ (k:=27) hT (Nat.lt_of_le_of_lt Av dc);refine I ?_;refine clb DL (hc:=sn hN U hT U CG) (hk:=?_);rintro _ _ Az ⟨Aq,N0,L2,Ar,P1,L3,rfl,hQ,hRr⟩;have hN:=aa7 Az.2 hN;have⟨E,G⟩:=dZ Az.2 E G;have hT:=aa7 Az.2 hT;have H:=xt H Az.2;have P2:=cJ hQ (Nat.lt_of_le_of_lt (Nat.div_le_self _ _) (LH fn));refine I ?_;refine clb y8 (hc:=oW hT U hQ U) (hk:=?_);rintro _ _ nm ⟨As,Ne,cs,rfl,hS⟩;have hN:=aa7 nm.2 hN;have⟨E,G⟩:=dZ nm.2 E G;have hT:=aa7 nm.2 hT;have H:=xt H nm.2;have ls:=cJ hS (LI (LH fn) Av);refine BS (λ_ Ab _ H3=>?_);have hN:=aa7 Ab hN;have⟨E,G⟩:=dZ Ab E G;have hT:=aa7 Ab hT
 have hS:=aa7 Ab hS;have H:=xt H Ab;have Ix:=Ps (aa8 H3);refine clb DL (hc:=sn hS U Ix U dc) (hk:=?_);rintro _ _ Aw ⟨Ay,ny,L1,Ar2,Lk,S9,rfl,hY,hR2⟩;have hN:=aa7 Aw.2 hN;have⟨E,G⟩:=dZ Aw.2 E G;have hT:=aa7 Aw.2 hT;have H:=xt H Aw.2;have Rm:=cJ hY (Nat.lt_of_le_of_lt (Nat.div_le_self _ _) (LI (LH fn) Av));refine I ?_;refine clb y9 (hc:=jF hY U hT) (hk:=?_);rintro _ _ Ao rfl;have hN:=aa7 Ao.2 hN;have⟨E,G⟩:=dZ Ao.2 E G;have hT:=aa7 Ao.2 hT;have hY:=aa7 Ao.2 hY;have H:=xt H Ao.2;refine I ?_;by_cases v7:0<=(aN (((t+n/t)/2:Nat):Int) ((t:Nat):Int));have B1:=XL v7;have KY:=Zs hf B1;refine I ?_;refine aa (bU (vs:=[(1,.slice Ax Af A0)]) (cells:=#[.bool false,.slice Ax Af A0]) (pl:=[(0,1),(1,1)]) kA bG q0 Z q0 ?_);refine clb mi (hc:=Zu (fI (ng:=false) hT U (ht.ext H)) (Pu Av)) (hk:=?_);rintro _ _ K2 rfl;have H:=xt H K2.2;refine I ?_;exact bu (t:=2) (u:=3) (v1:=S (nS t)) (v2:=.int .i64 0) Z H (by rw[KY]) Z Z;have B1:=XM v7;obtain⟨g,rfl,h2⟩:=Zt hf B1;refine I ?_;exact bI ⟨g,Ay,ny,L1,(t+n/t)/2,rfl,rfl,h2,(by have:=Nat.not_le.1 B1;omega),(UO hn0 CG),U,H,hN,E,G,(hY.mono U)⟩
end
section
def mK (S:Nat)(a:N2):Option N2:=if yo a=true/\0<a.1*S/\0<a.2*S then(UM (a.1*S)).bind λx=>(UM (a.2*S)).bind λy=>if yo (x,y)=true then some (x,y+1)else none else none
def LJ {S:Nat}{a r:N2}(h:mK S a=some r):Bk 95 a/\0<a.1*S/\0<a.2*S/\∃x y,UM (a.1*S)=some x/\UM (a.2*S)=some y/\Bk 95 (x,y)/\r=(x,y+1):=by
 unfold mK at h
 split at h
 · rename_i h1
   refine⟨fL h1.1,h1.2.1,h1.2.2,?_⟩
   cases hx:UM (a.1*S)with
   |none=>rw[hx]at h;cases h
   | some x=>
     rw[hx,Option.bind_some]at h
     cases hy:UM (a.2*S)with
     |none=>rw[hy]at h;cases h
     | some y=>
       rw[hy,Option.bind_some]at h
       split at h
       · rename_i h2;cases h;exact⟨x,y,rfl,rfl,fL h2,rfl⟩
       · cases h
 · cases h
def Ry:List UInt8:=[51,49,52,49,53,57,50,54,53,51,53,56,57,55,57,51,50,51,56,52,54,50,54,52,51,51,56,51,50,55,57,53,48,50,56,56,52,49,57,55,49,54,57,51,57,57,51,55,53,49,48,53,56,50,48,57,55,52,57,52,52,53,57,50,51,48,55,56,49,54,52,48,54,50,56,54,50,48,56,57,57]
def vA (k:Nat):Nat:=314159265358979323846264338327950288419716939937510582097494459230781640628620899/10^(80-k)
def LK (h:k<81):Ry.take (k+1)=nS (vA k):=by
 have:∀k:Fin 81,Ry.take (k.1+1)=nS (vA k.1):=by decide +kernel
 exact this ⟨k,h⟩
def XN :vA k<10^81:=Nat.lt_of_le_of_lt (Nat.div_le_self _ _) dc
section
variable {n:Int}
def lJ (hd:0<d):0<((Int.gcd n d:Nat):Int):=by have:=Int.gcd_pos_of_ne_zero_right n (show d≠0 by omega);omega
def AV (hd:0<d):k8 n d*((Int.gcd n d:Nat):Int)=n:=by
 unfold k8;rw[if_neg U];exact Int.ediv_mul_cancel (Int.gcd_dvd_left ..)
def yB (hd:0<d):df n d*((Int.gcd n d:Nat):Int)=d:=by
 unfold df;rw[if_neg U];exact Int.ediv_mul_cancel (Int.gcd_dvd_right ..)
def pX (hd:0<d):k8 n d*d=n*df n d:=by
 have h1:=AV (n:=n) hd
 have h2:=yB (n:=n) hd
 generalize k8 n d=a at *
 generalize df n d=b at *
 generalize ((Int.gcd n d:Nat):Int)=g at *
 rw[<-h1,<-h2,Int.mul_comm b g,Int.mul_assoc]
def oy (hd:0<d):0<df n d:=by
 have h2:=yB (n:=n) hd
 have E:=lJ (n:=n) hd
 rcases Int.lt_or_le 0 (df n d)with h|h
 · exact h
 · have:=Int.mul_nonpos_of_nonpos_of_nonneg h (Int.le_of_lt E);omega
def LL (hd:0<d):df n d<=d:=by
 have h2:=yB (n:=n) hd
 have G:=lJ (n:=n) hd
 have E:=oy (n:=n) hd
 have:=Int.mul_le_mul_of_nonneg_left (show(1:Int)<=((Int.gcd n d:Nat):Int)by omega) (Int.le_of_lt E)
 omega
def Dj (hd:0<d):(k8 n d).natAbs<=n.natAbs:=by
 have h2:=qb2 Int.natAbs (AV (n:=n) hd)
 have E:=lJ (n:=n) hd
 rw[Int.natAbs_mul,Int.natAbs_natCast]at h2
 exact qa8 (Nat.le_mul_of_pos_right _ U) (Nat.le_of_eq h2)
def Dk (hd:0<d):Int.gcd (k8 n d) (df n d)=1:=by
 have E:=lJ (n:=n) hd
 have e:=Int.gcd_mul_right (k8 n d) ((Int.gcd n d:Nat):Int) (df n d)
 rw[AV hd,yB hd,Int.natAbs_natCast]at e
 exact Nat.eq_of_mul_eq_mul_right (show 0<Int.gcd n d by omega) U
def XO (ha:Fz a)(hb:Fz b)(h0:0<b)(hg:Int.gcd a b=1):bJ (ae a,ae b)=true:=by
 have e:bP (ae a) (ae b)=some [49]:=by
  unfold bP;rw[if_pos ka2,aI,aI,hg]
  decide +kernel
 unfold bJ
 simp only[ha.int,hb.int,e]
 rw[gL hb.int,aI,decide_eq_false (by rw[c7];omega)]
 rfl
def AW (hd:0<d)(h:Fz n):Fz (k8 n d):=Nat.lt_of_le_of_lt (Dj hd) h
def AX (hd:0<d)(h:Fz d):Fz (df n d):=by have:=oy (n:=n) hd;have:=LL (n:=n) hd;unfold Fz at *;omega
def LM (hd:0<d)(fn:Fz n)(fd:Fz d):bJ (qR n d)=true:=XO (AW hd fn) (AX hd fd) (oy hd) (Dk hd)
end
def UP {n:Int}(hd:0<d)(hg:Int.gcd n d=1):qR n d=(ae n,ae d):=by
 unfold qR k8 df;rw[hg,if_neg U,if_neg U];simp
def AY (h:a∣b*c)(hg:Int.gcd a c=1):a∣b:=by
 have h1:a.natAbs∣b.natAbs*c.natAbs:=by rw[<-Int.natAbs_mul];exact Int.natAbs_dvd_natAbs.2 h
 exact Int.natAbs_dvd_natAbs.1 (Nat.Coprime.dvd_of_dvd_mul_right (show Nat.Coprime a.natAbs c.natAbs from hg) h1)
def LN (hb:0<b)(hd:0<d)(h1:Int.gcd a b=1)(h2:Int.gcd c d=1)(h:a*d=c*b):a=c/\b=d:=by
 have E:b∣d:=by
  have:b∣d*a:=⟨c,by rw[Int.mul_comm d a,h,Int.mul_comm]⟩
  exact AY this (by rw[Int.gcd_comm];exact h1)
 have e2:d∣b:=by
  have:d∣b*c:=⟨a,by rw[Int.mul_comm b c,<-h,Int.mul_comm]⟩
  exact AY this (by rw[Int.gcd_comm];exact h2)
 have e:=Int.dvd_antisymm U U E e2
 subst e
 exact⟨Int.eq_of_mul_eq_mul_right U h,rfl⟩
def Hg (hb:0<b)(hd:0<d)(h:a*d=c*b):k8 a b=k8 c d/\df a b=df c d:=by
 have h1:=pX (n:=a) hb
 have h2:=pX (n:=c) hd
 refine LN (oy hb) (oy hd) (Dk hb) (Dk hd) ?_
 have e:k8 a b*df c d*(b*d)=k8 c d*df a b*(b*d):=by
  calc k8 a b*df c d*(b*d)=(k8 a b*b)*(df c d*d):=by grind
   _=(a*df a b)*(df c d*d):=by rw[h1]
   _=(a*d)*(df a b*df c d):=by grind
   _=(c*b)*(df a b*df c d):=by rw[h]
   _=(c*df c d)*(df a b*b):=by grind
   _=(k8 c d*d)*(df a b*b):=by rw[h2]
   _=k8 c d*df a b*(b*d):=by grind
 exact Int.eq_of_mul_eq_mul_right (Int.ne_of_gt (Int.mul_pos hb hd)) e
def LO (hb:0<b)(hd:0<d)(h:a*d=c*b):qR a b=qR c d:=by
 obtain⟨h1,h2⟩:=Hg hb hd h
 unfold qR;rw[h1,h2]
def UQ (hb:0<b)(hd:0<d)(h:qR a b=qR c d):a*d=c*b:=by
 unfold qR at h
 have E:=mQ (qb2 Prod.fst h)
 have e2:=mQ (qb2 Prod.snd h)
 have h1:=AV (n:=a) hb
 have h2:=yB (n:=a) hb
 have h3:=AV (n:=c) hd
 have h4:=yB (n:=c) hd
 rw[<-E]at h3
 rw[<-e2]at h4
 generalize k8 a b=p at *
 generalize df a b=q at *
 rw[<-h1,<-h2,<-h3,<-h4];grind
def AZ {k:Int}(hk:0<k):aN (x*k) (y*k)=aN x y:=AO ⟨λh=>Int.lt_of_mul_lt_mul_right h (Int.le_of_lt hk),λh=>Int.mul_lt_mul_of_pos_right h hk⟩ ⟨λh=>Int.eq_of_mul_eq_mul_right U h,λh=>by rw[h]⟩
def Pv (hb:0<b)(hd:0<d):aN (k8 a b*df c d) (k8 c d*df a b)=aN (a*d) (c*b):=by
 rw[<-AZ (Int.mul_pos (lJ (n:=a) hb) (lJ (n:=c) hd))]
 have h1:=AV (n:=a) hb
 have h2:=yB (n:=a) hb
 have h3:=AV (n:=c) hd
 have h4:=yB (n:=c) hd
 generalize k8 a b=p at *
 generalize df a b=q at *
 generalize k8 c d=r at *
 generalize df c d=s at *
 generalize ((Int.gcd a b:Nat):Int)=g at *
 generalize ((Int.gcd c d:Nat):Int)=k at *
 rw[<-h1,<-h2,<-h3,<-h4,show p*s*(g*k)=p*g*(s*k)by grind,show r*q*(g*k)=r*k*(q*g)by grind]
def A3 (hb:0<b)(hd:0<d)(fa:Fz a)(fb:Fz b)(fc:Fz c)(fd:Fz d)(ht:Tb w):
 CL 26 #[.agg #[S (qR a b).1,S (qR a b).2],.agg #[S (qR c d).1,S (qR c d).2]] w (aG w λv _=>v=.int .i64 (aN (a*d) (c*b))):=
 nc (AR (LM hb fa fb) (LM hd fc fd) (AW hb fa) (AX hb fb) (AW hd fc) (AX hd fd) ht) (qb2 (Value.int .i64) (Pv hb hd))
def yC :ah (qR a b).1=k8 a b/\ah (qR a b).2=df a b:=⟨aI _,aI _⟩
def Q9 (a b:Int):Prop:=a.natAbs<10^90/\0<b/\b<10^90
def Q9.fz (h:Q9 a b):Fz a/\Fz b:=by obtain⟨_,_,_⟩:=h;unfold Fz;omega
def Q9.red (h:Q9 a b):Q9 (k8 a b) (df a b):=⟨Nat.lt_of_le_of_lt (Dj h.2.1) h.1,oy h.2.1,by have:=LL (n:=a) h.2.1;have:=h.2.2;omega⟩
def Q9.ok (h:Q9 a b):bJ (qR a b)=true:=LM h.2.1 h.fz.1 h.fz.2
def yD (ha:a.natAbs<10^90)(hb:b.natAbs<10^90):(a*b).natAbs<10^180:=by rw[Int.natAbs_mul];exact iE ha hb
def Dl (h:a.natAbs<10^180):Fz a:=by unfold Fz;omega
def UR {n e:Int}(fn:Fz n)(fd:Fz d)(h:ie n d=some (qR c e)):ig n d=some (qR c e):=by
 unfold ig;rw[fn.fits,fd.fits];exact h
def US (h1:Q9 a b)(h2:Q9 c d):dn (qR a b) (qR c d)=some (qR (a*d-c*b) (b*d)):=by
 unfold dn
 rw[h1.ok,h2.ok,yC.1,yC.2,yC.1,yC.2]
 have r1:=h1.red
 have r2:=h2.red
 have O:=yD r1.1 (b:=df c d) (by have:=r2.2;omega)
 have H:=yD r2.1 (b:=df a b) (by have:=r1.2;omega)
 have G:=yD (a:=df a b) (b:=df c d) (by have:=r1.2;omega) (by have:=r2.2;omega)
 rw[(Dl O).fits,(Dl H).fits]
 have E:=Int.mul_pos r1.2.1 r2.2.1
 simp only[Bool.and_self,if_true]
 refine UR (by unfold Fz;omega) (Dl G) ?_
 rw[sR U]
 congr 1
 refine LO E (Int.mul_pos h1.2.1 h2.2.1) ?_
 have W:=pX (n:=a) h1.2.1
 have e2:=pX (n:=c) h2.2.1
 generalize k8 a b=p at *
 generalize df a b=q at *
 generalize k8 c d=r at *
 generalize df c d=s at *
 grind
section
def Pw (h1:Q9 a b)(h2:Q9 c d)(ht:Tb w):CL 117 #[.agg #[S (qR a b).1,S (qR a b).2],.agg #[S (qR c d).1,S (qR c d).2]] w (aG w λv _=>v=Qv (a*d-c*b) (b*d)):=nc (Ez _ _ _ _ _ ht) (qb2 gO (US h1 h2))
end
def Px {a b:Nat}(hk:0<k):sK (a*k) (b*k)=sK a b:=by
 unfold sK
 rw[Nat.mul_mod_mul_right,Nat.mul_div_mul_right _ _ hk]
 have:(a%b*k=0)↔(a%b=0):=⟨λh=>(Nat.mul_eq_zero.1 h).resolve_right U,λh=>by rw[h,Nat.zero_mul]⟩
 simp only[this]
def Py {S d:Nat}(hk:0<k):p7 S (n*k) (d*k)=p7 S n d:=by
 unfold p7
 rw[show n*k*S=n*S*k by rw[Nat.mul_assoc,Nat.mul_comm k,<-Nat.mul_assoc],Px hk,Nat.mul_div_mul_right _ _ hk]
abbrev QV (a b:Int):Value:=.agg #[S (qR a b).1,S (qR a b).2]
abbrev IV (a b c d:Int):Value:=.agg #[S (qR a b).1,S (qR a b).2,S (qR c d).1,S (qR c d).2]
abbrev qw (ma mb sa sb ea eb la lb ha hb oa ob ga gb:Int):Array Value:=#[S (qR ma mb).1,S (qR ma mb).2,S (qR sa sb).1,S (qR sa sb).2,S (qR ea eb).1,S (qR ea eb).2,S (qR la lb).1,S (qR la lb).2,S (qR ha hb).1,S (qR ha hb).2,S (qR oa ob).1,S (qR oa ob).2,S (qR ga gb).1,S (qR ga gb).2]
end
section
set_option maxRecDepth 100000
attribute [local irreducible] wpListIn Code.wpIn Oper.wpIn Exit.then Exit.inBlock Exit.noGoto
set_option maxHeartbeats 40000000
def wW (h1:Q9 a b)(h2:Q9 c d)(ht:Tb w):CL 26 #[QV a b,QV c d] w (aG w λv _=>v=.int .i64 (aN (a*d) (c*b))):=
 A3 h1.2.1 h2.2.1 h1.fz.1 h1.fz.2 h2.fz.1 h2.fz.2 ht
def q9m:Q9 1 1000000:=⟨by decide,by decide,by decide⟩
def q92:Q9 1 2:=⟨by decide,by decide,by decide⟩
def q9h:Q9 100 1:=⟨by decide,by decide,by decide⟩
def Vs (h:-1000000000<=a/\a<=1000000000):In64 a:=by unfold In64;omega
def yF (ha:In64 a)(hb:In64 b)(h0:b≠0)(ht:Tb w):
 CL 98 #[.int .i64 a,.int .i64 b] w (aG w λv w'=>v=QV a b):=by
 refine aC func98 Z (I ?_);refine al aS (λ_ O G=>?_);have E:=O.2;refine I ?_;refine cl Sb (Pp ha hb h0 (ht.ext E)) ?_;rintro _ _ A0 rfl;have⟨G,E⟩:=bn A0.2 G E;refine I ?_;refine cl qm kS ?_;rintro _ _ H rfl;have⟨G,E⟩:=bn H.2 G E;refine SA G (λ_ A1 W=>?_);have E:=bi A1 E;refine I ?_;refine aX (v:=QV a b) (bY  rfl ?_) E Z;refine ak (t:=4) (cs:=[S (qR a b).1,S (qR a b).2]) (b:=w.heap.size) (o:=0) iK Z bX ?_ ?_;exact Z;exact aa0 W (i:=0) Z
theorem wX (ql:Q9 la lb)(h12:pl<=12)(hl1:0<=aN (la*1000000) (1*lb))(hl2:aN (la*2) (1*lb)<=0)(ht:Tb w):
 CL 44 #[.agg #[S (qR la lb).1,S (qR la lb).2,.int .i64 pl]] w (aG w λv w'=>v=.tuple #[]):=by
 refine aC func44 rfl ?_;refine I ?_;refine bx (λ_ H4 G=>?_);have E:=H4.2;refine I ?_;refine cl td (nc (Y:=.bool true) (eo _ _ _ (ht.ext E)) (qb2 Value.bool ql.ok)) ?_;rintro _ _ Ab rfl;have⟨G,E⟩:=bn Ab.2 G E;refine I ?_;refine cl fE dh ?_ (av (qb2 Value.bool (qa1 U)) rfl);rintro _ _ H3 rfl;have⟨G,E⟩:=bn H3.2 G E;refine I ?_;refine IR tm 9 aO ac3 (λ_ _ _=>xt) [(fun(v:Value) (_:World)=>v=(pT w.heap.size:Value)),(fun(v:Value) (_:World)=>v=(QV la lb:Value)),(fun(v:Value) (_:World)=>v=(QV 1 1000000:Value)),(fun(v:Value) (_:World)=>v=(.int .i64 (aN (la*1000000) (1*lb)):Value)),(fun(v:Value) (_:World)=>v=(.bool (decide (0<=(aN (la*1000000) (1*lb)))):Value)),(fun(v:Value) (_:World)=>v=(.bool (decide (0<=(aN (la*1000000) (1*lb)))):Value)),(fun(v:Value) (_:World)=>v=(pT w.heap.size:Value)),(fun(v:Value) (_:World)=>v=(QV la lb:Value)),(fun(v:Value) (_:World)=>v=(QV 1 2:Value))] ⟨λ_ _ _ _ h=>h,λ_ _ _ _ h=>h,λ_ _ _ _ h=>h,λ_ _ _ _ h=>h,λ_ _ _ _ h=>h,λ_ _ _ _ h=>h,λ_ _ _ _ h=>h,λ_ _ _ _ h=>h,λ_ _ _ _ h=>h,trivial⟩ (by kernel_rfl) (by kernel_rfl) (by kernel_rfl) ?_ ?_;refine⟨λA2 _ _ wr _=>?_,?_⟩;obtain⟨A2,rfl⟩:=dX wr;refine I ?_;exact Or.inl (tF (aa4 _))
 refine⟨λCB _ _ E6 Cr=>?_,?_⟩;obtain⟨CB,rfl⟩:=dX E6;have L2:=gm (Cr 0 16 rfl rfl);refine I ?_;exact Or.inl (tF (aa4 _));refine⟨λKY _ CG E7 _=>?_,?_⟩;obtain⟨KY,rfl⟩:=dX E7;have Ao:=(xt E CG);refine clb BW (hc:=yF (Vs dc) (Vs dc) dc (ht.ext Ao)) (hk:=?_);rintro _ _ E1 rfl;refine I ?_;exact Or.inl (tF E1.2);refine⟨λE5 _ A0 GC O=>?_,?_⟩;obtain⟨E5,rfl⟩:=dX GC;have Ap:=(xt E A0);have W:=gm (O 1 17 rfl rfl);have Af:=gm (O 2 18 rfl rfl);refine cl nL (wW ql q9m (ht.ext Ap)) ?_ (av W (av Af rfl));rintro _ _ Ax rfl;refine I ?_;exact Or.inl (tF Ax.2);refine⟨λES _ _ KM K2=>?_,?_⟩;obtain⟨ES,rfl⟩:=dX KM;have Lj:=gm (K2 3 19 rfl rfl);refine I ?_;exact Or.inl (tF (aa4 _));refine⟨λCY _ _ H2 E0=>?_,?_⟩;obtain⟨CY,rfl⟩:=dX H2;have L3:=gm (E0 4 20 rfl rfl);refine I ?_;exact Or.inl (tF (aa4 _));refine⟨λAr _ _ As KC=>?_,?_⟩;obtain⟨Ar,rfl⟩:=dX As;have Aq:=gm (KC 5 21 rfl rfl);have L1:=(Aq.trans (qb2 Value.bool (qa1 (by first|exact hl1|exact hl2|omega))));refine I ?_;exact Or.inl (tF (aa4 _));refine⟨λny _ _ A1 od=>?_,?_⟩;obtain⟨ny,rfl⟩:=dX A1;have Av:=gm (od 5 21 rfl rfl);have Li:=gm (od 6 22 rfl rfl);have L4:=(Av.trans (qb2 Value.bool (qa1 (by first|exact hl1|exact hl2|omega))));refine I ?_
 exact Or.inl (tF (aa4 _));refine⟨λEW _ Aw Am FR=>?_,?_⟩;obtain⟨EW,rfl⟩:=dX Am;have Ix:=(xt E Aw);have B2:=gm (FR 5 21 rfl rfl);have Lk:=(B2.trans (qb2 Value.bool (qa1 (by first|exact hl1|exact hl2|omega))));refine I ?_;refine clb BW (hc:=yF (Vs dc) (Vs dc) dc (ht.ext Ix)) (hk:=?_);rintro _ _ Kp rfl;refine I ?_;exact Or.inl (tF Kp.2);exact trivial;intro Ay _ Az K3 H;obtain⟨Ay,rfl⟩:=dX K3;have E:=xt E Az;have G0:=gm (H 5 21 rfl rfl);have La:=(G0.trans (qb2 Value.bool (qa1 (by first|exact hl1|exact hl2|omega))));refine I ?_;have E9:=gm (H 7 23 rfl rfl);have C1:=gm (H 8 24 rfl rfl);refine cl nL (wW ql q92 (ht.ext E)) ?_ (av E9 (av C1 rfl));rintro _ _ E4 rfl;have E:=xt E E4.2;refine I ?_;refine cl fE dh ?_ (av (qb2 Value.bool (qa1 (by first|exact hl1|exact hl2|omega))) rfl);rintro _ _ B1 rfl;have E:=xt E B1.2;refine I ?_;exact HZ (nh rfl) E rfl
def yG (qa:Q9 a b)(ht:Tb w):
 CL 102 #[QV a b] w (aG w λv w'=>v=.bool (decide (0<aN (a*1) (100*b)))):=by
 refine aC func102 Z (I ?_);refine bx (λ_ Am _=>?_);have E:=Am.2;refine I ?_;refine IR tm 2 aO ac3 (λ_ _ _=>xt) [(fun(v:Value) (_:World)=>v=(QV a b:Value)),(fun(v:Value) (_:World)=>v=(QV 100 1:Value))] ⟨λ_ _ _ _ h=>h,λ_ _ _ _ h=>h,trivial⟩ q0 q0 q0 ?_ ?_;refine⟨λO _ _ W _=>?_,?_⟩;obtain⟨O,rfl⟩:=dX W;refine I ?_;exact Or.inl (tF (aa4 _));refine⟨λny _ A2 od _=>?_,?_⟩;obtain⟨ny,rfl⟩:=dX od;have A0:=(xt E A2);refine clb BW (hc:=yF (Vs dc) (Vs dc) dc (ht.ext A0)) (hk:=?_);rintro _ _ H rfl;refine I ?_;exact Or.inl (tF H.2);exact trivial;intro Ao _ A1 wr G;obtain⟨Ao,rfl⟩:=dX wr;have E:=xt E A1;have Af:=gm (G 0 3 Z Z);have nm:=gm (G 1 4 Z Z);refine cl nL (wW qa q9h (ht.ext E)) ?_ (av Af (av nm Z));rintro _ _ Ab rfl;have E:=xt E Ab.2;refine I ?_;exact am (t:=2) (v:=.bool (decide (0<(aN (a*1) (100*b))))) Z E Z Z
end
end Go.Proofs.YtlmihmlnpjkblaaGreatDoor
namespace Go.Eng
open Go Go.RowKit
variable {l:List Oper}{d a s ty i j t b n0:Nat}{ls:Nat->Bool}{e:Nat->Value}{w w':World}
def oA:List (Option (Nat×Value))->Nat->Option (Option (Nat×Value))
 |[],_=>none
 |x::_,0=>some x
 |_::l,i+1=>oA l i
def VL (L:List (Option (Nat×Value)))(ls:Nat->Bool)(e:Nat->Value):Prop:=∀i d v,oA L i=some (some (d,v))->ls i=true->e d=v
def XP:Option Nat->Nat->Bool
 |none,_=>false
 |some a,b=>Nat.beq a b
def UT:List Oper->Bool
 |[]=>true
 |o::l=>(match o.dst with|none=>true|some d=>l.all λp=>!XP p.dst d)&&UT l
def Vt:List Oper->List (Option (Nat×Value))->Bool
 |_,[]=>true
 |[],_::_=>false
 |o::os,x::xs=>(match x with|none=>true|some y=>XP o.dst y.1)&&Vt os xs
def inD (D:List Nat)(l:List Oper):Bool:=l.all λo=>match o.dst with|none=>true|some d=>F8 D d
def yH {o:Option Nat}:XP o d=true↔o=some d:=by
 cases o with
 |none=>simp[XP]
 |some a=>simp only[XP,Option.some.injEq];exact⟨qb4,λh=>by subst h;simp⟩
def FA:∀{l:List Oper} {i j d:Nat} {o p:Oper},UT l=true->l[i]?=some o->l[j]?=some p->o.dst=some d->p.dst=some d->i=j
 |[],i,_,_,_,_,_,h,_,_,_=>by simp at h
 |q::l,0,0,_,_,_,_,_,_,_,_=>rfl
 | q::l,0,j+1,d,o,p,h,ho,hp,hd,he=>by
   simp at ho;subst ho
   simp only[UT,hd,Bool.and_eq_true]at h
   have:=List.all_eq_true.1 h.1 p (qb0 (by simpa using hp))
   rw[yH.2 he]at this;cases this
 | q::l,i+1,0,d,o,p,h,ho,hp,hd,he=>by
   simp at hp;subst hp
   simp only[UT,he,Bool.and_eq_true]at h
   have:=List.all_eq_true.1 h.1 o (qb0 Fk)
   rw[yH.2 hd]at this;cases this
 | q::l,i+1,j+1,d,o,p,h,ho,hp,hd,he=>by
   simp only[UT,Bool.and_eq_true]at h
   have e:=FA h.2 Fk (by simpa using hp) hd he
   omega
def yI:∀{l:List Oper} {L:List (Option (Nat×Value))} {i d:Nat} {v:Value},Vt l L=true->oA L i=some (some (d,v))->∃o,l[i]?=some o/\o.dst=some d
 |_,[],i,_,_,_,h=>by cases i <;>cases h
 |[],_::_,_,_,_,h,_=>by cases h
 | o::os,x::xs,0,d,v,h,hx=>by
   cases hx
   simp only[Vt,Bool.and_eq_true]at h
   exact⟨o,rfl,yH.1 h.1⟩
 | o::os,x::xs,i+1,d,v,h,hx=>by
   simp only[Vt,Bool.and_eq_true]at h
   obtain⟨p,h1,h2⟩:=yI h.2 (show oA xs i=_ from hx)
   exact⟨p,by simpa using h1,h2⟩
section draws
variable {P:Program}{r:Option Nat}{n N:Nat}{e0:Nat->Value}{ds:List Deferred}{w0:World}{Q:Exit->Act->World->Prop}{M:Nat}
def vR (N:Nat)(ds:List Deferred)(X:(Nat->Bool)->(Nat->Value)->World->Prop)(L:List (Option (Nat×Value)))(ls:Nat->Bool)(e:Nat->Value)(i:Nat)(dst:Option Nat):Exit->Act->World->Prop:=
 λx a' w'=>x=.normal/\∃v,a'=(act N e ds).put dst v/\(∀d u,oA L i=some (some (d,u))->v=u)/\X (eN ls i) (kC e dst v) w'
def Zv (r:Option Nat)(n:Nat)(P:Program)(N:Nat)(ds:List Deferred)(l:List Oper)(D:List Nat)(L:List (Option (Nat×Value)))(X:(Nat->Bool)->(Nat->Value)->World->Prop)(e0:Nat->Value):Nat->List Oper->Prop
 |_,[]=>True
 |i,o::os=>(∀(e:Nat->Value) (w:World) (ls:Nat->Bool),(∀t,F8 D t=false->e t=e0 t)->(∀k d v,oA L k=some (some (d,v))->ca l i k=true->e d=v)->X ls e w->(∀j k,ca l j k=true->ls j=true->ls k=true)->ls i=false->(∀k,ca l i k=true->ls k=true)->
  wpListIn (Fw r) n P l.toArray (vR N ds X L ls e i o.dst) [o] (act N e ds) w)/\Zv r n P N ds l D L X e0 (i+1) os
def FB {D:List Nat}{L:List (Option (Nat×Value))}{X:(Nat->Bool)->(Nat->Value)->World->Prop}(hnd:UT (l.take M)=true)(hmt:Vt (l.take M) L=true)(hD:inD D (l.take M)=true):
 ∀(os:List Oper) (i0:Nat),(∀k,os[k]?=(l.take M)[i0+k]?)->Zv r n P N ds l D L X e0 i0 os->
 tw r n P N ds l (λls e w=>(∀t,F8 D t=false->e t=e0 t)/\VL L ls e/\X ls e w) i0 os
 |[],_,_,_=>trivial
 | o ::os,i0,hk,h=>by
   refine⟨λe w ls hJ hcl hni hpr=>?_,FB hnd hmt hD os (i0+1) (λk=>by rw[show i0+1+k=i0+(k+1)by omega,<-hk (k+1)];rfl) h.2⟩
   obtain⟨hs,hv,hX⟩:=hJ
   have ho:(l.take M)[i0]?=some o:=by have:=hk 0;simpa using this.symm
   have hstep:=h.1 e w ls hs (λk d v hl Ab=>hv k d v hl (hpr k Ab)) hX hcl hni hpr
   refine tv (K1:=λa' w'=>∃v,a'=(act N e ds).put o.dst v/\(∀d u,oA L i0=some (some (d,u))->v=u)/\X (eN ls i0) (kC e o.dst v) w') hstep (λa' w' hE=>?_)
   obtain⟨v,A1,A2,hX'⟩:=hE
   refine⟨v,A1,?_,?_,hX'⟩
   · cases hd:o.dst with
     |none=>exact hs
     | some d=>
       refine c8 ?_ hs
       have:=List.all_eq_true.1 hD o (qb0 ho)
       rw[hd]at this;exact this
   · intro j E G H hl
     by_cases hji:j=i0
     · subst hji
       obtain⟨p,O,W⟩:=yI hmt H
       rw[ho]at O
       cases O
       rw[W]
       show upd e E v E=G
       rw[kh];exact A2 E G H
     · have hl':ls j=true:=by
        have hb:Nat.beq j i0=false:=by
         cases hb:Nat.beq j i0 with
         |false=>rfl
         |true=>exact absurd (qb4 hb) hji
        unfold eN at hl;rw[hb]at hl;exact hl
       have A0:=hv j E G H hl'
       cases hd:o.dst with
       |none=>exact A0
       | some d=>
         show upd e d v E=G
         obtain⟨p,O,W⟩:=yI hmt H
         rw[upd_ne _ _ (λhh:E=d=>hji (FA hnd O ho (by rw[W,hh]) hd))]
         exact A0
def UU {id:Nat}(hm:P.follows .mixedOrders=true)(M:Nat)(D:List Nat)(L:List (Option (Nat×Value)))(X:(Nat->Bool)->(Nat->Value)->World->Prop)(h0:X (λ_=>false) e0 w0.drew)(hwf:MV l=true)(hshape:iq l M=true)(hchk:(UT (l.take M)&&(Vt (l.take M) L&&inD D (l.take M)))=true)(hstep:Zv r n P N ds l D L X e0 0 (l.take M))(hfin:∀(e:Nat->Value) (w:World) (ls:Nat->Bool),(∀j,Nat.blt j M=true->ls j=true)->(∀t,F8 D t=false->e t=e0 t)->(∀k d v,oA L k=some (some (d,v))->Nat.blt k M=true->e d=v)->X ls e w->wpListIn (Fw r) n P l.toArray Q (l.drop M) (act N e ds) w):
 (Code.region id l.toArray true).wpIn (Fw r) n P Q (act N e0 ds) w0:=by
 simp only[Bool.and_eq_true]at hchk
 refine IP hm M (λe0 ls e w=>(∀t,F8 D t=false->e t=e0 t)/\VL L ls e/\X ls e w) ⟨λ_ _=>rfl,(λ_ _ _ _ h=>by cases h),h0⟩ hwf hshape (FB hchk.1 hchk.2.1 hchk.2.2 _ 0 (λk=>by rw[Nat.zero_add]) hstep) ?_
 intro e w ls E hJ
 exact hfin e w ls E hJ.1 (λk d v hl hk=>hJ.2.1 k d v hl (E k hk)) hJ.2.2
def XA (w0:World)(a s d ty:Nat)(z v:Array Value)(ls:Nat->Bool)(e:Nat->Value)(w:World):Prop:=
 aO w0 w/\(ls a=true->∃b,e d=.pointer (some ⟨b,0,none⟩)/\w0.heap.size<=b/\ap w b ty (match ls s with|true=>v|false=>z))
def XA.start {z v:Array Value}:XA w0 a s d ty z v (λ_=>false) e0 w0.drew:=⟨ac3 w0,λh=>by cases h⟩
def fk (h:Nat.beq j i=false):eN ls i j=ls j:=by unfold eN;rw[h]
def Pz :eN ls i i=true:=by unfold eN;simp
def jS {v:Value}(h:Nat.beq t d=false):upd e d v t=e t:=upd_ne _ _ (λE=>by subst E;simp at h)
def XA.fin {z v:Array Value}(h:XA w0 a s d ty z v ls e w)(ha:ls a=true)(hs:ls s=true\/z=v):∃b,e d=.pointer (some ⟨b,0,none⟩)/\w0.heap.size<=b/\ap w b ty v:=by
 obtain⟨b,h1,h2,h3⟩:=h.2 ha
 rcases hs with hs|hs
 · rw[hs]at h3;exact⟨b,h1,h2,h3⟩
 · subst hs;refine⟨b,h1,h2,?_⟩;cases hh:ls s <;>rw[hh]at h3 <;>exact h3
def XW (w0:World)(b s ty:Nat)(z v:Array Value)(ls:Nat->Bool)(_:Nat->Value)(w:World):Prop:=
 w0.grownBy w (some b)/\ap w b ty (match ls s with|true=>v|false=>z)
def XW.start {z v:Array Value}(h:ap w0 b ty z):XW w0 b s ty z v (λ_=>false) e0 w0.drew:=⟨lj (World.grownBy.refl w0 _) (ac3 w0),ac9 (ac3 w0) h⟩
def XW.fin {z v:Array Value}(h:XW w0 b s ty z v ls e w)(hs:ls s=true):ap w b ty v:=by
 have h3:=h.2
 rw[hs]at h3;exact h3
def XH (Rel:World->Prop)(n0 a d ty:Nat)(z:Array Value)(ls:Nat->Bool)(e:Nat->Value)(w:World):Prop:=
 Rel w/\n0<=w.heap.size/\(ls a=true->∃b,e d=.pointer (some ⟨b,0,none⟩)/\n0<=b/\ap w b ty z)
def XH.start {Rel:World->Prop}{z:Array Value}(h:Rel w0.drew):XH Rel w0.heap.size a d ty z (λ_=>false) e0 w0.drew:=⟨h,Below.size (ac3 w0),λh=>by cases h⟩
def dvH {Rel:World->Prop}{L:List (Option (Nat×Value))}{z:Array Value}{v:Value}{row:Option Nat}(hl:oA L i=some (some (d,v)))(hX:XH Rel n0 a t ty z ls e w)(h:Rel w')(k:w.grownBy w' row)(hr:∀g,row=some g->g<n0)(h1:Nat.beq a i=false:=by rfl)(h3:Nat.beq t d=false:=by rfl):
 vR N ds (XH Rel n0 a t ty z) L ls e i (some d) .normal (act N (upd e d v) ds) w':=by
 refine⟨rfl,v,(aw ..).symm,(λ_ _ h=>by rw[hl]at h;cases h;rfl),h,qa8 hX.2.1 k.size,λE=>?_⟩
 rw[fk h1]at E
 obtain⟨b,H,e2,G⟩:=hX.2.2 E
 refine⟨b,?_,e2,aa3 k (λO=>by have:=hr b O.symm;omega) G⟩
 show upd e d v t=_
 rw[jS h3];exact H
def js {Rel:World->Prop}{L:List (Option (Nat×Value))}{z:Array Value}{v:Value}(hl:oA L i=some (some (d,v)))(hX:XH Rel n0 a t ty z ls e w)(h:Rel w')(k:aO w w')(h1:Nat.beq a i=false:=by rfl)(h3:Nat.beq t d=false:=by rfl):
 vR N ds (XH Rel n0 a t ty z) L ls e i (some d) .normal (act N (upd e d v) ds) w':=dvH hl hX h (lj (World.grownBy.refl w none) k) (λg h=>by cases h) h1 h3
end draws
end Go.Eng
namespace Go.Proofs.YtlmihmlnpjkblaaGreatDoor
open Go Go.Eng Go.RowKit Tryz
variable {a b' c' d':List UInt8}{cs lb vs:List Value}{d b c k off ft:Nat}{v:Value}
section
variable {P:Program}{r:Option Nat}{n:Nat}{Q:Exit->Act->World->Prop}{a:Act}{w:World}{c:Code}
def Zw (m:Nat)(h:c.wpIn (Fw r) n P (Exit.then (Code.roundsIn (Fw r) n P c Q m) Q) a w):(Code.loop c).wpIn (Fw r) n P Q a w:=wpIn_loop_rounds (m+1) h
def Zx {m:Nat}(h:c.wpIn (Fw r) n P (Exit.then (Code.roundsIn (Fw r) n P c Q m) Q) a w):Code.roundsIn (Fw r) n P c Q (m+1) a w:=h
end
section
variable {P:Program}{r:Option Nat}{n N:Nat}{e:Nat->Value}{ds:List Deferred}{w:World}{Q:Exit->Act->World->Prop}{K:Act->World->Prop}{t ty:Nat}{pos:String}{af:Array Edge}{g:Option (Nat×Bool)}{x y:Operand}
def XQ {el:TypeId}{z:Value}{size bytes m:Nat}{parts:Array (Nat×Operand)}{vs:List (Nat×Value)}{cells:Array Value}(hu:P.underlying t=some (.slice el))(hi:gp P el z size bytes)(hp:(parts.toList.map fun(i,x)=>(i,ev N e x))=vs)(h24:m*size<=16777216)(hm:0<m*size)(hf:Instr.fill (λi=>some (i*size,size)) ((Array.range (m*size)).map (z.cells[· %z.cells.size]!)) vs=some cells)(hk:∀w',(w'.heap.size=w.heap.size+1/\aO w w')->ap w' w.heap.size el cells->K (act N (upd e d (.slice (some ⟨w.heap.size,0,none⟩) m m)) ds) w'):
 Oper.wpIn (Fw r) n P ⟨some d,.buildSlice t m parts,ty,pos,af,g⟩ (act N e ds) w K Q:=by
 obtain⟨i,G,H,E,_⟩:=hi.parts
 subst E
 refine cG (v:=.slice (some ⟨w.heap.size,0,none⟩) m m) (w':=w.alloc (.cells cells el)) Z ?_ (by
  rw[aw]
  exact hk _ ⟨by simp,ad9 _ _⟩ (heap_alloc_new w _))
 have hp':(parts.map fun(i,x)=>(i,ev N e x)).toList=vs:=by rw[<-hp];simp
 subst hp'
 have h2:¬m*i.size>2^24:=J
 have h3:¬(m*i.size=0):=J
 simp only[execOp,Instr.buildSlice,Sem.run_bind,run_underlying hu,Result.andThen_ok,sizeOf,typeInfo,run_program,G,Sem.run_pure,zeroValue,H,h2,if_false,h3,hf,newRow,run_newObj,World.alloc_eq]
end
def XB (X:(Nat->Bool)->(Nat->Value)->World->Prop)(a t el m:Nat)(cs:Array Value)(ls:Nat->Bool)(e:Nat->Value)(w:World):Prop:=
 X ls e w/\(ls a=true->∃b,e t=.slice (some ⟨b,0,none⟩) m m/\ap w b el cs)
section
variable {N:Nat}{ds:List Deferred}{X:(Nat->Bool)->(Nat->Value)->World->Prop}{L:List (Option (Nat×Value))}{ls:Nat->Bool}{e:Nat->Value}{i a t el m:Nat}{cs:Array Value}{w w' w0:World}
def XB.start (h:X (λ_=>false) e w):XB X a t el m cs (λ_=>false) e w:=⟨h,λh=>by cases h⟩
def XB.up (hB:XB X a t el m cs ls e w)(hX:X (eN ls i) (upd e d v) w')(k:aO w w')(h1:Nat.beq a i=false:=by rfl)(h3:Nat.beq t d=false:=by rfl):XB X a t el m cs (eN ls i) (upd e d v) w':=by
 refine⟨hX,λE=>?_⟩
 rw[fk h1]at E
 obtain⟨b,p,q⟩:=hB.2 E
 exact⟨b,by rw[jS h3];exact p,ac9 k q⟩
def XA.up {a s t ty:Nat}{z u:Array Value}(hX:XA w0 a s t ty z u ls e w)(k:aO w w')(h1:Nat.beq a i=false:=by rfl)(h2:Nat.beq s i=false:=by rfl)(h3:Nat.beq t d=false:=by rfl):XA w0 a s t ty z u (eN ls i) (upd e d v) w':=by
 refine⟨aO.trans hX.1 k,λE=>?_⟩
 rw[fk h1]at E
 obtain⟨b,H,e2,G⟩:=hX.2 E
 exact⟨b,by rw[jS h3];exact H,e2,by rw[fk h2];exact ac9 k G⟩
end
def XK (X:(Nat->Bool)->(Nat->Value)->World->Prop)(n0 a1 t1 a t ty:Nat)(z:Array Value)(ls:Nat->Bool)(e:Nat->Value)(w:World):Prop:=
 X ls e w/\(ls a=true->∃b,e t=pT b/\n0<=b/\ap w b ty z/\(ls a1=true->e t1≠pT b))
section
variable {N:Nat}{ds:List Deferred}{X:(Nat->Bool)->(Nat->Value)->World->Prop}{Rel:World->Prop}{L:List (Option (Nat×Value))}{ls:Nat->Bool}{e:Nat->Value}{n0 i a t ty a1 t1 ty1:Nat}{z z1:Array Value}{w w':World}
def XK.start (h:X (λ_=>false) e w):XK X n0 a1 t1 a t ty z (λ_=>false) e w:=⟨h,λh=>by cases h⟩
def sT {ex:Exit}{a':Act}(h:vR N ds X L ls e i (some d) ex a' w')(hK:XK X n0 a1 t1 a t ty z ls e w)(k:∀b,n0<=b->ap w b ty z->ap w' b ty z)(h1:Nat.beq a i=false:=by rfl)(h2:Nat.beq a1 i=false:=by rfl)(h3:Nat.beq t d=false:=by rfl)(h4:Nat.beq t1 d=false:=by rfl):
 vR N ds (XK X n0 a1 t1 a t ty z) L ls e i (some d) ex a' w':=by
 obtain⟨rfl,v,H,e2,G⟩:=h
 refine⟨rfl,v,H,e2,G,λE=>?_⟩
 rw[fk h1]at E
 obtain⟨b,p,q,r,s⟩:=hK.2 E
 refine⟨b,?_,q,k b q r,λhb=>?_⟩
 · show upd e d v t=_;rw[jS h3];exact p
 · rw[fk h2]at hb
   show upd e d v t1≠_;rw[jS h4];exact s hb
def XR (hl:oA L a1=some none)(hX:X (eN ls a1) (upd e t1 (pT w.heap.size)) w')(hK:XK X n0 a1 t1 a t ty z ls e w)(k:∀b,n0<=b->ap w b ty z->ap w' b ty z)(h1:Nat.beq a a1=false:=by rfl)(h3:Nat.beq t t1=false:=by rfl):
 vR N ds (XK X n0 a1 t1 a t ty z) L ls e a1 (some t1) .normal (act N (upd e t1 (pT w.heap.size)) ds) w':=by
 refine⟨rfl,_,(aw ..).symm,(λ_ _ h=>by rw[hl]at h;cases h),hX,λG=>?_⟩
 rw[fk h1]at G
 obtain⟨b,p,q,r,s⟩:=hK.2 G
 refine⟨b,?_,q,k b q r,λ_=>?_⟩
 · show upd e t1 _ t=_;rw[jS h3];exact p
 · show upd e t1 _ t1≠_
   rw[kh]
   intro E
   have:=ap.lt r
   injection E with E;injection E with E;injection E with E
   omega
def XS (hl:oA L a=some none)(hX:X (eN ls a) (upd e t (pT w.heap.size)) w')(hn:n0<=w.heap.size)(hb:ap w' w.heap.size ty z)(hne:ls a1=true->e t1≠pT w.heap.size)(h1:Nat.beq a1 a=false:=by rfl)(h3:Nat.beq t1 t=false:=by rfl):
 vR N ds (XK X n0 a1 t1 a t ty z) L ls e a (some t) .normal (act N (upd e t (pT w.heap.size)) ds) w':=by
 refine⟨rfl,_,(aw ..).symm,(λ_ _ h=>by rw[hl]at h;cases h),hX,λ_=>⟨w.heap.size,?_,hn,hb,λhb=>?_⟩⟩
 · show upd e t _ t=_;rw[kh]
 · rw[fk h1]at hb
   show upd e t _ t1≠_
   rw[jS h3];exact hne hb
def XH.new (hX:XH Rel n0 a1 t1 ty1 z1 ls e w)(h:Rel w')(k:aO w w')(hb:ap w' w.heap.size ty1 z1):XH Rel n0 a1 t1 ty1 z1 (eN ls a1) (upd e t1 (pT w.heap.size)) w':=
 ⟨h,qa8 hX.2.1 k.size,λ_=>⟨w.heap.size,kh ..,hX.2.1,hb⟩⟩
def XH.keep (hX:XH Rel n0 a1 t1 ty1 z1 ls e w)(h:Rel w')(k:aO w w')(h1:Nat.beq a1 i=false:=by rfl)(h3:Nat.beq t1 d=false:=by rfl):XH Rel n0 a1 t1 ty1 z1 (eN ls i) (upd e d v) w':=by
 refine⟨h,qa8 hX.2.1 k.size,λE=>?_⟩
 rw[fk h1]at E
 obtain⟨b,p,q,r⟩:=hX.2.2 E
 exact⟨b,by rw[jS h3];exact p,q,r.ext k⟩
def XH.ne (hX:XH Rel n0 a1 t1 ty1 z1 ls e w)(ha:ls a1=true):e t1≠pT w.heap.size:=by
 obtain⟨b,p,q,r⟩:=hX.2.2 ha
 rw[p]
 intro E
 have:=ap.lt r
 injection E with E;injection E with E;injection E with E
 omega
def LP (h1:v=pT b)(h2:v≠pT c):b≠c:=λh=>h2 (by rw[h1,h])
end
def Zy:prog.eqGuardType prog.depth 33=false:=by kernel_rfl
def XT:prog.stoodInHeld 33=false:=by kernel_rfl
def yJ (w:World)(cs:Array Value)(i:Nat)(v:Value)(h:cs[i]?=some v):(part 9 cs i).run prog w=.ok v w:=by
 unfold part
 simp[isAgg,run_underlying underlying9,h]
def XU (w:World)(a b:List UInt8)(d:Nat):(Op.equalIn (d+1) 9 (S a) (S b)).run prog w=.ok (decide (a=b)) w:=by
 unfold Op.equalIn
 simp[run_underlying underlying9,S]
 have h:∀x y:ByteArray,(x==y)=(x.data==y.data):=λx y=>by cases x;cases y;rfl
 rw[h]
 exact Bool.eq_iff_iff.2 Wf
def XV (w:World)(a b:R):(Op.equal 33 (.agg #[S a.1,S a.2]) (.agg #[S b.1,S b.2])).run prog w=.ok (decide (a=b)) w:=by
 unfold Op.equal Op.maxDepth
 show(Op.equalIn (9998+1+1) 33 _ _).run _ _=_
 unfold Op.equalIn
 obtain⟨a1,E⟩:=a
 obtain⟨b1,b2⟩:=b
 have H:=yJ w #[S a1,S E] 0 (S a1) Z
 have p2:=yJ w #[S a1,S E] 1 (S E) Z
 have p3:=yJ w #[S b1,S b2] 0 (S b1) Z
 have p4:=yJ w #[S b1,S b2] 1 (S b2) Z
 have G:=XU w a1 b1 9998
 have e2:=XU w E b2 9998
 simp[run_underlying underlying33,XT,H,p2,p3,p4,G,e2]
 by_cases h1:a1=b1 <;>by_cases h2:E=b2 <;>simp[h1,h2]
section
variable {r:Option Nat}{n N:Nat}{e:Nat->Value}{ds:List Deferred}{w:World}{Q:Exit->Act->World->Prop}{K:Act->World->Prop}
variable {ty:Nat}{pos:String}{af:Array Edge}{g:Option (Nat×Bool)}{u:Value}{x y:Operand}{t t':TypeId}
def LQ {op:BinOp}(x y:Operand)(a b:Array Value):(eqGuard op 33 x y (.agg a) (.agg b)).run prog w=.ok () w:=by
 unfold eqGuard
 cases op <;>simp[Zy]
def FC {a b:R}{q:Bool}(hx:ev N e x=.agg #[S a.1,S a.2])(hy:ev N e y=.agg #[S b.1,S b.2])(hq:decide (a=b)=q)(hk:K (act N (upd e d (.bool q)) ds) w):
 Oper.wpIn (Fw r) n prog ⟨some d,.binOp .eql 33 x y t',ty,pos,af,g⟩ (act N e ds) w K Q:=
 dE hx hy (LQ ..) (by subst hq;simp[binOp,XV]) hk
end
section
variable {P:Program}{r:Option Nat}{n N:Nat}{e:Nat->Value}{ds:List Deferred}{w:World}{Q:Exit->Act->World->Prop}{K:Act->World->Prop}
variable {ty:Nat}{pos:String}{af:Array Edge}{g:Option (Nat×Bool)}{u:Value}{x y:Operand}{t t':TypeId}
def u4 {fs:Array Field}{f:Field}{D:TypeDesc}(hu:P.underlying t=some (.struct fs))(hf:fs[k]?=some f)(ho:f.offset=off)(hft:f.type=ft)(hD:P.underlying ft=some D)(hd:D.isRow=false)(hx:ev N e x=.agg cs.toArray)(hv:cs[off]?=some v)(hk:K (act N (upd e d v) ds) w):Oper.wpIn (Fw r) n P ⟨some d,.field t x k,ty,pos,af,g⟩ (act N e ds) w K Q:=by
 subst ho hft
 refine cG (v:=v) (w':=w) Z ?_ MT
 have E:(isAgg f.type).run P w=.ok false w:=by
  unfold isAgg
  rw[Sem.run_bind,run_underlying hD w]
  cases D <;>simp_all
 have hv':cs.toArray[f.offset]?=some v:=by rw[List.getElem?_toArray];exact hv
 simp[execOp,hx,Instr.field,run_underlying hu,hf,asAgg,part,E,hv]
end
def PC (w:World)(a b c d:List UInt8):(part 33 #[S a,S b,S c,S d] 0).run prog w=.ok (.agg #[S a,S b]) w:=by
 unfold part
 simp[isAgg,run_underlying underlying33]
def PE (w:World)(a b c d:List UInt8):(part 33 #[S a,S b,S c,S d] 2).run prog w=.ok (.agg #[S c,S d]) w:=by
 unfold part
 simp[isAgg,run_underlying underlying33]
section
variable {r:Option Nat}{n N:Nat}{e:Nat->Value}{ds:List Deferred}{w:World}{Q:Exit->Act->World->Prop}{K:Act->World->Prop}
variable {ty:Nat}{pos:String}{af:Array Edge}{g:Option (Nat×Bool)}{u:Value}{x y z:Operand}{t t':TypeId}{G:R->R×R}{q:R}
def A4 {R:Value->World->Prop}{f:FuncId}{xs:Array Operand}{ats:Array TypeId}(hf:Enters prog f)(hx:ev N e x=.func (.func f) #[] lb.toArray)(hv:xs.toList.map (ev N e)=vs)(hc:CL f (vs++lb).toArray w (kj R))(hk:∀v w',R v w'->K (act N (upd e d v) ds) w'):Oper.wpIn (Fw r) n prog ⟨some d,.call {callee:=.value x,args:=xs,argTypes:=ats},ty,pos,af,g⟩ (act N e ds) w K Q:=by
 subst hv
 have h2:xs.map (ev N e)++lb.toArray=(xs.toList.map (ev N e)++lb).toArray:=by simp
 refine⟨λf _=>kw r f,?_⟩
 have hs:(execOp (ev N e) ⟨some d,.call {callee:=.value x,args:=xs,argTypes:=ats},ty,pos,af,g⟩).run prog w=.ok (.enter f (xs.map (ev N e)++lb.toArray)) w:=by
  simp[execOp,resolve,Deferred.ofValue,hx,invoke,hf _ _]
 rw[iQ Z,cM,hs]
 refine⟨(λh=>by rw[l5]at h;cases h),oG ((show CL f (xs.map (ev N e)++lb.toArray) w (kj R)from by rw[h2];exact hc).mono ?_)⟩
 intro e' w' h
 cases e' with
 | returned v=>
   show K ((act N e ds).put (some d) v) w'
   rw[aw];exact hk v w' h
 |panicked c=>exact h.elim
 |outgrown=>exact h.elim
def wY (hx:ev N e x=.agg #[S a,S b',S c',S d'])(hk:K (act N (upd e d (.agg #[S a,S b'])) ds) w):
 Oper.wpIn (Fw r) n prog ⟨some d,.field 144 x 0,ty,pos,af,g⟩ (act N e ds) w K Q:=by
 refine cG (v:=.agg #[S a,S b']) (w':=w) Z ?_ MT
 have p:=PC w a b' c' d'
 simp[execOp,Instr.field,hx,run_underlying underlying144,asAgg,p]
def Hh (hx:ev N e x=.agg #[S a,S b',S c',S d'])(hk:K (act N (upd e d (.agg #[S c',S d'])) ds) w):
 Oper.wpIn (Fw r) n prog ⟨some d,.field 144 x 1,ty,pos,af,g⟩ (act N e ds) w K Q:=by
 refine cG (v:=.agg #[S c',S d']) (w':=w) Z ?_ MT
 have p:=PE w a b' c' d'
 simp[execOp,Instr.field,hx,run_underlying underlying144,asAgg,p]
end
end Go.Proofs.YtlmihmlnpjkblaaGreatDoor
