/- Part of the proof of a statement about risks. -/
import Derived.Test.YthpinljhfnodeaaGreatDoorNmKToRi7
import Derived.Test.YthpinljhfnodeaaGreatDoorTie
import Derived.Test.YthpinljhfnodeaaGreatDoorCards
import Derived.ProofKit
import Derived.OpenShut
import Derived.LaidMore
import Derived.Lay
import Derived.SevenTiedAt
import Derived.Stop.Joined
import Derived.Deep.SlicePairs
import Derived.Deep.Frames
import Derived.Deep.Onto
import Derived.WideKeyArgs
import Derived.SizedLaws
set_option linter.all false
namespace Go.Proofs.YthpinljhfnodeaaGreatDoor
open Go Go.Eng Go.RowKit Proofs.Tryz
variable {hd q ng:Bool}{N D f c a d k n t T:Int}{xs X Y:List Nat}{l:List UInt8}{vs:List Value}{c1 pl u base i lo' m j n1 lo1:Nat}{sp:Nat->Bool}{A1 A A2:Option Addr}{w:World}
section
attribute [local irreducible] wpListIn Code.wpIn Oper.wpIn Exit.then Exit.inBlock Exit.noGoto
set_option maxHeartbeats 40000000
def nV {p:Prop}(h:p:=by kernel_rfl):p:=h
def lW :bF w w:=aa2 _
def XO:Q9 0 1:=⟨by decide,by decide,by decide⟩
def VS:Q9 1 1:=⟨by decide,by decide,by decide⟩
set_option maxRecDepth 100000 in
def CH {va vb sa sb la lb ha hb ma mb na nb ca1 cb1 ca2 cb2 z1 y1 z2 y2 a1 b1 c1 d1 a2 b2 c2 d2 ea eb fa fb:Int}{Gf:R->R×R}(h1:1<=pl)(h12:pl<=12)(qv:Q9 va vb)(qs:Q9 sa sb)(ql:Q9 la lb)(qh:Q9 ha hb)(hsh:∀q∈[qR va vb,qR sa sb,qR la lb,qR ha hb],ShR q)(hs0:0<sa)(hsp:decide (aG (0*sb) (sa*1)<0)=true)(hlh:decide (aG (la*hb) (ha*lb)<0)=true)(q1s:Q9 (la*vb-va*lb) (lb*vb))(q2s:Q9 (va*hb-ha*vb) (vb*hb))(hm1:qR ((la*vb-va*lb)*sb) (lb*vb*sa)=qR ma mb)(hm2:qR ((va*hb-ha*vb)*sb) (vb*hb*sa)=qR na nb)(qm1:Q9 ma mb)(qc1:Q9 ca1 cb1)(qz1:Q9 z1 y1)(hc1:eO 9 1 ma mb=qR ca1 cb1)(hz1:li (-9) 1 ca1 cb1=qR z1 y1)(qm2:Q9 na nb)(qc2:Q9 ca2 cb2)(qz2:Q9 z2 y2)(hc2:eO 9 1 na nb=qR ca2 cb2)(hz2:li (-9) 1 ca2 cb2=qR z2 y2)(hd1:∀W,Tb W->CL 69 #[.agg #[S (qR (dp z1 y1 (aa 6)) (aa 6)).1,S (qR (dp z1 y1 (aa 6)) (aa 6)).2],.int .i64 pl] W (aC W λv _=>v=.tuple #[.agg #[S ((Gf (qR (dp z1 y1 (aa 6)) (aa 6))).1.1),S ((Gf (qR (dp z1 y1 (aa 6)) (aa 6))).1.2),S ((Gf (qR (dp z1 y1 (aa 6)) (aa 6))).2.1),S ((Gf (qR (dp z1 y1 (aa 6)) (aa 6))).2.2)],.int .i64 0]))(hu1:∀W,Tb W->CL 69 #[.agg #[S (qR (dz z1 y1 (aa 6)) (aa 6)).1,S (qR (dz z1 y1 (aa 6)) (aa 6)).2],.int .i64 pl] W (aC W λv _=>v=.tuple #[.agg #[S ((Gf (qR (dz z1 y1 (aa 6)) (aa 6))).1.1),S ((Gf (qR (dz z1 y1 (aa 6)) (aa 6))).1.2),S ((Gf (qR (dz z1 y1 (aa 6)) (aa 6))).2.1),S ((Gf (qR (dz z1 y1 (aa 6)) (aa 6))).2.2)],.int .i64 0]))(hd2:∀W,Tb W->CL 69 #[.agg #[S (qR (dp z2 y2 (aa 6)) (aa 6)).1,S (qR (dp z2 y2 (aa 6)) (aa 6)).2],.int .i64 pl] W (aC W λv _=>v=.tuple #[.agg #[S ((Gf (qR (dp z2 y2 (aa 6)) (aa 6))).1.1),S ((Gf (qR (dp z2 y2 (aa 6)) (aa 6))).1.2),S ((Gf (qR (dp z2 y2 (aa 6)) (aa 6))).2.1),S ((Gf (qR (dp z2 y2 (aa 6)) (aa 6))).2.2)],.int .i64 0]))(hu2:∀W,Tb W->CL 69 #[.agg #[S (qR (dz z2 y2 (aa 6)) (aa 6)).1,S (qR (dz z2 y2 (aa 6)) (aa 6)).2],.int .i64 pl] W (aC W λv _=>v=.tuple #[.agg #[S ((Gf (qR (dz z2 y2 (aa 6)) (aa 6))).1.1),S ((Gf (qR (dz z2 y2 (aa 6)) (aa 6))).1.2),S ((Gf (qR (dz z2 y2 (aa 6)) (aa 6))).2.1),S ((Gf (qR (dz z2 y2 (aa 6)) (aa 6))).2.2)],.int .i64 0]))(hi1:y7 ((Gf (qR (dp z1 y1 (aa 6)) (aa 6))).1,(Gf (qR (dz z1 y1 (aa 6)) (aa 6))).2))(hi2:y7 ((Gf (qR (dp z2 y2 (aa 6)) (aa 6))).1,(Gf (qR (dz z2 y2 (aa 6)) (aa 6))).2))(g1:(Gf (qR (dp z1 y1 (aa 6)) (aa 6))).1=qR a1 b1)(g2:(Gf (qR (dz z1 y1 (aa 6)) (aa 6))).2=qR c1 d1)(k1:Q9 a1 b1)(k2:Q9 c1 d1)(g3:(Gf (qR (dp z2 y2 (aa 6)) (aa 6))).1=qR a2 b2)(g4:(Gf (qR (dz z2 y2 (aa 6)) (aa 6))).2=qR c2 d2)(k3:Q9 a2 b2)(k4:Q9 c2 d2)(he:qR (a1*b2+a2*b1) (b1*b2)=qR ea eb)(hf:qR (c1*d2+c2*d1) (d1*d2)=qR fa fb)(qe:Q9 ea eb)(qf:Q9 fa fb)(ht:Tb w):
 CL 14 #[.agg #[S (qR va vb).1,S (qR va vb).2],.agg #[S (qR sa sb).1,S (qR sa sb).2],.agg #[S (qR la lb).1,S (qR la lb).2],.agg #[S (qR ha hb).1,S (qR ha hb).2],.int .i64 pl] w (aC w λv w'=>v=.tuple #[.agg #[S ((eO 1 1 ea eb).1),S ((eO 1 1 ea eb).2),S ((eO 1 1 fa fb).1),S ((eO 1 1 fa fb).2)],.int .i64 0]):=by
 refine Ag func14 Z (I ?_);refine bx (λf3 j3 Aw=>?_);have O:=j3.2;refine bx (λhF i5 Ax=>?_);have⟨Aw,O⟩:=bD i5.2 Aw O;refine bx (λl4 kd E0=>?_);have⟨Aw,Ax,O⟩:=bC kd.2 Aw Ax O;refine bx (λZM hT E1=>?_);have⟨Aw,Ax,E0,O⟩:=bW hT.2 Aw Ax E0 O;refine al ap (λa3 fu ny=>?_);have⟨Aw,Ax,E0,E1,O⟩:=eE fu.2 Aw Ax E0 E1 O;refine al lT (λ_ lm od=>?_);have⟨Aw,Ax,E0,E1,ny,O⟩:=kW lm.2 Aw Ax E0 E1 ny O;refine I ?_;refine cl lB (gD h1 h12) ?_;rintro _ cT bq rfl;have⟨Aw,Ax,E0,E1,ny⟩:=dY bq.2 Aw Ax E0 E1 ny;have⟨od,O⟩:=bD bq.2 od O;refine I ?_;refine ac (ej (vs:=[(0,.agg #[S (qR va vb).1,S (qR va vb).2]),(1,.agg #[S (qR sa sb).1,S (qR sa sb).2]),(2,.agg #[S (qR la lb).1,S (qR la lb).2]),(3,.agg #[S (qR ha hb).1,S (qR ha hb).2])]) (cells:=#[S (qR va vb).1,S (qR va vb).2,S (qR sa sb).1,S (qR sa sb).2,S (qR la lb).1,S (qR la lb).2,S (qR ha hb).1,S (qR ha hb).2]) kS aQ Z dc dc nV Z dc (λ_ bd _ Ix=>?_));have⟨Aw,Ax,E0,E1,ny⟩:=dY bd Aw Ax E0 E1 ny;have⟨od,O⟩:=bD bd od O;refine I ?_;refine clb BP (hc:=r7 (n:=4) (l:=[qR va vb,qR sa sb,qR la lb,qR ha hb]) (aa4 Ix) Z dc hsh (ht.ext O)) (hk:=?_);rintro _ _ Z1 rfl;have⟨Aw,Ax,E0,E1,ny⟩:=dY Z1.2 Aw Ax E0 E1 ny;have od:=be Z1.2 od;have Ix:=aX Z1.2 Ix;have O:=xt O Z1.2;refine I ?_
 refine clb ol (hc:=fM (Y:=.bool true) (iL (a:=0) (b:=1) (c:=sa) (d:=sb) XO qs (ht.ext O)) (by rw[hsp])) (hk:=?_);rintro _ _ ZE rfl;have⟨Aw,Ax,E0,E1,ny⟩:=dY ZE.2 Aw Ax E0 E1 ny;have od:=be ZE.2 od;have Ix:=aX ZE.2 Ix;have O:=xt O ZE.2;refine I ?_;refine clb ol (hc:=fM (Y:=.bool true) (iL (a:=la) (b:=lb) (c:=ha) (d:=hb) ql qh (ht.ext O)) (by rw[hlh])) (hk:=?_);rintro _ _ Z2 rfl;have⟨Aw,Ax,E0,E1,ny⟩:=dY Z2.2 Aw Ax E0 E1 ny;have od:=be Z2.2 od;have Ix:=aX Z2.2 Ix;have O:=xt O Z2.2;refine I ?_;refine ac (pK Z Z ?_);refine I ?_;have d4:=bt Aw;have bH:=bt Ax;have dn:=bt E0;have an:=bt E1;have b7:=bt ny;have d5:=bt od;refine ac (uo (vs:=[.int .i64 pl]) (lb:=[]) xw Z Z (uW (Gf:=Gf) (ht.ext O)) ?_);rintro _ S1 ZI ⟨tb_,tm_,tp_,tn_,tf_,rfl,K2⟩;have⟨Aw,Ax,E0,E1,ny⟩:=dY ZI.2 Aw Ax E0 E1 ny;have od:=be ZI.2 od;have Ix:=aX ZI.2 Ix;have O:=xt O ZI.2;have Thm:=K2.hm;have zThm:=bt Thm;have nThm:=jb.ne K2.mp Thm;have Thp:=K2.hp;have zThp:=bt Thp;have nThp:=jb.ne K2.mp Thp;have Thn:=K2.hn;have zThn:=bt Thn;have nThn:=jb.ne K2.mp Thn;have Thf:=K2.hf;have zThf:=bt Thf;have nThf:=jb.ne K2.mp Thf;have Tmp:=K2.mp;have Tlo:=K2.lo;have zTm:=jb.lt Tmp;refine al sL (λ_ TT en=>?_);have⟨Aw,Ax,E0,E1,ny⟩:=dY TT.2 Aw Ax E0 E1 ny;have od:=be TT.2 od
 have Ix:=aX TT.2 Ix;have⟨Thm,Thp,Thn,Thf⟩:=DW TT.2 Thm Thp Thn Thf;have Tmp:=ab0 TT.2 Tmp;have O:=xt O TT.2;refine ac (bg (b:=S1.heap.size) (o:=0) (vs:=[.int .i64 pl,.func (.func 70) #[] #[pT tn_,pT tf_]]) xn Z Z MT en (qa3 Z) (λW0 R1 Kp=>?_));have⟨Aw,Ax,E0,E1,ny⟩:=jv R1 Aw Ax E0 E1 ny;have od:=pb R1 od;have Ix:=g9 R1 CA Ix;have⟨Thm,Thp,Thn,Thf⟩:=wm R1 Thm Thp Thn Thf;have Tmp:=ac0 R1 U Tmp;have O:=bB R1 O;have mt:=mC R1;refine I ?_
 refine kJ g8 19 [13,41,42,43,44,45,46,47,48,49,50,51,52,53,54,55,56,57,58] [some (41,.pointer (some ⟨S1.heap.size,1,none⟩)),some (42,.func (.func 70) #[] #[pT tn_,pT tf_]),some (43,.agg #[S (qR la lb).1,S (qR la lb).2]),some (44,.agg #[S (qR va vb).1,S (qR va vb).2]),some (45,.agg #[S (qR sa sb).1,S (qR sa sb).2]),some (46,.agg #[S (qR ma mb).1,S (qR ma mb).2]),some (47,.agg #[S ((Gf (qR (dp z1 y1 (aa 6)) (aa 6))).1.1),S ((Gf (qR (dp z1 y1 (aa 6)) (aa 6))).1.2),S ((Gf (qR (dz z1 y1 (aa 6)) (aa 6))).2.1),S ((Gf (qR (dz z1 y1 (aa 6)) (aa 6))).2.2)]),some (48,.pointer (some ⟨S1.heap.size,1,none⟩)),some (49,.func (.func 70) #[] #[pT tn_,pT tf_]),some (50,.agg #[S (qR va vb).1,S (qR va vb).2]),some (51,.agg #[S (qR ha hb).1,S (qR ha hb).2]),some (52,.agg #[S (qR sa sb).1,S (qR sa sb).2]),some (53,.agg #[S (qR na nb).1,S (qR na nb).2]),some (54,.agg #[S ((Gf (qR (dp z2 y2 (aa 6)) (aa 6))).1.1),S ((Gf (qR (dp z2 y2 (aa 6)) (aa 6))).1.2),S ((Gf (qR (dz z2 y2 (aa 6)) (aa 6))).2.1),S ((Gf (qR (dz z2 y2 (aa 6)) (aa 6))).2.2)]),some (55,.tuple #[.agg #[S (qR ea eb).1,S (qR ea eb).2,S (qR fa fb).1,S (qR fa fb).2],.int .i64 0]),some (56,.agg #[S (qR ea eb).1,S (qR ea eb).2,S (qR fa fb).1,S (qR fa fb).2]),some (57,.int .i64 0),some (58,.agg #[S (qR ea eb).1,S (qR ea eb).2,S (qR fa fb).1,S (qR fa fb).2]),none] (XH (λW=>W0.grownBy W (some tb_)/\jb W tb_ (vV Gf)) W0.heap.size 18 13 33 #[S [],S [],S [],S []]) (XH.start ⟨aS (World.grownBy.refl W0 _) (aa8 W0),ab0 (aa8 W0) Tmp⟩) nV nV nV ?_ ?_
 refine⟨λe2 _ _ lq _ b9 _ _ _=>?_,?_⟩;obtain⟨e2,rfl⟩:=aT lq;refine ac (ak (b:=S1.heap.size) (o:=0) (off:=1) (oo:=1) rJ Z Z oi Z Z ?_);refine I ?_;exact c7 Z b9 b9.1 lW;refine⟨λhQ _ _ mm i4 ZW _ _ _=>?_,?_⟩;obtain⟨hQ,rfl⟩:=aT mm;have o0:=ba (i4 0 _ _ Z Z);have nv:=(aa0 ZW.1.1 Hx Kp);refine I ?_;exact c7 Z ZW ZW.1 lW;refine⟨λh8 _ _ e5 _ a6 _ _ _=>?_,?_⟩;obtain⟨h8,rfl⟩:=aT e5;have pH:=(aa0 a6.1.1 Hx E0);refine I ?_;exact c7 Z a6 a6.1 lW;refine⟨λe7 _ _ k6 _ Zz _ _ _=>?_,?_⟩;obtain⟨e7,rfl⟩:=aT k6;have p5:=(aa0 Zz.1.1 Hx Aw);refine I ?_;exact c7 Z Zz Zz.1 lW;refine⟨λhN _ _ kl _ aL _ _ _=>?_,?_⟩;obtain⟨hN,rfl⟩:=aT kl;have oa:=(aa0 aL.1.1 Hx Ax);refine I ?_;exact c7 Z aL aL.1 lW;refine⟨λf4 _ _ hG ZX ZC _ _ _=>?_,?_⟩;obtain⟨f4,rfl⟩:=aT hG;have fD:=ba (ZX 2 _ _ Z Z);have m0:=ba (ZX 3 _ _ Z Z);have f5:=ba (ZX 4 _ _ Z Z);have j1:=cI O ZC.1.1 (bz O) (λg EP=>by cases EP;omega)
 refine clb xx (hc:=fM (Y:=.agg #[S (qR ma mb).1,S (qR ma mb).2]) (ni ql qv qs q1s hs0 (ht.ext j1)) (by rw[hm1])) (hk:=?_) (hv:=ai fD (ai m0 (ai f5 Z)));rintro _ _ aB rfl;refine I ?_;exact c7 Z ZC ⟨aS ZC.1.1 aB.2,ab0 aB.2 ZC.1.2⟩ aB.2;refine⟨λk8 _ _ f2 bc F8 _ _ _=>?_,?_⟩;obtain⟨k8,rfl⟩:=aT f2;have f7:=ba (bc 1 _ _ Z Z);have f6:=ba (bc 5 _ _ Z Z);have Aw:=(aa0 F8.1.1 Hx Aw);have Ax:=(aa0 F8.1.1 Hx Ax);have E0:=(aa0 F8.1.1 Hx E0);have E1:=(aa0 F8.1.1 Hx E1);have ny:=(aa0 F8.1.1 Hx ny);have od:=(aa0 F8.1.1 Hx od);have Thm:=(aa0 F8.1.1 Hx Thm);have Thp:=(aa0 F8.1.1 Hx Thp);have Thn:=(aa0 F8.1.1 Hx Thn);have Thf:=(aa0 F8.1.1 Hx Thf);have Kp:=(aa0 F8.1.1 Hx Kp);have Tmp:=F8.1.2;have d4:=bt Aw;have bH:=bt Ax;have dn:=bt E0;have an:=bt E1;have b7:=bt ny;have d5:=bt od;have zlThm:=bt Thm;have zlThp:=bt Thp;have zlThn:=bt Thn;have zlThf:=bt Thf;have fN:=bt Kp;have m3:=cI O F8.1.1 (bz O) (λg EP=>by cases EP;omega);refine ac (jc (vs:=[.agg #[S (qR ma mb).1,S (qR ma mb).2]]) (lb:=[pT tn_,pT tf_]) qK f7 (ai f6 Z) (rl qm1 qc1 qz1 hc1 hz1 Thm Thp Thn Thf Tmp hd1 hu1 (ht.ext m3)) ?_)
 rintro _ _ ⟨d3,h6,rfl⟩;refine I ?_;exact JR Z F8 ⟨aY F8.1.1 d3,h6⟩ d3 (λg EP=>by cases EP;omega);refine⟨λkz _ _ m4 _ bf _ _ _=>?_,?_⟩;obtain⟨kz,rfl⟩:=aT m4;refine ac (ak (b:=S1.heap.size) (o:=0) (off:=1) (oo:=1) rJ Z Z oi Z Z ?_);refine I ?_;exact c7 Z bf bf.1 lW;refine⟨λhL _ _ k9 hg ZV _ _ _=>?_,?_⟩;obtain⟨hL,rfl⟩:=aT k9;have ns:=ba (hg 7 _ _ Z Z);have pD:=(aa0 ZV.1.1 Hx Kp);refine I ?_;exact c7 Z ZV ZV.1 lW;refine⟨λih _ _ h7 _ ZQ _ _ _=>?_,?_⟩;obtain⟨ih,rfl⟩:=aT h7;have mx:=(aa0 ZQ.1.1 Hx Aw);refine I ?_;exact c7 Z ZQ ZQ.1 lW;refine⟨λhj _ _ e6 _ Zx _ _ _=>?_,?_⟩;obtain⟨hj,rfl⟩:=aT e6;have np:=(aa0 Zx.1.1 Hx E1);refine I ?_;exact c7 Z Zx Zx.1 lW;refine⟨λhI _ _ kL _ ZR _ _ _=>?_,?_⟩;obtain⟨hI,rfl⟩:=aT kL;have nm:=(aa0 ZR.1.1 Hx Ax);refine I ?_;exact c7 Z ZR ZR.1 lW;refine⟨λdq _ _ ft ZY ZF _ _ _=>?_,?_⟩;obtain⟨dq,rfl⟩:=aT ft;have kH:=ba (ZY 9 _ _ Z Z);have e4:=ba (ZY 10 _ _ Z Z);have fy:=ba (ZY 11 _ _ Z Z);have l5:=cI O ZF.1.1 (bz O) (λg EP=>by cases EP;omega)
 refine clb xx (hc:=fM (Y:=.agg #[S (qR na nb).1,S (qR na nb).2]) (ni qv qh qs q2s hs0 (ht.ext l5)) (by rw[hm2])) (hk:=?_) (hv:=ai kH (ai e4 (ai fy Z)));rintro _ _ ZO rfl;refine I ?_;exact c7 Z ZF ⟨aS ZF.1.1 ZO.2,ab0 ZO.2 ZF.1.2⟩ ZO.2;refine⟨λhW _ _ hM c8 G3 _ _ _=>?_,?_⟩;obtain⟨hW,rfl⟩:=aT hM;have h5:=ba (c8 8 _ _ Z Z);have gs:=ba (c8 12 _ _ Z Z);have Aw:=(aa0 G3.1.1 Hx Aw);have Ax:=(aa0 G3.1.1 Hx Ax);have E0:=(aa0 G3.1.1 Hx E0);have E1:=(aa0 G3.1.1 Hx E1);have ny:=(aa0 G3.1.1 Hx ny);have od:=(aa0 G3.1.1 Hx od);have Thm:=(aa0 G3.1.1 Hx Thm);have Thp:=(aa0 G3.1.1 Hx Thp);have Thn:=(aa0 G3.1.1 Hx Thn);have Thf:=(aa0 G3.1.1 Hx Thf);have Kp:=(aa0 G3.1.1 Hx Kp);have Tmp:=G3.1.2;have d4:=bt Aw;have bH:=bt Ax;have dn:=bt E0;have an:=bt E1;have b7:=bt ny;have d5:=bt od;have zlThm:=bt Thm;have zlThp:=bt Thp;have zlThn:=bt Thn;have zlThf:=bt Thf;have fN:=bt Kp;have hA:=cI O G3.1.1 (bz O) (λg EP=>by cases EP;omega);refine ac (jc (vs:=[.agg #[S (qR na nb).1,S (qR na nb).2]]) (lb:=[pT tn_,pT tf_]) qK h5 (ai gs Z) (rl qm2 qc2 qz2 hc2 hz2 Thm Thp Thn Thf Tmp hd2 hu2 (ht.ext hA)) ?_)
 rintro _ _ ⟨cm,fi,rfl⟩;refine I ?_;exact JR Z G3 ⟨aY G3.1.1 cm,fi⟩ cm (λg EP=>by cases EP;omega);refine⟨λfm _ _ f0 co Z7 _ _ _=>?_,?_⟩;obtain⟨fm,rfl⟩:=aT f0;have gp:=ba (co 6 _ _ Z Z);have hw:=ba (co 13 _ _ Z Z);have et:=cI O Z7.1.1 (bz O) (λg EP=>by cases EP;omega);refine clb Hz (hc:=fM (Y:=.tuple #[.agg #[S (qR ea eb).1,S (qR ea eb).2,S (qR fa fb).1,S (qR fa fb).2],.int .i64 0]) (wJ (x:=((Gf (qR (dp z1 y1 (aa 6)) (aa 6))).1,(Gf (qR (dz z1 y1 (aa 6)) (aa 6))).2)) (y:=((Gf (qR (dp z2 y2 (aa 6)) (aa 6))).1,(Gf (qR (dz z2 y2 (aa 6)) (aa 6))).2)) hi1 hi2 g1 g2 k1 k2 g3 g4 k3 k4 (ht.ext et)) (by rw[he,hf])) (hk:=?_) (hv:=ai gp (ai hw Z));rintro _ _ a5 rfl;refine I ?_;exact c7 Z Z7 ⟨aS Z7.1.1 a5.2,ab0 a5.2 Z7.1.2⟩ a5.2;refine⟨λi2 _ _ md at2 cx _ _ _=>?_,?_⟩;obtain⟨i2,rfl⟩:=aT md;have at3:=ba (at2 14 _ _ Z Z);refine I ?_;exact c7 Z cx cx.1 lW;refine⟨λat4 _ _ hz k0 ca _ _ _=>?_,?_⟩;obtain⟨at4,rfl⟩:=aT hz;have oq:=ba (k0 14 _ _ Z Z);refine I ?_;exact c7 Z ca ca.1 lW;refine⟨λfT _ _ m2 bT Zt _ _ _=>?_,?_⟩;obtain⟨fT,rfl⟩:=aT m2;have at8:=ba (bT 15 _ _ Z Z);have at9:=ba (bT 16 _ _ Z Z)
 refine cl tT (mU (x:=(qR ea eb,qR fa fb))) ?_ (ai at8 (ai at9 Z));rintro _ _ Zo rfl;refine I ?_;exact c7 Z Zt ⟨aS Zt.1.1 Zo.2,ab0 Zo.2 Zt.1.2⟩ Zo.2;refine⟨λl3 _ _ k5 _ ZD _ _ _=>?_,?_⟩;obtain⟨l3,rfl⟩:=aT k5;have nd:=cI O ZD.1.1 (bz O) (λg EP=>by cases EP;omega);refine al ap (λ_ a7 mn=>I ?_);exact Sl Z ZD ⟨aS ZD.1.1 a7.2,ab0 a7.2 ZD.1.2⟩ a7.2 mn;exact trivial;intro ct _ _ i0 hR hH G4;obtain⟨ct,rfl⟩:=aT hR;have Zq:=(aa0 G4.1.1 Hx Aw);have a8:=(aa0 G4.1.1 Hx Ax);have ZZ:=(aa0 G4.1.1 Hx E0);have Zw:=(aa0 G4.1.1 Hx E1);have Zr:=(aa0 G4.1.1 Hx ny);have aH:=(aa0 G4.1.1 Hx od);have Zs:=(PP G4.1.1 CA Ix);have ZL:=(aa0 G4.1.1 Hx Thm);have ab:=(aa0 G4.1.1 Hx Thp);have a9:=(aa0 G4.1.1 Hx Thn);have Zm:=(aa0 G4.1.1 Hx Thf);have ZN:=G4.1.2;have Zn:=(aa0 G4.1.1 Hx Kp);have qr:=cI O G4.1.1 (bz O) (λg EP=>by cases EP;omega);obtain⟨T3,ZP,_,e3⟩:=G4.2.2 (i0 18 Z);have ZP:=ba ZP;have oj:ct 13=pT T3:=(ZP);have nq:=ba (hH 17 _ _ Z Z);refine SA e3 (λZl No i3=>?_)
 have⟨Zq,a8,ZZ,Zw,Zr⟩:=jv No Zq a8 ZZ Zw Zr;have aH:=pb No aH;have Zs:=g9 No CA Zs;have⟨ZL,ab,a9,Zm⟩:=wm No ZL ab a9 Zm;have ZN:=ac0 No U ZN;have Zn:=pb No Zn;have qr:=bB No qr;refine I ?_;have F2:=aa8 Zl
 refine uh g8 8 (λe0 ls e W=>∃E9:Nat,(∀t,y9 [59,60,61,62,63,64,65,66] t=false->e t=e0 t)/\(bF w W)/\(Zl.heap.size<=W.heap.size)/\(ls 0=true->e 59=.agg #[S (qR 1 1).1,S (qR 1 1).2])/\(ls 1=true->e 60=pT T3)/\(ls 2=true->e 61=.agg #[S (qR ea eb).1,S (qR ea eb).2])/\(ls 3=true->e 62=.slice (some ⟨E9,0,none⟩) 2 2)/\(ls 4=true->e 63=.agg #[S ((eO 1 1 ea eb).1),S ((eO 1 1 ea eb).2)])/\(ls 5=true->e 64=.agg #[S (qR 1 1).1,S (qR 1 1).2])/\(ls 6=true->e 65=.pointer (some ⟨T3,2,none⟩))/\(ls 7=true->e 66=.agg #[S (qR fa fb).1,S (qR fa fb).2])/\(ls 3=true->Zl.heap.size<=E9)/\(au W w.heap.size 25 #[S (qR va vb).1,S (qR va vb).2])/\(au W f3.heap.size 25 #[S (qR sa sb).1,S (qR sa sb).2])/\(au W hF.heap.size 25 #[S (qR la lb).1,S (qR la lb).2])/\(au W l4.heap.size 25 #[S (qR ha hb).1,S (qR ha hb).2])/\(au W ZM.heap.size 33 #[S [],S [],S [],S []])/\(au W a3.heap.size 34 #[.int .i64 0])/\(World.ownsRow W cT.heap.size 25 2 (.slice (some ⟨cT.heap.size,0,none⟩) 4 4) 4 [S (qR va vb).1,S (qR va vb).2,S (qR sa sb).1,S (qR sa sb).2,S (qR la lb).1,S (qR la lb).2,S (qR ha hb).1,S (qR ha hb).2])/\(au W tm_ 89 #[.map (some tb_)])/\(au W tp_ 3 #[.int .i64 pl])/\(au W tn_ 25 #[S (qR 9 1).1,S (qR 9 1).2])/\(au W tf_ 57 #[.func (.func 68) #[] #[pT tm_,pT tp_]])/\(jb W tb_ (vV Gf))/\(au W S1.heap.size 59 #[.int .i64 pl,.func (.func 70) #[] #[pT tn_,pT tf_]])/\(au W T3 33 #[S (qR ea eb).1,S (qR ea eb).2,S (qR fa fb).1,S (qR fa fb).2])/\(ls 3=true->World.ownsRow W E9 25 2 (.slice (some ⟨E9,0,none⟩) 2 2) 2 [S (qR 1 1).1,S (qR 1 1).2,S (qR ea eb).1,S (qR ea eb).2])) ⟨0,(λ_ _=>rfl),(xt qr F2),(bz F2),(ff Z),(ff Z),(ff Z),(ff Z),(ff Z),(ff Z),(ff Z),(ff Z),(ff Z),(be F2 Zq),(be F2 a8),(be F2 ZZ),(be F2 Zw),(be F2 Zr),(be F2 aH),(aX F2 Zs),(be F2 ZL),(be F2 ab),(be F2 a9),(be F2 Zm),(ab0 F2 ZN),(be F2 Zn),(be F2 i3),(λh=>ff Z h)⟩ nV nV ?_ ?_
 refine⟨λer _ dd kZ cr bn _=>?_,?_⟩;obtain⟨E9,cw,qr,Ne,F6,EW,F1,F3,F4,F5,F7,Ek,EE,Ap,Ar,Ab,Af,Ay,Av,E7,Ao,Am,As,Ad,E4,qn,Aq,Jx⟩:=kZ;obtain⟨er,rfl⟩:=aT cw;have hX:dd 3=false:=(js cr (i:=0) (j:=3) Z bn);have pe:dd 4=false:=(js cr (i:=0) (j:=4) Z bn);have W3:=bt Ap;have W2:=bt Ar;have ZJ:=bt Ab;have ZG:=bt Af;have Z0:=bt Ay;have Z5:=bt Av;have ZK:=bt Ao;have X2:=bt Am;have ZB:=bt As;have ZA:=bt Ad;have Z8:=bt qn;have Wb:=bt Aq;refine clb gQ (hc:=eA (n:=1) Rg (ht.ext qr)) (hk:=?_);rintro _ _ T2 rfl;have⟨Ap,Ar,Ab,Af,Ay⟩:=dY T2.2 Ap Ar Ab Af Ay;have Av:=be T2.2 Av;have E7:=aX T2.2 E7;have⟨Ao,Am,As,Ad⟩:=DW T2.2 Ao Am As Ad;have E4:=ab0 T2.2 E4;have⟨qn,Aq,qr⟩:=bC T2.2 qn Aq qr;refine I ?_;exact⟨rfl,_,(aw _ _ _ _ _).symm,E9,(bv Z cw),qr,U,(λ_=>rfl),EW,F1,F3,F4,F5,F7,Ek,EE,(Ap),(Ar),(Ab),(Af),(Ay),(Av),(E7),(Ao),(Am),(As),(Ad),(E4),(qn),(Aq),(λga=>ff hX ga)⟩;refine⟨λeg _ Zu fl a4 hh _=>?_,?_⟩;obtain⟨E9,ask,qr,Ne,F6,EW,F1,F3,F4,F5,F7,Ek,EE,Ap,Ar,Ab,Af,Ay,Av,E7,Ao,Am,As,Ad,E4,qn,Aq,Jx⟩:=fl;obtain⟨eg,rfl⟩:=aT ask;have m1:Zu 2=false:=(js a4 (i:=1) (j:=2) Z hh);have bL:Zu 3=false:=(js a4 (i:=2) (j:=3) Z m1)
 have p6:Zu 4=false:=(js a4 (i:=3) (j:=4) Z bL);refine I ?_;exact⟨rfl,_,(aw _ _ _ _ _).symm,E9,(bv Z ask),qr,U,F6,(λ_=>rfl),F1,F3,F4,F5,F7,Ek,EE,(Ap),(Ar),(Ab),(Af),(Ay),(Av),(E7),(Ao),(Am),(As),(Ad),(E4),(qn),(Aq),(λhD=>ff bL hD)⟩;refine⟨λc9 _ Zy kF cb hE gb=>?_,?_⟩;obtain⟨E9,d0,qr,Ne,F6,EW,F1,F3,F4,F5,F7,Ek,EE,Ap,Ar,Ab,Af,Ay,Av,E7,Ao,Am,As,Ad,E4,qn,Aq,Jx⟩:=kF;obtain⟨c9,rfl⟩:=aT d0;have kc:Zy 1=true:=(gb 1 Z);have d6:Zy 3=false:=(js cb (i:=2) (j:=3) Z hE);have p0:Zy 4=false:=(js cb (i:=3) (j:=4) Z d6);have nr:c9 60=pT T3:=EW kc;refine I ?_;exact⟨rfl,_,(aw _ _ _ _ _).symm,E9,(bv Z d0),qr,U,F6,EW,(λ_=>rfl),F3,F4,F5,F7,Ek,EE,(Ap),(Ar),(Ab),(Af),(Ay),(Av),(E7),(Ao),(Am),(As),(Ad),(E4),(qn),(Aq),(λkk=>ff d6 kk)⟩;refine⟨λa0 h9 ZU gn arr i9 cq=>?_,?_⟩;obtain⟨E9,cd,qr,Ne,F6,EW,F1,F3,F4,F5,F7,Ek,EE,Ap,Ar,Ab,Af,Ay,Av,E7,Ao,Am,As,Ad,E4,qn,Aq,Jx⟩:=gn;obtain⟨a0,rfl⟩:=aT cd;have hY:ZU 2=true:=(cq 2 Z);have lr:ZU 0=true:=(cq 0 Z);have pc:ZU 4=false:=(js arr (i:=3) (j:=4) Z i9);have i1:a0 59=.agg #[S (qR 1 1).1,S (qR 1 1).2]:=F6 lr;have hZ:a0 61=.agg #[S (qR ea eb).1,S (qR ea eb).2]:=F1 hY
 have W3:=bt Ap;have W2:=bt Ar;have ZJ:=bt Ab;have ZG:=bt Af;have Z0:=bt Ay;have Z5:=bt Av;have ZK:=bt Ao;have X2:=bt Am;have ZB:=bt As;have ZA:=bt Ad;have Z8:=bt qn;have Wb:=bt Aq;refine ac (ej (vs:=[(0,.agg #[S (qR 1 1).1,S (qR 1 1).2]),(1,.agg #[S (qR ea eb).1,S (qR ea eb).2])]) (cells:=#[S (qR 1 1).1,S (qR 1 1).2,S (qR ea eb).1,S (qR ea eb).2]) kS aQ (aK i1 (aK hZ Z)) dc dc nV Z dc (λ_ T4 _ f9=>?_));have⟨Ap,Ar,Ab,Af,Ay⟩:=dY T4 Ap Ar Ab Af Ay;have Av:=be T4 Av;have E7:=aX T4 E7;have⟨Ao,Am,As,Ad⟩:=DW T4 Ao Am As Ad;have E4:=ab0 T4 E4;have⟨qn,Aq,qr⟩:=bC T4 qn Aq qr;refine I ?_;exact⟨rfl,_,(aw _ _ _ _ _).symm,h9.heap.size,(bv Z cd),qr,U,F6,EW,F1,(λ_=>rfl),F4,F5,F7,Ek,(λ_=>U),(Ap),(Ar),(Ab),(Af),(Ay),(Av),(E7),(Ao),(Am),(As),(Ad),(E4),(qn),(Aq),(λ_=>f9)⟩;refine⟨λbm _ b6 fx mq _ kC=>?_,?_⟩;obtain⟨E9,bp,qr,Ne,F6,EW,F1,F3,F4,F5,F7,Ek,EE,Ap,Ar,Ab,Af,Ay,Av,E7,Ao,Am,As,Ad,E4,qn,Aq,Jx⟩:=fx;obtain⟨bm,rfl⟩:=aT bp;have Wa:b6 3=true:=(kC 3 Z);have pL:b6 2=true:=(mq 3 2 Z Wa);have j2:bm 62=.slice (some ⟨E9,0,none⟩) 2 (2):=F3 Wa;have cf:=EE Wa;have W3:=bt Ap;have W2:=bt Ar;have ZJ:=bt Ab;have ZG:=bt Af;have Z0:=bt Ay;have Z5:=bt Av;have ZK:=bt Ao
 have X2:=bt Am;have ZB:=bt As;have ZA:=bt Ad;have Z8:=bt qn;have Wb:=bt Aq;have Z6:=Jx Wa;refine cl qJ (lj (a:=1) (b:=1) (c:=ea) (d:=eb) (aa4 Z6) VS qe (ht.ext qr)) ?_ (ai j2 Z);rintro _ _ L2 rfl;have⟨Ap,Ar,Ab,Af,Ay⟩:=dY L2.2 Ap Ar Ab Af Ay;have Av:=be L2.2 Av;have E7:=aX L2.2 E7;have⟨Ao,Am,As,Ad⟩:=DW L2.2 Ao Am As Ad;have E4:=ab0 L2.2 E4;have⟨qn,Aq⟩:=jk L2.2 qn Aq;have Z6:=aX L2.2 Z6;have qr:=xt qr L2.2;refine I ?_;exact⟨rfl,_,(aw _ _ _ _ _).symm,E9,(bv Z bp),qr,U,F6,EW,F1,F3,(λ_=>rfl),F5,F7,Ek,EE,(Ap),(Ar),(Ab),(Af),(Ay),(Av),(E7),(Ao),(Am),(As),(Ad),(E4),(qn),(Aq),(λ_=>Z6)⟩;refine⟨λlp _ Zv g0 ch _ hU=>?_,?_⟩;obtain⟨E9,ad,qr,Ne,F6,EW,F1,F3,F4,F5,F7,Ek,EE,Ap,Ar,Ab,Af,Ay,Av,E7,Ao,Am,As,Ad,E4,qn,Aq,Jx⟩:=g0;obtain⟨lp,rfl⟩:=aT ad;have g5:Zv 4=true:=(hU 4 Z);have ZS:Zv 3=true:=(ch 4 3 Z g5);have p8:Zv 2=true:=(ch 3 2 Z ZS);have cf:=EE ZS;have W3:=bt Ap;have W2:=bt Ar;have ZJ:=bt Ab;have ZG:=bt Af;have Z0:=bt Ay;have Z5:=bt Av;have ZK:=bt Ao;have X2:=bt Am;have ZB:=bt As;have ZA:=bt Ad;have Z8:=bt qn;have Wb:=bt Aq;have Zk:=Jx ZS;refine clb gQ (hc:=eA (n:=1) Rg (ht.ext qr)) (hk:=?_);rintro _ _ N1 rfl
 have⟨Ap,Ar,Ab,Af,Ay⟩:=dY N1.2 Ap Ar Ab Af Ay;have Av:=be N1.2 Av;have E7:=aX N1.2 E7;have⟨Ao,Am,As,Ad⟩:=DW N1.2 Ao Am As Ad;have E4:=ab0 N1.2 E4;have⟨qn,Aq⟩:=jk N1.2 qn Aq;have Zk:=aX N1.2 Zk;have qr:=xt qr N1.2;refine I ?_;exact⟨rfl,_,(aw _ _ _ _ _).symm,E9,(bv Z ad),qr,U,F6,EW,F1,F3,F4,(λ_=>rfl),F7,Ek,EE,(Ap),(Ar),(Ab),(Af),(Ay),(Av),(E7),(Ao),(Am),(As),(Ad),(E4),(qn),(Aq),(λ_=>Zk)⟩;refine⟨λkx _ _ hS _ _ _=>?_,?_⟩;obtain⟨E9,cy,qr,Ne,F6,EW,F1,F3,F4,F5,F7,Ek,EE,Ap,Ar,Ab,Af,Ay,Av,E7,Ao,Am,As,Ad,E4,qn,Aq,Jx⟩:=hS;obtain⟨kx,rfl⟩:=aT cy;refine I ?_;exact⟨rfl,_,(aw _ _ _ _ _).symm,E9,(bv Z cy),qr,U,F6,EW,F1,F3,F4,F5,(λ_=>rfl),Ek,EE,(Ap),(Ar),(Ab),(Af),(Ay),(Av),(E7),(Ao),(Am),(As),(Ad),(E4),(qn),(Aq),(λed=>Jx ed)⟩;refine⟨λcv _ gr hV _ _ hC=>?_,?_⟩;obtain⟨E9,cp,qr,Ne,F6,EW,F1,F3,F4,F5,F7,Ek,EE,Ap,Ar,Ab,Af,Ay,Av,E7,Ao,Am,As,Ad,E4,qn,Aq,Jx⟩:=hV;obtain⟨cv,rfl⟩:=aT cp;have hK:gr 6=true:=(hC 6 Z);have ob:cv 65=.pointer (some ⟨T3,2,none⟩):=F7 hK;refine I ?_
 exact⟨rfl,_,(aw _ _ _ _ _).symm,E9,(bv Z cp),qr,U,F6,EW,F1,F3,F4,F5,F7,(λ_=>rfl),EE,(Ap),(Ar),(Ab),(Af),(Ay),(Av),(E7),(Ao),(Am),(As),(Ad),(E4),(qn),(Aq),(λl1=>Jx l1)⟩;exact trivial;intro W1 _ _ Z9 ly;obtain⟨E9,fc,qr,Ne,F6,EW,F1,F3,F4,F5,F7,Ek,EE,Ap,Ar,Ab,Af,Ay,Av,E7,Ao,Am,As,Ad,E4,qn,Aq,Jx⟩:=ly;obtain⟨W1,rfl⟩:=aT fc;have cf:=EE (Z9 3 Z);have W3:=bt Ap;have W2:=bt Ar;have ZJ:=bt Ab;have ZG:=bt Af;have Z0:=bt Ay;have Z5:=bt Av;have ZK:=bt Ao;have X2:=bt Am;have ZB:=bt As;have ZA:=bt Ad;have Z8:=bt qn;have Wb:=bt Aq;have em:W1 64=.agg #[S (qR 1 1).1,S (qR 1 1).2]:=(F5 (Z9 5 Z));have e1:W1 66=.agg #[S (qR fa fb).1,S (qR fa fb).2]:=(Ek (Z9 7 Z));refine ac (ej (vs:=[(0,.agg #[S (qR 1 1).1,S (qR 1 1).2]),(1,.agg #[S (qR fa fb).1,S (qR fa fb).2])]) (cells:=#[S (qR 1 1).1,S (qR 1 1).2,S (qR fa fb).1,S (qR fa fb).2]) kS aQ (aK em (aK e1 Z)) dc dc nV Z dc (λ_ wr _ hB=>?_));have⟨Ap,Ar,Ab,Af,Ay⟩:=dY wr Ap Ar Ab Af Ay;have⟨Av,Ao,Am,As,Ad⟩:=dY wr Av Ao Am As Ad;have⟨qn,Aq,qr⟩:=bC wr qn Aq qr;refine cl qJ (lj (a:=1) (b:=1) (c:=fa) (d:=fb) (aa4 hB) VS qf (ht.ext qr)) ?_;rintro _ _ ZT rfl;have⟨Ap,Ar,Ab,Af,Ay⟩:=dY ZT.2 Ap Ar Ab Af Ay
 have⟨Av,Ao,Am,As,Ad⟩:=dY ZT.2 Av Ao Am As Ad;have⟨qn,Aq,qr⟩:=bC ZT.2 qn Aq qr;have h0:W1 63=.agg #[S ((eO 1 1 ea eb).1),S ((eO 1 1 ea eb).2)]:=(F4 (Z9 4 Z));refine ac (aV (vs:=[(0,.agg #[S ((eO 1 1 ea eb).1),S ((eO 1 1 ea eb).2)]),(1,.agg #[S ((eO 1 1 fa fb).1),S ((eO 1 1 fa fb).2)])]) (cells:=#[S ((eO 1 1 ea eb).1),S ((eO 1 1 ea eb).2),S ((eO 1 1 fa fb).1),S ((eO 1 1 fa fb).2)]) (pl:=[(0,2),(2,2)]) aJ ap nV (aK h0 (aK Z Z)) nV ?_);refine SA Ay (λ_ Z3 Zp=>?_);have⟨Ap,Ar,Ab,Af,Av⟩:=jv Z3 Ap Ar Ab Af Av;have⟨Ao,Am,As,Ad,qn⟩:=jv Z3 Ao Am As Ad qn;have Aq:=pb Z3 Aq;have qr:=bB Z3 qr;refine SO Av (λ_ ZH hP=>?_);have⟨Ap,Ar,Ab,Af,Zp⟩:=jv ZH Ap Ar Ab Af Zp;have⟨Ao,Am,As,Ad,qn⟩:=jv ZH Ao Am As Ad qn;have Aq:=pb ZH Aq;have qr:=bB ZH qr;refine I ?_;refine CG (b1:=ZM.heap.size) (b2:=a3.heap.size) (v:=.tuple #[.agg #[S ((eO 1 1 ea eb).1),S ((eO 1 1 ea eb).2),S ((eO 1 1 fa fb).1),S ((eO 1 1 fa fb).2)],.int .i64 0]) xv (λ_ _=>pJ) qr (cn (r1:=.cell 10 33) (r2:=.cell 11 34) Z ?_ ?_) Z;refine ag (t:=10) (cs:=[S ((eO 1 1 ea eb).1),S ((eO 1 1 ea eb).2),S ((eO 1 1 fa fb).1),S ((eO 1 1 fa fb).2)]) (b:=ZM.heap.size) (o:=0) aJ Z ay ?_ ?_;exact Z;exact aa1 Zp (i:=0) Z;refine dh (t:=11) (b:=a3.heap.size) (o:=0) G9 Z ?_ ?_;exact Z
 exact aa9 hP Z
end
section
def Bw (pl:Nat)(N D f c:Int):Prop:=
 (N=0/\f=dp 1 2 (aa pl)/\c=dz 1 2 (aa pl))\/(8*D<=N/\f=aa pl-1/\c=aa pl)\/(N<=-8*D/\f=0/\c=1)\/(N≠0/\-8*D<N/\N<8*D/\lV pl (mR pl N D) f c)
def Sp (N D:Int)(pl:Nat)(f c:Int):Prop:=∀w,Tb w->CL 69 #[QV N D,.int .i64 ((pl:Nat):Int)] w (aC w λv _=>v=rZ pl f c)
def Bw.call (h:Bw pl N D f c)(h1:0<D)(hN:N.natAbs<10^12)(hD:D<10^12)(h9:N.natAbs<=1000000*D.natAbs)(hp:pl<=12):Sp N D pl f c:=by
 intro w ht
 rcases h with⟨h0,rfl,rfl⟩|⟨h0,rfl,rfl⟩|⟨h0,rfl,rfl⟩|⟨h0,h2,h3,hF⟩
 · exact JM h1 U h0 hp ht
 · exact F0 hN h1 hD h0 h9 hp ht
 · exact FZ hN h1 hD h0 h9 hp ht
 · exact JK hN h1 hD h0 h2 h3 hp hF ht
def JX {b:Int}(hb:0<b)(hd:0<d)(e:a*d=c*b)(h:k*b<=a):k*d<=c:=by
 refine Int.le_of_mul_le_mul_right (a:=b) ?_ hb
 rw[<-e,show k*d*b=k*b*d by grind]
 exact Int.mul_le_mul_of_nonneg_right h (Int.le_of_lt hd)
def JY {b:Int}(hb:0<b)(hd:0<d)(e:a*d=c*b)(h:a<=k*b):c<=k*d:=by
 refine Int.le_of_mul_le_mul_right (a:=b) ?_ hb
 rw[<-e,show k*d*b=k*b*d by grind]
 exact Int.mul_le_mul_of_nonneg_right h (Int.le_of_lt hd)
def uX {b:Int}(hb:0<b)(hd:0<d)(e:a*d=c*b)(h:k*b<a):k*d<c:=by
 refine Int.lt_of_mul_lt_mul_right (a:=b) ?_ (Int.le_of_lt hb)
 rw[<-e,show k*d*b=k*b*d by grind]
 exact Int.mul_lt_mul_of_pos_right h hd
def uY {b:Int}(hb:0<b)(hd:0<d)(e:a*d=c*b)(h:a<k*b):c<k*d:=by
 refine Int.lt_of_mul_lt_mul_right (a:=b) ?_ (Int.le_of_lt hb)
 rw[<-e,show k*d*b=k*b*d by grind]
 exact Int.mul_lt_mul_of_pos_right h hd
def Bw.congr {b g:Int}(hb:0<b)(hd:0<d)(e:a*d=c*b)(h:Bw pl a b f g):Bw pl c d f g:=by
 rcases h with⟨h0,h1,h2⟩|⟨h0,h1,h2⟩|⟨h0,h1,h2⟩|⟨h0,h2,h3,hF⟩
 · refine Or.inl ⟨?_,h1,h2⟩
   rw[h0,Int.zero_mul]at e
   rcases Int.mul_eq_zero.1 e.symm with h|h
   · exact h
   · omega
 · exact Or.inr (Or.inl ⟨JX hb hd e h0,h1,h2⟩)
 · exact Or.inr (Or.inr (Or.inl ⟨JY hb hd e h0,h1,h2⟩))
 · refine Or.inr (Or.inr (Or.inr ⟨λh=>h0 ?_,uX hb hd e h2,uY hb hd e h3,?_⟩))
   · rw[h,Int.zero_mul]at e
     rcases Int.mul_eq_zero.1 e with h|h
     · exact h
     · omega
   · obtain⟨O,qr⟩:=wG hb hd e
     unfold mR at *
     rw[<-O,<-qr];exact hF
def Bw.uniq {b f' c':Int}(hb:0<b)(h:Bw pl a b f c)(h':Bw pl a b f' c'):f=f'/\c=c':=by
 rcases h with⟨h0,h1,h2⟩|⟨h0,h1,h2⟩|⟨h0,h1,h2⟩|⟨h0,h2,h3,hF⟩ <;>rcases h' with⟨k0,k1,k2⟩|⟨k0,k1,k2⟩|⟨k0,k1,k2⟩|⟨k0,k2,k3,kF⟩
 all_goals first|exact hF.uniq kF|(constructor <;>omega)|(exfalso;omega)
open Classical in
noncomputable def yC (pl:Nat) (q:R):R×R:=
 if h:∃y:Int×Int,∃a b:Int,0<b/\q=qR a b/\Bw pl a b y.1 y.2 then(qR h.choose.1 (aa pl),qR h.choose.2 (aa pl))else(q,q)
def Bw.gf {b:Int}(hb:0<b)(h:Bw pl a b f c):yC pl (qR a b)=(qR f (aa pl),qR c (aa pl)):=by
 have hx:∃y:Int×Int,∃a' O:Int,0<O/\qR a b=qR a' O/\Bw pl a' O y.1 y.2:=⟨(f,c),a,b,hb,rfl,h⟩
 unfold yC
 rw[dif_pos hx]
 obtain⟨a',O,qr,e,hy⟩:=hx.choose_spec
 obtain⟨W,qn⟩:=(hy.congr qr hb (Jh hb qr e).symm).uniq hb h
 rw[W,qn]
def eu (n d:Int):Int×Int:=if n<9*d then(if -9*d<n then(n,d)else(-9,1))else(9,1)
def iq (hd:0<d):0<(eu n d).2:=by unfold eu;split <;>(try split) <;>simp_all
def yD (hd:0<d):-9*(eu n d).2<=(eu n d).1/\(eu n d).1<=9*(eu n d).2:=by
 unfold eu;split
 · split
   · simp only;omega
   · simp only;omega
 · simp only;omega
def Sh (pl:Nat)(n d f c:Int):Prop:=∃f' c',Bw pl (dp (eu n d).1 (eu n d).2 (aa 6)) (aa 6) f c'/\Bw pl (dz (eu n d).1 (eu n d).2 (aa 6)) (aa 6) f' c/\f<=c/\0<=f/\c<=aa pl
def ED (hd:0<d)(ht:0<t)(h1:-k*d<=n)(h2:n<=k*d):-k*t<=dp n d t/\dz n d t<=k*t:=by
 unfold dp dz
 have O:-k*t*d<=n*t:=by
  rw[show -k*t*d=-k*d*t by grind];exact Int.mul_le_mul_of_nonneg_right h1 (Int.le_of_lt ht)
 have qr:n*t<=k*t*d:=by
  rw[show k*t*d=k*d*t by grind];exact Int.mul_le_mul_of_nonneg_right h2 (Int.le_of_lt ht)
 generalize n*t=m at *
 generalize -k*t=a at *
 generalize k*t=b at *
 have h3:=Int.emod_add_mul_ediv m d
 have h4:=Int.emod_nonneg m (show d≠0 by omega)
 have W:=Int.emod_lt_of_pos m hd
 refine⟨Int.le_ediv_of_mul_le hd O,?_⟩
 split
 · refine Int.le_of_mul_le_mul_right ?_ hd
   rename_i h6
   rw[Int.mul_comm (m/d) d];omega
 · have:m/d<b:=by
    refine Int.lt_of_mul_lt_mul_right (a:=d) ?_ (Int.le_of_lt hd)
    rw[Int.mul_comm (m/d) d];omega
   omega
def iR (h:f.natAbs<10^70)(hp:pl<=12):Q9 f (aa pl):=gm (Nat.lt_trans h dc) U
def JZ (h:pl<=12):aa pl<=1000000000000:=by
 have h1:(10:Nat)^pl<=10^12:=Nat.pow_le_pow_right dc h
 unfold aa;omega
def kK:aa 6=1000000:=by decide
def J0 (hT:0<T):eO 1 1 k T=qR (min k T) T:=by
 unfold eO
 by_cases h:k<T
 · rw[ri (decide_eq_true (jR U)),show min k T=k by omega]
 · rw[rj (decide_eq_false (pC U)),show min k T=T by omega]
   exact aU dc hT U
def yE :eO 9 1 n d=qR (if n<9*d then n else 9) (if n<9*d then d else 1):=by
 unfold eO
 by_cases h:n<9*d
 · rw[ri (decide_eq_true (jR U)),if_pos h,if_pos h]
 · rw[rj (decide_eq_false (pC U)),if_neg h,if_neg h]
def yF :li (-9) 1 (if n<9*d then n else 9) (if n<9*d then d else 1)=qR (eu n d).1 (eu n d).2:=by
 unfold li eu
 by_cases h:n<9*d
 · simp only[if_pos h]
   by_cases h2:-9*d<n
   · rw[ri (decide_eq_true (ip U)),if_pos h2]
   · rw[rj (decide_eq_false (ja U)),if_neg h2]
 · simp only[if_neg h]
   rw[ri (decide_eq_true dc)]
def yG (h1:n.natAbs<10^12)(h2:0<d)(h3:d<10^12):Q9 (if n<9*d then n else 9) (if n<9*d then d else 1)/\Q9 (eu n d).1 (eu n d).2:=by
 have q:Q9 n d:=dK h1 h2 h3
 have O:Q9 9 1:=⟨by decide,by decide,by decide⟩
 have qr:Q9 (-9) 1:=⟨by decide,by decide,by decide⟩
 constructor
 · by_cases h:n<9*d
   · rw[if_pos h,if_pos h];exact q
   · rw[if_neg h,if_neg h];exact O
 · unfold eu;split
   · split
     · exact q
     · exact qr
   · exact O
section
variable {va vb sa sb la lb ha hb n1 d1 n2 d2 f1 c1 f2 c2:Int}
def VT {b:Int}(h1:a.natAbs<10^12)(h2:b.natAbs<10^12)(h3:c.natAbs<10^12)(h4:d.natAbs<10^12):(a*b-c*d).natAbs<10^25:=by
 have O:(a*b).natAbs<10^24:=by rw[Int.natAbs_mul,show 10^24=10^12*10^12 by decide];exact Nat.mul_lt_mul_of_lt_of_lt h1 h2
 have qr:(c*d).natAbs<10^24:=by rw[Int.natAbs_mul,show 10^24=10^12*10^12 by decide];exact Nat.mul_lt_mul_of_lt_of_lt h3 h4
 omega
def rm {b:Int}(h1:a.natAbs<10^12)(h2:0<b)(h2':b<10^12)(h3:c.natAbs<10^12)(h4:0<d)(h4':d<10^12):Q9 (a*d-c*b) (b*d):=by
 refine⟨Nat.lt_trans (VT h1 U h3 U) dc,Int.mul_pos h2 h4,?_⟩
 have O:(b*d).natAbs<10^24:=by rw[Int.natAbs_mul,show 10^24=10^12*10^12 by decide];exact Nat.mul_lt_mul_of_lt_of_lt U U
 omega
def ShR.mk {b:Int}(h1:a.natAbs<10^12)(h2:0<b)(h3:b<10^12):ShR (qR a b):=⟨a,b,rfl,dK h1 h2 h3,h1,h3⟩
def y7.cell (h1:f<=c)(h2:0<=f)(h3:c<=aa pl)(hp:pl<=12):y7 (qR f (aa pl),qR c (aa pl)):=by
 have hT:=JZ hp
 have hT0:=aZ pl
 exact⟨f,aa pl,c,aa pl,rfl,rfl,iR U hp,iR U hp,Int.mul_le_mul_of_nonneg_right h1 (Int.le_of_lt hT0)⟩
def CI (p1:1<=pl)(p12:pl<=12)(v1:va.natAbs<10^12)(v2:0<vb)(v3:vb<10^12)(s1:0<sa)(s1':sa<10^12)(s2:0<sb)(s3:sb<10^12)(l1:la.natAbs<10^12)(l2:0<lb)(l3:lb<10^12)(h1:ha.natAbs<10^12)(h2:0<hb)(h3:hb<10^12)(hlh:la*hb<ha*lb)(e1:(la*vb-va*lb)*sb*d1=n1*(lb*vb*sa))(e2:(va*hb-ha*vb)*sb*d2=n2*(vb*hb*sa))(m1:n1.natAbs<10^12)(m2:0<d1)(m3:d1<10^12)(k1:n2.natAbs<10^12)(k2:0<d2)(k3:d2<10^12)(x1:Sh pl n1 d1 f1 c1)(x2:Sh pl n2 d2 f2 c2)(ht:Tb w):
 CL 14 #[QV va vb,QV sa sb,QV la lb,QV ha hb,.int .i64 ((pl:Nat):Int)] w (aC w λv _=>v=.tuple #[IV (min (f1+f2) (aa pl)) (aa pl) (min (c1+c2) (aa pl)) (aa pl),.int .i64 0]):=by
 obtain⟨_,_,a1,b1,Ad,As,Aq⟩:=x1
 obtain⟨_,_,a2,b2,Ap,Ao,Av⟩:=x2
 have hT:=JZ p12
 have hT0:=aZ pl
 have z1:=iq (n:=n1) m2
 have qn:=iq (n:=n2) k2
 obtain⟨Af,Aw⟩:=yD (n:=n1) m2
 obtain⟨Ab,Am⟩:=yD (n:=n2) k2
 obtain⟨_,_⟩:=ED z1 (aZ 6) Af Aw
 obtain⟨_,_⟩:=ED qn (aZ 6) Ab Am
 have t5:=lg (a:=(eu n1 d1).1) (b:=(eu n1 d1).2) (t:=aa 6)
 have t6:=lg (a:=(eu n2 d2).1) (b:=(eu n2 d2).2) (t:=aa 6)
 have O:∀x:Int,-9*aa 6<=x->x<=9*aa 6->x.natAbs<10^12/\x.natAbs<=1000000*(aa 6).natAbs:=by rw[kK];intro x h1 h2;omega
 have qr:aa 6<10^12:=by rw[kK];decide
 have q1:=yG (n:=n1) m1 m2 m3
 have q2:=yG (n:=n2) k1 k2 k3
 have A1:=a1.call (aZ 6) (O _ U U).1 qr (O _ U U).2 p12
 have B1:=b1.call (aZ 6) (O _ U U).1 qr (O _ U U).2 p12
 have A2:=a2.call (aZ 6) (O _ U U).1 qr (O _ U U).2 p12
 have B2:=b2.call (aZ 6) (O _ U U).1 qr (O _ U U).2 p12
 have G1:=a1.gf (aZ 6)
 have G2:=b1.gf (aZ 6)
 have G3:=a2.gf (aZ 6)
 have G4:=b2.gf (aZ 6)
 have hX:∀n d f c,Sp n d pl f c->yC pl (qR n d)=(qR f (aa pl),qR c (aa pl))->∀W,Tb W->CL 69 #[QV n d,.int .i64 ((pl:Nat):Int)] W (aC W λv _=>v=.tuple #[.agg #[S (yC pl (qR n d)).1.1,S (yC pl (qR n d)).1.2,S (yC pl (qR n d)).2.1,S (yC pl (qR n d)).2.2],.int .i64 0]):=by
  intro n d f c hc Ar W hW
  rw[Ar];exact hc W hW
 have R1:=CH (va:=va) (vb:=vb) (sa:=sa) (sb:=sb) (la:=la) (lb:=lb) (ha:=ha) (hb:=hb) (ma:=n1) (mb:=d1) (na:=n2) (nb:=d2) (Gf:=yC pl) (w:=w) (ea:=f1+f2) (eb:=aa pl) (fa:=c1+c2) (fb:=aa pl) p1 p12 (dK v1 v2 v3) (dK U s2 s3) (dK l1 l2 l3) (dK h1 h2 h3) (by
  intro q hq
  simp only[List.mem_cons,List.not_mem_nil,or_false]at hq
  rcases hq with rfl|rfl|rfl|rfl
  · exact ShR.mk v1 v2 v3
  · exact ShR.mk U s2 s3
  · exact ShR.mk l1 l2 l3
  · exact ShR.mk h1 h2 h3) s1 (qa1 (jR U)) (qa1 (jR hlh)) (rm l1 l2 l3 v1 v2 v3) (rm v1 v2 v3 h1 h2 h3)
  (aU (Int.mul_pos (Int.mul_pos l2 v2) s1) m2 e1) (aU (Int.mul_pos (Int.mul_pos v2 h2) s1) k2 e2)
  (dK m1 m2 m3) q1.1 q1.2 yE yF (dK k1 k2 k3) q2.1 q2.2 yE yF
  (hX _ _ _ _ A1 G1) (hX _ _ _ _ B1 G2) (hX _ _ _ _ A2 G3) (hX _ _ _ _ B2 G4)
  (by rw[G1,G2];exact y7.cell Ad As Aq p12) (by rw[G3,G4];exact y7.cell Ap Ao Av p12)
  (a1:=f1) (b1:=aa pl) (c1:=c1) (d1:=aa pl) (a2:=f2) (b2:=aa pl) (c2:=c2) (d2:=aa pl)
  (by rw[G1]) (by rw[G2]) (iR U p12) (iR U p12) (by rw[G3]) (by rw[G4]) (iR U p12) (iR U p12)
  (aU (Int.mul_pos hT0 hT0) hT0 ka5) (aU (Int.mul_pos hT0 hT0) hT0 ka5) (iR U p12) (iR U p12) ht
 rw[J0 hT0,J0 hT0]at R1
 exact R1
end
def yy.le {f c:Nat}(h:yy pl u f c):f<=c:=by
 obtain⟨⟨_,⟨r,_,w⟩|⟨r,r2,f1,c1,_,_,_,_,w⟩⟩,_⟩:=h
 · have:=w.fc;omega
 · have:=w.fc;omega
def yy.nmc {f c:Nat}(h:yy pl u f c)(h0:0<u)(h8:u<8000000):Bw pl (u:Int) (aa 6) (f:Int) (c:Int):=by
 rw[kK]
 exact Or.inr (Or.inr (Or.inr ⟨by omega,by omega,by omega,h.1⟩))
def yy.nmn {f c:Nat}(h:yy pl u f c)(h0:0<u)(h8:u<8000000):Bw pl (-(u:Int)) (aa 6) (aa pl-c) (aa pl-f):=by
 rw[kK]
 exact Or.inr (Or.inr (Or.inr ⟨by omega,by omega,by omega,h.2.1⟩))
def Sq {a S:Nat}(hS:0<S):(a+(S-1))/S=if a%S=0 then a/S else a/S+1:=by
 have h:=gq (a:=a) hS
 unfold gl at h
 exact h.symm
def Gb {lo hi:Int}{k:Nat}(h1:f*aa k<=lo)(h2:lo<=hi)(h3:hi<=c*aa k):f<=c:=by
 refine Int.le_of_mul_le_mul_right (a:=aa k) ?_ (aZ k)
 omega
def rn (h:1<=pl):aa pl=2*((10^pl/2:Nat):Int):=by
 obtain⟨k,rfl⟩:∃k,pl=k+1:=⟨pl-1,by omega⟩
 unfold aa
 rw[Nat.pow_succ]
 omega
def uZ (h:1<=pl):dp 1 2 (aa pl)=((10^pl/2:Nat):Int)/\dz 1 2 (aa pl)=((10^pl/2:Nat):Int):=by
 rw[rn h]
 unfold dp dz
 rw[Int.one_mul,Int.mul_ediv_cancel_left _ dc,Int.mul_emod_right,if_pos Z]
 exact⟨rfl,rfl⟩
def J1 (hd:0<d)(h:8*d<=n):8*(eu n d).2<=(eu n d).1:=by
 unfold eu;split
 · rw[if_pos U];exact h
 · simp only;omega
def J2 (hd:0<d)(h:n<=-8*d):(eu n d).1<=-8*(eu n d).2:=by
 unfold eu;rw[if_pos U];split
 · exact h
 · simp only;omega
end
section
open Go.ChangeShapes Go.WideShapes Go.ChangeAt Go.Deep Proofs.Tryz
def XP:ownKnob prog.godebug=none:=by kernel_rfl
def VU:laidOutB prog=true:=by kernel_rfl
def c3:prog.cellsOf 3=1:=by kernel_rfl
def VV:prog.cellsOf 22=7:=by kernel_rfl
def VW : prog.globalNamed "internal/strconv.uint64pow10" = some 1 := by kernel_rfl
def XQ:(prog.globals[1]?).map (·.type)=some 265:=by kernel_rfl
def VX:(((begin prog (λ_ _=>0) default).world.heap[1]?).bind Obj.row?).map (·.2)=some 265:=by kernel_rfl
def XR:∃z,(((begin prog (λ_ _=>0) default).world.heap[1]?).bind Obj.row?)=some (z,265):=by
 obtain⟨⟨z,t⟩,h,e⟩:=Option.map_eq_some_iff.1 VX
 cases e;exact⟨z,h⟩
def XS:1<prog.globals.size:=of_decide_eq_true GS
def XU:Rows.laid_internal_strconv_uint64pow10=(.agg (Lib.pow10Tab.map λz=>DataW.lit (.int .u64 z)):DataW Unit):=by kernel_rfl
def cU:prog.cellsOf 242=1:=by kernel_rfl
def uU:prog.underlying 242=some (.int .u64):=by kernel_rfl
def cA:prog.cellsOf 265=20:=by kernel_rfl
def Sr:Lib.pow10Tab.length=20:=by kernel_rfl
def rq {H:Type}{enc:TypeId×Value->H}{P:Program}{t:TypeId}{ts:List TypeId}{ds:List (DataW H)}{ps:List MemPlace}(h:DataW.TrodAll enc P w base sp hd (t::ts) vs ds ps):∃v vs' d ds' p q,vs=v::vs'/\ds=d::ds'/\DataW.Trod enc P w base sp hd t v d p/\DataW.TrodAll enc P w base sp hd ts vs' ds' q:=by
 match vs,ds,h with
 | v::vs',d::ds',h=>
   obtain⟨p,q,h1,h2,_⟩:=h
   exact⟨v,vs',d,ds',p,q,rfl,rfl,h1,h2⟩
def J3 {H:Type}{enc:TypeId×Value->H}{P:Program}{ds:List (DataW H)}{ps:List MemPlace}(h:DataW.TrodAll enc P w base sp hd [] vs ds ps):vs=[]/\ds=[]:=by
 match vs,ds,h with
 |[],[],_=>exact⟨rfl,rfl⟩
def wK {H:Type}{enc:TypeId×Value->H}{W W':World}{sp':Nat->Bool}(k:bF W W'):∀{ts:List TypeId} {vs:List Value} {ds:List (DataW H)} {ps:List MemPlace},
 (∀t∈ts,prog.readableRec t=true/\t<prog.types.size)->DataW.TrodAll enc prog W 0 (λ_=>true) true ts vs ds ps->(∀p∈ps,p.block<W.heap.size)->(∀p∈ps,sp' p.block=true)->DataW.TrodAll enc prog W' 0 sp' true ts vs ds ps
 |[],[],[],_,_,h,_,_=>h
 | t::ts,v::vs,d::ds,ps,hr,h,hl,hs=>by
   obtain⟨p,q,h1,h2,rfl⟩:=h
   refine⟨p,q,WideElems.Trod_stays VU (hr t RW).1 (hr t RW).2 h1 (λx hx=>?_) (λx hx=>hs x ke5),wK k (λu hu=>hr u (by simp[hu])) h2 (λx hx=>hl x ke5) (λx hx=>hs x ke5),rfl⟩
   have hb:=hl x ke5
   cases x with
   |cell b o=>exact World.cell?_of_block (k.block b hb)
   |map b=>exact k.block b hb
 |[],[],_::_,_,_,h,_,_=>h.elim
 |[],_::_,_,_,_,h,_,_=>h.elim
 |_::_,[],_,_,_,h,_,_=>h.elim
 |_::_,_::_,[],_,_,h,_,_=>h.elim
def Ss (h:(Lit.int .i64 n).wf=true):In64 n:=by
 simp only[Lit.wf,Bool.and_eq_true,decide_eq_true_eq]at h
 have O:IntKind.i64.min=-9223372036854775808:=rfl
 have qr:IntKind.i64.max=9223372036854775807:=rfl
 rw[O,qr]at h
 unfold In64;omega
section
variable {H:Type}{enc:TypeId×Value->H}{W:World}{fuel b0:Nat}{x:DataW H×List MemPlace}
set_option maxRecDepth 100000 in
def J4 {v:Value}(hv:Value.okWide prog W .any b0 22 v)(h:DataW.trod enc prog W base (λ_=>true) true fuel 22 v.cells.toList=some x):
 ∃a b c d e f g:Int,v=.agg #[.int .i64 a,.int .i64 b,.int .i64 c,.int .i64 d,.int .i64 e,.int .i64 f,.int .i64 g]/\In64 a/\In64 b/\In64 c/\In64 d/\In64 e/\In64 f/\In64 g:=by
 unfold Value.okWide at hv
 rw[underlying22]at hv
 obtain⟨cs,rfl,hs,_⟩:=hv
 rw[VV]at hs
 obtain⟨xs,m,_,_,_,hl,hx⟩:=DataW.trod_array underlying22 h
 have key:∀i u,i<7->cs.toList[i]? =some u->∃a,u=.int .i64 a/\In64 a:=by
  intro i u hi hu
  have qr:=hx i hi
  rw[c3,List.getElem?_eq_getElem (show i<xs.length by omega)]at qr
  obtain⟨a,ea,_,Af⟩:=DataW.trod_int underlying3 qr
  refine⟨a,?_,Ss Af⟩
  have O:(((Value.agg cs).cells.toList.drop (i*1)).take 1)[0]? =some u:=by
   have hc:(Value.agg cs).cells=cs:=rfl
   rw[hc,Nat.mul_one,List.getElem?_take,if_pos kd3,List.getElem?_drop,Nat.add_zero];exact hu
  rw[ea]at O
  exact(qb4 O).symm
 obtain⟨l⟩:=cs
 match l,hs,key with
 | [u0,u1,u2,u3,u4,u5,u6],_,key=>
   obtain⟨qn,rfl,Ar⟩:=key 0 u0 kd3 Z
   obtain⟨a1,rfl,Ao⟩:=key 1 u1 kd3 Z
   obtain⟨a2,rfl,Ab⟩:=key 2 u2 kd3 Z
   obtain⟨Aq,rfl,Ap⟩:=key 3 u3 kd3 Z
   obtain⟨Am,rfl,Ax⟩:=key 4 u4 kd3 Z
   obtain⟨Aw,rfl,Av⟩:=key 5 u5 kd3 Z
   obtain⟨Ad,rfl,As⟩:=key 6 u6 kd3 Z
   exact⟨qn,a1,a2,Aq,Am,Aw,Ad,rfl,Ar,Ao,Ab,Ap,Ax,Av,As⟩
end
end
section
attribute [local irreducible] wpListIn Code.wpIn Oper.wpIn Exit.then Exit.inBlock Exit.noGoto
set_option maxHeartbeats 40000000
def am {p:Prop}(h:p:=by assumption):p:=h
def Y9 {c:UInt8}:(((c.toNat:Nat):Int)=45)↔c=45:=by
 constructor
 · intro h;exact UInt8.toNat_inj.1 (by have:(45:UInt8).toNat=45:=rfl;omega)
 · intro h;subst h;rfl
def Za {c:UInt8}:(((c.toNat:Nat):Int)=48)↔c=48:=by
 constructor
 · intro h;exact UInt8.toNat_inj.1 (by have:(48:UInt8).toNat=48:=rfl;omega)
 · intro h;subst h;rfl
def AG {c:UInt8}(hc:l[0]?=some c)(h:((c.toNat:Nat):Int)=45):neg l=true/\body l=l.drop 1:=by
 rw[Y9]at h;subst h
 cases l with
 |nil=>simp at hc
 |cons a t=>simp at hc;subst hc;exact⟨rfl,rfl⟩
def EF {c:UInt8}(hc:l[0]?=some c)(h:¬((c.toNat:Nat):Int)=45):neg l=false/\body l=l:=by
 have O:l.head?≠some 45:=by rw[List.head?_eq_getElem?,hc];intro e;cases e;exact h Z
 exact⟨Ip O,o9 O⟩
def J5 (h:¬(0:Int)<((l.length:Nat):Int)):neg l=false/\body l=l:=by
 have:l=[]:=List.length_eq_zero_iff.1 U
 subst this;exact⟨rfl,rfl⟩
section
variable {D:List UInt8}{c:UInt8}
def GR (hb:neg l=true/\body l=D)(h:D=[48]):Value.bool false=.bool (isInt l):=by
 unfold isInt;rw[hb.1,hb.2,h];rfl
def GT (hb:neg l=q/\body l=D)(h:¬(0:Int)<((D.length:Nat):Int)):Value.bool false=.bool (isInt l):=by
 have:D=[]:=List.length_eq_zero_iff.1 U
 unfold isInt eN;rw[hb.2,this];rfl
def GU (hb:neg l=q/\body l=D)(h:¬((D.length:Nat):Int)<=200):Value.bool false=.bool (isInt l):=by
 have:¬D.length<=200:=J
 unfold isInt eN;rw[hb.2];simp[this]
def s8 (hb:neg l=q/\body l=D)(hc:D[i]?=some c)(h:cZ c=false):Value.bool false=.bool (isInt l):=by
 have:D.all cZ=false:=by
  rw[List.all_eq_false]
  exact⟨c,List.mem_iff_getElem?.2 ⟨i,hc⟩,by simp[h]⟩
 unfold isInt eN;rw[hb.2,this];simp
def dig_lo (h:((c.toNat:Nat):Int)<48):cZ c=false:=by unfold cZ;simp;omega
def dig_hi (h:(57:Int)<((c.toNat:Nat):Int)):cZ c=false:=by unfold cZ;simp;omega
def J6 (h1:¬((c.toNat:Nat):Int)<48)(h2:¬(57:Int)<((c.toNat:Nat):Int)):cZ c=true:=by unfold cZ;simp;omega
def GV (hb:neg l=false/\body l=D)(h:D=[48]):Value.bool true=.bool (isInt l):=by
 unfold isInt;rw[hb.1,hb.2,h];rfl
def GW (hb:neg l=q/\body l=D)(ha:D.all cZ=true)(h0:(0:Int)<((D.length:Nat):Int))(h1:((D.length:Nat):Int)<=200)(h:¬D=[48])(hc:D[0]?=some c):Value.bool (!decide (((c.toNat:Nat):Int)=48))=.bool (isInt l):=by
 have O:D.isEmpty=false:=by cases D <;>simp_all
 have qr:D.length<=200:=J
 have qn:D.head?=some c:=by rw[List.head?_eq_getElem?];exact hc
 congr 1
 unfold isInt eN
 rw[hb.2]
 simp only[O,qr,ha,h,qn,Za,Bool.not_false,decide_true,decide_false,Bool.and_self,Bool.true_and,Bool.false_or,Bool.and_false,Bool.not_false,Bool.and_true,ne_eq,Option.some.injEq,decide_not]
def nW (ha:(D.take i).all cZ=true)(hc:D[i]?=some c)(h:cZ c=true):(D.take (i+1)).all cZ=true:=by
 have hi:i<D.length:=(List.getElem?_eq_some_iff.1 hc).1
 have O:=(List.getElem?_eq_some_iff.1 hc).2
 rw[List.take_succ_eq_append_getElem hi,List.all_append,ha,O]
 simp[h]
end
structure Dg (w:World)(lo:Nat)(A:Option Addr)(n c a:Nat):Prop where
 row:Rw w lo A (ints (av 10 a))
 len:(av 10 a).length=n
 cap:n<=c
section
variable {w0 w':World}{lo:Nat}{n c a:Nat}
def Dg.ext (k:bF w w')(h:Dg w lo A n c a):Dg w' lo A n c a:=⟨h.row.ext k,h.len,h.cap⟩
def ab2:=@Dg.ext
def Dg.gr {row:Option Nat}(k:w.grownBy w' row)(hne:∀ad,A=some ad->some ad.block≠row)(h:Dg w lo A n c a):Dg w' lo A n c a:=⟨h.row.gr k hne,h.len,h.cap⟩
def Dg.mono (hl:lo'<=lo)(h:Dg w lo A n c a):Dg w lo' A n c a:=⟨h.row.mono hl,h.len,h.cap⟩
def Dg.lt (h:Dg w lo A n c a):∀x∈av 10 a,x<10:=dH 10 U a
def Dg.val (h:Dg w lo A n c a):b8 10 (av 10 a)=a:=dj 10 U a
def Dg.zero (w:World)(lo:Nat):Dg w lo none 0 0 0:=⟨Rw.nil w lo,rfl,qa0 _⟩
def Dg.trim {l:List Nat}(hr:Rw w lo A (ints l))(hd:∀d∈l,d<10)(hv:b8 10 l=a)(ht:ei l=l.take m)(hm:m<=l.length)(hc:m<=c):Dg w lo A m c a:=by
 have h1:av 10 a=l.take m:=by rw[<-ht,<-hv];exact(my 10 U l hd).symm
 refine⟨?_,?_,hc⟩
 · rw[h1]
   have:=hr.take m
   simpa[ints,List.map_take]using this
 · rw[h1];simp;omega
end
def AH {d:List UInt8}{c:UInt8}(hc:d[d.length-1-i]?=some c)(hi:i<d.length):e8 (d.drop (d.length-i))++[c.toNat-48]=e8 (d.drop (d.length-(i+1))):=by
 have O:d.length-(i+1)<d.length:=J
 have qn:d.drop (d.length-(i+1))=c::d.drop (d.length-i):=by
  rw[List.drop_eq_getElem_cons O]
  have qr:d[d.length-(i+1)]?=some c:=by rw[show d.length-(i+1)=d.length-1-i by omega];exact hc
  rw[List.getElem?_eq_getElem O]at qr
  rw[Option.some.inj qr,show d.length-(i+1)+1=d.length-i by omega]
 rw[qn];simp[e8]
set_option maxRecDepth 100000 in
def bX (l:List UInt8)(w:World)(hl:l.length<=1000000):
 CL 84 #[S l] w (aC w λv w'=>v=.bool (isInt l)):=by
 refine aE func84 Z (I ?_);by_cases cf:0<(((l).length:Nat):Int);refine I ?_;refine ac (cY (l:=l) U9 Z ?_);refine I ?_;have Aw:=dD (l:=l) (i:=0) U;refine ac (fW (l:=l) (i:=0) (c:=(l.getD 0 0)) U9 Z Z Aw ?_);refine I ?_;by_cases lr:(((l.getD 0 0).toNat:Nat):Int)=45;have hb:=AG (dD U) lr;refine I ?_;refine ac (iU (l:=l) (i:=1) (j:=(l).length) U9 Z (.inr ⟨_,qb1 some Z⟩) (.inl ⟨rfl,rfl⟩) U U ?_);rw[show((l).take ((l).length)).drop 1=(l).drop 1 by rw[List.take_length]];refine I ?_;refine qO (b:=[48]) (I ?_);by_cases lm:((l).drop 1)=([48]);refine I ?_;exact ax (t:=2) (v:=.bool false) Z (aa2 _) KK Z;refine I ?_;have hlD:((l).drop 1).length<=1000000:=by first|omega|(simp;omega)
 have Ap:=aa2 w;refine JT [(2,3),(16,31)] (λAb e W=>∃i:Nat,(((l).drop 1).length-i=Ab)/\(e 3=.int .i64 i)/\(i<=((l).drop 1).length)/\((((l).drop 1).take i).all cZ=true)/\(bF w W)) (((l).drop 1).length-0) ⟨0,rfl,rfl,(qa7 _),rfl,Ap⟩ ?_;rintro _ _ _ ⟨i,rfl,E0,hi,ha,qn⟩;by_cases hlt:i<((l).drop 1).length;refine I ?_;refine ac (gO (l:=(l).drop 1) (m:=((l).drop 1).length) U9 Z Z ?_);refine I ?_;by_cases cv:(((((l).drop 1).getD i 0).toNat:Nat):Int)<48;refine I ?_;have Av:=dD (l:=(l).drop 1) (i:=(i)) U;refine ac (fW (l:=(l).drop 1) (i:=(i)) (c:=(((l).drop 1).getD i 0)) U9 Z Z Av ?_);refine I ?_;exact ax (t:=2) (v:=.bool false) Z qn KK Z;refine I ?_;have Ad:=dD (l:=(l).drop 1) (i:=(i)) U;refine ac (fW (l:=(l).drop 1) (i:=(i)) (c:=(((l).drop 1).getD i 0)) U9 Z Z Ad ?_);refine I ?_;have ny:=dD (l:=(l).drop 1) (i:=(i)) U;refine ac (fW (l:=(l).drop 1) (i:=(i)) (c:=(((l).drop 1).getD i 0)) U9 Z Z ny ?_);refine I ?_
 by_cases ly:57<(((((l).drop 1).getD i 0).toNat:Nat):Int);refine I ?_;exact ax (t:=2) (v:=.bool false) Z qn KK Z;refine I ?_;refine ac (bb (a:=(i:Int)) (b:=1) (c:=((i+1:Nat):Int)) Z Z L7 U ?_);refine I ?_;exact c6 ⟨i+1,rfl,rfl,U,(by first|exact nW ha am (J6 am am)),qn⟩;have O:((l).drop 1).all cZ=true:=by rw[<-List.take_length (l:=(l).drop 1),show((l).drop 1).length=i by omega];exact ha
 refine I ?_;refine ac (gO (l:=(l).drop 1) (m:=((l).drop 1).length) U9 Z Z ?_);refine I ?_;by_cases cr:0<((((l).drop 1).length:Nat):Int);by_cases cw:((((l).drop 1).length:Nat):Int)<=200;refine I ?_;refine ac (cY (l:=(l).drop 1) U9 Z ?_);refine I ?_;refine ac (cY (l:=(l).drop 1) U9 Z ?_);refine I ?_;refine qO (b:=[48]) (I ?_);have od:=dD (l:=(l).drop 1) (i:=0) U;refine ac (fW (l:=(l).drop 1) (i:=0) (c:=(((l).drop 1).getD 0 0)) U9 Z Z od ?_);refine I ?_;exact ax (t:=2) (v:=.bool (!decide ((((((l).drop 1).getD 0 0).toNat:Nat):Int)=48))) Z qn KK Z;refine I ?_;refine ac (cY (l:=(l).drop 1) U9 Z ?_);refine I ?_;refine ac (cY (l:=(l).drop 1) U9 Z ?_);refine I ?_
 exact ax (t:=2) (v:=.bool false) Z qn KK Z;refine I ?_;refine ac (cY (l:=(l).drop 1) U9 Z ?_);refine I ?_;exact ax (t:=2) (v:=.bool false) Z qn KK Z;have hb:=EF (dD U) lr;refine I ?_;have hlD:(l).length<=1000000:=by first|omega|(simp;omega)
 have Am:=aa2 w;refine JT [(2,3),(16,31)] (λAb e W=>∃i:Nat,((l).length-i=Ab)/\(e 3=.int .i64 i)/\(i<=(l).length)/\(((l).take i).all cZ=true)/\(bF w W)) ((l).length-0) ⟨0,rfl,rfl,(qa7 _),rfl,Am⟩ ?_;rintro _ _ _ ⟨i,rfl,Ay,hi,ha,qr⟩;by_cases hlt:i<(l).length;refine I ?_;refine ac (gO (l:=l) (m:=(l).length) U9 Z Z ?_);refine I ?_;by_cases cx:(((l.getD i 0).toNat:Nat):Int)<48;refine I ?_;have Af:=dD (l:=l) (i:=(i)) U;refine ac (fW (l:=l) (i:=(i)) (c:=(l.getD i 0)) U9 Z Z Af ?_);refine I ?_;exact ax (t:=2) (v:=.bool false) Z qr KK Z;refine I ?_;have As:=dD (l:=l) (i:=(i)) U;refine ac (fW (l:=l) (i:=(i)) (c:=(l.getD i 0)) U9 Z Z As ?_);refine I ?_;have Ao:=dD (l:=l) (i:=(i)) U;refine ac (fW (l:=l) (i:=(i)) (c:=(l.getD i 0)) U9 Z Z Ao ?_);refine I ?_;by_cases mq:57<(((l.getD i 0).toNat:Nat):Int);refine I ?_
 exact ax (t:=2) (v:=.bool false) Z qr KK Z;refine I ?_;refine ac (bb (a:=(i:Int)) (b:=1) (c:=((i+1:Nat):Int)) Z Z L7 U ?_);refine I ?_;exact c6 ⟨i+1,rfl,rfl,U,(by first|exact nW ha am (J6 am am)),qr⟩;have O:(l).all cZ=true:=by rw[<-List.take_length (l:=l),show(l).length=i by omega];exact ha
 refine I ?_;refine ac (gO (l:=l) (m:=(l).length) U9 Z Z ?_);refine I ?_;by_cases cm:(((l).length:Nat):Int)<=200;by_cases cy:l=([48]);refine I ?_;refine ac (cY (l:=l) U9 Z ?_);refine I ?_;refine ac (cY (l:=l) U9 Z ?_);refine I ?_;refine qO (b:=[48]) (I ?_);exact ax (t:=2) (v:=.bool true) Z qr KK Z;refine I ?_;refine ac (cY (l:=l) U9 Z ?_);refine I ?_;refine ac (cY (l:=l) U9 Z ?_);refine I ?_;refine qO (b:=[48]) (I ?_);have Ar:=dD (l:=l) (i:=0) U;refine ac (fW (l:=l) (i:=0) (c:=(l.getD 0 0)) U9 Z Z Ar ?_);refine I ?_;exact ax (t:=2) (v:=.bool (!decide ((((l.getD 0 0).toNat:Nat):Int)=48))) Z qr KK Z;refine I ?_
 refine ac (cY (l:=l) U9 Z ?_);refine I ?_;refine ac (cY (l:=l) U9 Z ?_);refine I ?_;exact ax (t:=2) (v:=.bool false) Z qr KK Z;have hb:=J5 cf;refine I ?_;refine ac (cY (l:=l) U9 Z ?_);refine I ?_;have hlD:(l).length<=1000000:=by first|omega|(simp;omega)
 have wr:=aa2 w;refine JT [(2,3),(16,31)] (λAb e W=>∃i:Nat,((l).length-i=Ab)/\(e 3=.int .i64 i)/\(i<=(l).length)/\(((l).take i).all cZ=true)/\(bF w W)) ((l).length-0) ⟨0,rfl,rfl,(qa7 _),rfl,wr⟩ ?_;rintro _ _ _ ⟨i,rfl,Ax,hi,ha,Aq⟩;by_cases hlt:i<(l).length;exact absurd hlt U;have O:(l).all cZ=true:=by rw[<-List.take_length (l:=l),show(l).length=i by omega];exact ha
 refine I ?_;refine ac (gO (l:=l) (m:=(l).length) U9 Z Z ?_);refine I ?_;refine ac (cY (l:=l) U9 Z ?_);refine I ?_;exact ax (t:=2) (v:=.bool false) Z Aq KK Z
set_option maxRecDepth 100000
def nj (h:isInt l=true):0<l.length/\l.length<=201:=by
 have h1:=jB (eF h)
 cases hn:neg l with
 |true=>have:=mI hn;rw[this];simp;omega
 |false=>rw[mJ hn]at h1;omega
def u7 (d:List UInt8):e8 (d.drop (d.length-0))=[]:=by simp[e8]
def pM {d:List UInt8}{k:Nat}(hd:eN d=true)(h:k=d.length/\¬d=[48]\/k=0/\d=[48]):e8 (d.drop (d.length-k))=av 10 (aN d):=by
 rcases h with⟨rfl,h⟩|⟨rfl,rfl⟩
 · rw[Nat.sub_self,List.drop_zero];exact zA hd h
 · rfl
def yH {d:List UInt8}(h:d.all cZ=true)(hi:i<d.length):48<=(d.getD i 0).toNat/\(d.getD i 0).toNat<=57:=by
 have hc:=dD hi
 have:=List.all_eq_true.1 h _ (List.mem_iff_getElem?.2 ⟨i,hc⟩)
 simpa[cZ]using this
def rr {n a:Nat}{v:Value}(h:w.ownsRow base 3 1 v n (ints xs))(hx:xs=av 10 a):∃A c,v=.slice A n c/\Dg w base A n c a:=by
 subst hx
 obtain⟨A,c,rfl,hc,-⟩:=eT h
 refine⟨A,c,rfl,aa4 h,?_,hc⟩
 have:=h.1
 rw[eo]at this;omega
def VY (l:List UInt8):List Value:=l.map λb=>Value.int .u8 b.toNat
def u9 {n k:Nat}(hn:X.length=n)(hk:k<n):du (X.drop (n-(k+1)))=du (X.drop (n-k))++[UInt8.ofNat (48+X.getD (n-1-k) 0)]:=by
 have h1:X.drop (n-(k+1))=X.getD (n-(k+1)) 0::X.drop (n-(k+1)+1):=drop_at U
 rw[h1,show n-(k+1)+1=n-k by omega,show n-(k+1)=n-1-k by omega]
 simp[du]
def wL {d:Nat}(h:d<10):(((UInt8.ofNat (48+d)).toNat:Nat):Int)=48+(d:Int):=by
 have e:(UInt8.ofNat (48+d)).toNat=48+d:=by rw[UInt8.toNat_ofNat'];omega
 rw[e];omega
def jD (h:∀x∈xs,x<10)(i:Nat):xs.getD i 0<10:=by
 rcases Nat.lt_or_ge i xs.length with hi|hi
 · have O:xs[i]? =some xs[i]:=qa5 hi
   rw[List.getD,O];exact h _ (List.getElem_mem hi)
 · rw[lI hi];omega
def sC (ng:Bool)(a:Nat):List UInt8:=if a=0 then[48]else if ng then 45::bQ a else bQ a
def vW (a:Nat):Bool:=decide (a=0)||decide ((av 10 a).length<=200)
def J7 {a:Nat}(h:a=0):Value.tuple #[S [48],.bool true]=.tuple #[S (sC ng a),.bool (vW a)]:=by subst h;rfl
def EG {a n:Nat}(h:0<a)(hn:(av 10 a).length=n)(hl:l=(if ng then[45]else[])++du (av 10 a)):Value.tuple #[S l,.bool (decide ((n:Int)<=200))]=.tuple #[S (sC ng a),.bool (vW a)]:=by
 have qr:sC ng a=l:=by
  have O:¬a=0:=J
  unfold sC bQ
  rw[if_neg O,if_neg O,hl]
  cases ng <;>rfl
 have qn:vW a=decide ((n:Int)<=200):=by
  have O:¬a=0:=J
  unfold vW;rw[hn,decide_eq_false O,Bool.false_or,decide_eq_decide];omega
 rw[qr,qn]
def EH (B:Nat)(xs:List Nat)(h:j<xs.length):b8 B xs=b8 B (xs.take j)+B^j*(xs.getD j 0+B*b8 B (xs.drop (j+1))):=by
 conv=>lhs;rw[<-List.take_append_drop j xs]
 rw[cS,List.length_take,Nat.min_eq_left U,drop_at h]
 rfl
def wM {n:Nat}(hn:X.length=n)(hm:Y.length=n)(h:∀i,j<=i->i<n->X.getD i 0=Y.getD i 0):X.drop j=Y.drop j:=by
 apply List.ext_getElem?
 intro i
 rw[List.getElem?_drop,List.getElem?_drop]
 by_cases hi:j+i<n
 · have:=h (j+i) U hi
   rw[List.getD,List.getD,List.getElem?_eq_getElem U,List.getElem?_eq_getElem U]at this
   rw[List.getElem?_eq_getElem U,List.getElem?_eq_getElem U]
   exact qb1 some this
 · rw[List.getElem?_eq_none U,List.getElem?_eq_none U]
def J8 {n:Nat}(hX:∀d∈X,d<10)(hn:X.length=n)(hm:Y.length=n)(hj:j<n)(h:∀i,j+1<=i->i<n->X.getD i 0=Y.getD i 0)(hl:X.getD j 0<Y.getD j 0):b8 10 X<b8 10 Y:=by
 rw[EH 10 X (show j<X.length by omega),EH 10 Y (show j<Y.length by omega),wM (n:=n) (j:=j+1) hn hm h]
 have h1:b8 10 (X.take j)<10^j:=by
  have:=ji 10 (X.take j) (λd hd=>hX d (List.mem_of_mem_take hd))
  rwa [List.length_take,Nat.min_eq_left U]at this
 have h2:10^j*(X.getD j 0+10*b8 10 (Y.drop (j+1))+1)<=10^j*(Y.getD j 0+10*b8 10 (Y.drop (j+1))):=Nat.mul_le_mul_left _ U
 rw[Nat.mul_add,Nat.mul_one]at h2
 omega
section
variable {a b n2:Nat}
def AI (h1:(av 10 a).length=n1)(h2:(av 10 b).length=n2)(h:n1<n2):a<b:=by
 rcases Nat.lt_or_ge a b with h3|h3
 · exact h3
 · have:=eV (B:=10) U h3;omega
def vd (h1:(av 10 a).length=n1)(h2:(av 10 b).length=n2)(h:n1<n2):(-1:Int)=aG (a:Int) (b:Int):=by
 rw[dE];have:=AI h1 h2 h;omega
def ve (h1:(av 10 a).length=n1)(h2:(av 10 b).length=n2)(h:n2<n1):(1:Int)=aG (a:Int) (b:Int):=by
 rw[dk];have:=AI h2 h1 h;omega
def pN {k:Nat}(h1:(av 10 a).length=n1)(h2:(av 10 b).length=n2)(hn:n1=n2)(hk:k<n1)(h:∀i,n1-k<=i->i<n1->(av 10 a).getD i 0=(av 10 b).getD i 0)(hl:(av 10 a).getD (n1-1-k) 0<(av 10 b).getD (n1-1-k) 0):(-1:Int)=aG (a:Int) (b:Int):=by
 subst hn
 have:=J8 (dH 10 U a) h1 h2 (j:=n1-1-k) U (λi _=>h i U) hl
 rw[dj 10 U,dj 10 U]at this
 rw[dE];omega
def pO {k:Nat}(h1:(av 10 a).length=n1)(h2:(av 10 b).length=n2)(hn:n1=n2)(hk:k<n1)(h:∀i,n1-k<=i->i<n1->(av 10 a).getD i 0=(av 10 b).getD i 0)(hl:(av 10 b).getD (n1-1-k) 0<(av 10 a).getD (n1-1-k) 0):(1:Int)=aG (a:Int) (b:Int):=by
 subst hn
 have:=J8 (dH 10 U b) h2 h1 (j:=n1-1-k) U (λi _ O=>(h i U O).symm) hl
 rw[dj 10 U,dj 10 U]at this
 rw[dk];omega
def vg (h1:(av 10 a).length=n1)(h2:(av 10 b).length=n2)(hn:n1=n2)(h:∀i,i<n1->(av 10 a).getD i 0=(av 10 b).getD i 0):(0:Int)=aG (a:Int) (b:Int):=by
 subst hn
 have e:=wM (j:=0) h1 h2 (λi _ hi=>h i hi)
 simp only[List.drop_zero]at e
 have:=qb1 (b8 10) e
 rw[dj 10 U,dj 10 U]at this
 rw[fK];omega
end
def dA (l:List UInt8)(w:World)(h:isInt l=true):
 CL 137 #[S l] w (aC w λv w'=>∃A n c,v=.tuple #[.bool (neg l),.slice A n c]/\Dg w' w.heap.size A n c (aN (body l))):=by
 have hl:=nj h;have As:=eF h;refine aE func137 Z (I ?_);have Ek:=dD (l:=l) (i:=0) U;refine ac (fW (l:=l) (i:=0) (c:=(l.getD 0 0)) U9 Z Z Ek ?_);refine I ?_;by_cases cw:(((l.getD 0 0).toNat:Nat):Int)=45;have hb:=AG (dD U) cw;have Af:neg l=true:=hb.1;have hD:eN ((l).drop 1)=true:=by rw[<-hb.2];exact As
 have hlD:=jB hD;have hdD:=jM hD;have hvD:aN (body l)=aN ((l).drop 1):=by rw[hb.2]
 refine I ?_;refine ac (iU (l:=l) (i:=1) (j:=(l).length) U9 Z (.inr ⟨_,qb1 some Z⟩) (.inl ⟨rfl,rfl⟩) U U ?_);rw[show((l).take ((l).length)).drop 1=(l).drop 1 by rw[List.take_length]];refine I ?_;refine ac (cY (l:=(l).drop 1) U9 Z ?_);refine vJ (I ?_);have Am:World.ownsRow w w.heap.size 3 1 (.slice none 0 0) 0 (ints (e8 (((l).drop 1).drop (((l).drop 1).length-0)))):=by rw[u7];exact iO
 have EW:=aa2 w;refine JT [(5,6),(16,31)] (λAp e W=>∃k:Nat,∃qr:Value,(((l).drop 1).length-k=Ap)/\(e 6=.int .i64 (((((l).drop 1).length:Nat):Int)-1-(k:Int)))/\(e 5=qr)/\(k<=((l).drop 1).length)/\((l).drop 1=[48]->k=0)/\(bF w W)/\(W.ownsRow w.heap.size 3 1 qr k (ints (e8 (((l).drop 1).drop (((l).drop 1).length-k)))))) (((l).drop 1).length-0) ⟨0,.slice none 0 0,rfl,(qb1 (Value.int .i64) U),rfl,(qa7 _),(λ_=>rfl),EW,Am⟩ ?_;rintro _ _ _ ⟨k,qr,rfl,F3,E9,hk,h4,qn,ho⟩;have F4:=bz qn;by_cases h48:(l).drop 1=[48];by_cases hlt:k<((l).drop 1).length;obtain⟨Ao,O,rfl,Ad⟩:=rr ho (pM hD Fk);refine I ?_;refine ac (tC (a:=(l).drop 1) (b:=[48]) (q:=false) Z Z (by rw[decide_eq_true h48];rfl) ?_);refine I ?_;exact bN (t:=2) (u:=3) (v1:=.bool (decide ((((l.getD 0 0).toNat:Nat):Int)=45))) (v2:=.slice Ao k O) Z qn ⟨Ao,k,O,by rw[Af,decide_eq_true DE],by rw[hvD];exact Ad⟩ Z Z;exfalso;have F2:=h4 h48;have Ax:((l).drop 1).length=1:=by rw[h48];rfl
 omega;by_cases hlt:k<((l).drop 1).length;have hlD1:=hlD.1;refine I ?_;refine ac (tC (a:=(l).drop 1) (b:=[48]) (q:=true) Z Z (by rw[decide_eq_false h48];rfl) ?_);refine I ?_;refine ac (di (v:=qr) E9 ?_);refine I ?_;have E0:=dD (l:=(l).drop 1) (i:=((l).drop 1).length-1-k) U;refine ac (fW (l:=(l).drop 1) (i:=((l).drop 1).length-1-k) (c:=(((l).drop 1).getD (((l).drop 1).length-1-k) 0)) U9 Z (db Z U) E0 ?_);refine ac (HW (k:=.u8) (a:=(((((l).drop 1).getD (((l).drop 1).length-1-k) 0).toNat:Nat):Int)) (b:=48) (c:=(((((l).drop 1).getD (((l).drop 1).length-1-k) 0).toNat-48:Nat):Int)) Z Z (by have:=yH hdD (i:=((l).drop 1).length-1-k) U;rw[wrap_u8 U];omega) ?_);refine ac (jA (k:=.u8) (k':=.i64) (a:=(((((l).drop 1).getD (((l).drop 1).length-1-k) 0).toNat-48:Nat):Int)) (c:=(((((l).drop 1).getD (((l).drop 1).length-1-k) 0).toNat-48:Nat):Int)) U5 U3 Z (by have:=yH hdD (i:=((l).drop 1).length-1-k) U;rw[wrap_i64 U]) ?_);refine BS (λ_ Ar _ F1=>?_);have ho:=aX Ar ho;have qn:=xt qn Ar;refine AP ho (aa4 F1) (λAw _ EE E7 _=>?_);have qn:=dQ ho U U qn E7;refine ac (bO (v:=Aw) Z ?_);refine I ?_
 refine ac (iT (a:=((((l).drop 1).length:Nat):Int)-1-(k:Int)) (b:=1) (c:=((((l).drop 1).length:Nat):Int)-1-((k+1:Nat):Int)) Z Z L7 U ?_);refine I ?_;exact c6 ⟨k+1,Aw,rfl,rfl,rfl,U,(λh=>absurd h h48),qn,(dT EE Z (by rw[<-AH (dD U) U,mE];rfl))⟩;obtain⟨Ao,O,rfl,Ad⟩:=rr ho (pM hD Fk);refine I ?_;exact bN (t:=2) (u:=3) (v1:=.bool (decide ((((l.getD 0 0).toNat:Nat):Int)=45))) (v2:=.slice Ao k O) Z qn ⟨Ao,k,O,by rw[Af,decide_eq_true DE],by rw[hvD];exact Ad⟩ Z Z;have hb:=EF (dD U) cw;have Af:neg l=false:=hb.1;have hD:eN l=true:=by rw[<-hb.2];exact As
 have hlD:=jB hD;have hdD:=jM hD;have hvD:aN (body l)=aN (l):=by rw[hb.2]
 refine I ?_;refine ac (cY (l:=l) U9 Z ?_);refine vJ (I ?_);have Am:World.ownsRow w w.heap.size 3 1 (.slice none 0 0) 0 (ints (e8 ((l).drop ((l).length-0)))):=by rw[u7];exact iO
 have EP:=aa2 w;refine JT [(5,6),(16,31)] (λAp e W=>∃k:Nat,∃qr:Value,((l).length-k=Ap)/\(e 6=.int .i64 ((((l).length:Nat):Int)-1-(k:Int)))/\(e 5=qr)/\(k<=(l).length)/\(l=[48]->k=0)/\(bF w W)/\(W.ownsRow w.heap.size 3 1 qr k (ints (e8 ((l).drop ((l).length-k)))))) ((l).length-0) ⟨0,.slice none 0 0,rfl,(qb1 (Value.int .i64) U),rfl,(qa7 _),(λ_=>rfl),EP,Am⟩ ?_;rintro _ _ _ ⟨k,qr,rfl,F5,E1,hk,h4,Ab,ho⟩;have F6:=bz Ab;by_cases h48:l=[48];by_cases hlt:k<(l).length;obtain⟨Ao,O,rfl,Ad⟩:=rr ho (pM hD ka0);refine I ?_;refine ac (tC (a:=l) (b:=[48]) (q:=false) Z Z (by rw[decide_eq_true h48];rfl) ?_);refine I ?_;exact bN (t:=2) (u:=3) (v1:=.bool (decide ((((l.getD 0 0).toNat:Nat):Int)=45))) (v2:=.slice Ao k O) Z Ab ⟨Ao,k,O,by rw[Af,decide_eq_false DE],by rw[hvD];exact Ad⟩ Z Z;exfalso;have F2:=h4 h48;have Ax:(l).length=1:=by rw[h48];rfl
 omega;by_cases hlt:k<(l).length;have hlD1:=hlD.1;refine I ?_;refine ac (tC (a:=l) (b:=[48]) (q:=true) Z Z (by rw[decide_eq_false h48];rfl) ?_);refine I ?_;refine ac (di (v:=qr) E1 ?_);refine I ?_;have Ay:=dD (l:=l) (i:=(l).length-1-k) U;refine ac (fW (l:=l) (i:=(l).length-1-k) (c:=(l.getD ((l).length-1-k) 0)) U9 Z (db Z U) Ay ?_);refine ac (HW (k:=.u8) (a:=(((l.getD ((l).length-1-k) 0).toNat:Nat):Int)) (b:=48) (c:=((((l).getD ((l).length-1-k) 0).toNat-48:Nat):Int)) Z Z (by have:=yH hdD (i:=(l).length-1-k) U;rw[wrap_u8 U];omega) ?_);refine ac (jA (k:=.u8) (k':=.i64) (a:=((((l).getD ((l).length-1-k) 0).toNat-48:Nat):Int)) (c:=((((l).getD ((l).length-1-k) 0).toNat-48:Nat):Int)) U5 U3 Z (by have:=yH hdD (i:=(l).length-1-k) U;rw[wrap_i64 U]) ?_);refine BS (λ_ Aq _ ny=>?_);have ho:=aX Aq ho;have Ab:=xt Ab Aq;refine AP ho (aa4 ny) (λAv _ od E4 _=>?_);have Ab:=dQ ho U U Ab E4;refine ac (bO (v:=Av) Z ?_);refine I ?_;refine ac (iT (a:=(((l).length:Nat):Int)-1-(k:Int)) (b:=1) (c:=(((l).length:Nat):Int)-1-((k+1:Nat):Int)) Z Z L7 U ?_);refine I ?_
 exact c6 ⟨k+1,Av,rfl,rfl,rfl,U,(λh=>absurd h h48),Ab,(dT od Z (by rw[<-AH (dD U) U,mE];rfl))⟩;obtain⟨Ao,O,rfl,Ad⟩:=rr ho (pM hD ka0);refine I ?_;exact bN (t:=2) (u:=3) (v1:=.bool (decide ((((l.getD 0 0).toNat:Nat):Int)=45))) (v2:=.slice Ao k O) Z Ab ⟨Ao,k,O,by rw[Af,decide_eq_false DE],by rw[hvD];exact Ad⟩ Z Z
def ll {a:Nat}(h1:Dg w lo1 A1 n1 c1 a)(s1:n1<=100000)(ng:Bool):
 CL 89 #[.bool ng,.slice A1 n1 c1] w (aC w λv w'=>v=.tuple #[S (sC ng a),.bool (vW a)]):=by
 have Ix:=h1.len;refine aE func89 Z (I ?_);by_cases ly:(n1:Int)=0;have Ad:a=0:=jw (B:=10) U (h1.len.trans U);refine I ?_;exact bN (t:=4) (u:=5) (v1:=S [48]) (v2:=.bool true) Z (aa2 _) (J7 Ad) Z Z;have Ad:0<a:=mH (B:=10) U kb8;have Ab:World.ownsRow w w.heap.size 5 1 (.slice none 0 0) 0 (VY []):=iO;refine I ?_;rcases qa4 ng with cr|cr;refine I ?_;refine BS (λ_ Aq _ G3=>?_);have Ab:=aX Aq Ab;have Af:=Aq;have N1:=bz Aq;refine AP Ab (aa4 G3) (λE1 _ EW Ek _=>?_);have Af:=dQ Ab U U Af Ek;refine ac (bO (v:=E1) Z ?_);refine I ?_;refine vJ (I ?_);refine JT [(6,7),(18,30)] (λAr e W=>∃k:Nat,∃O:Value,(n1-k=Ar)/\(e 7=.int .i64 ((n1:Int)-1-(k:Int)))/\(e 6=O)/\(k<=n1)/\(bF w W)/\(W.ownsRow w.heap.size 5 1 O (k+1) (VY ([45]++du ((av 10 a).drop (n1-k)))))) (n1-0) ⟨0,E1,rfl,(qb1 (Value.int .i64) U),rfl,(qa7 _),Af,(dT EW RW (by rw[Nat.sub_zero,List.drop_eq_nil_of_le U];rfl))⟩ ?_;rintro _ _ _ ⟨k,O,rfl,K2,G4,hk,qr,ho⟩;have Jx:=bz qr;by_cases hlt:k<n1;have E7:=jD h1.lt (n1-1-k);refine I ?_;refine ac (di (v:=O) G4 ?_)
 refine I ?_;obtain⟨F8,Ay,F1,F6⟩:=((h1.row).ext qr).cells (n1-1-k) _ (bE (xs:=(av 10 a)) U);refine ac (ah (i:=n1-1-k) (oo:=Ay+(n1-1-k)) ju eP Z F1 (db Z U) U BT ?_);refine ac (bP (v:=.int .i64 (((av 10 a).getD (n1-1-k) 0:Nat):Int)) (b:=F8) (o:=Ay+(n1-1-k)) U3 Z Z F6 ?_);refine wl ?_;refine ac (jA (k:=.i64) (k':=.u8) (a:=48+((((av 10 a).getD (n1-1-k) 0):Nat):Int)) (c:=(((UInt8.ofNat (48+((av 10 a).getD (n1-1-k) 0))).toNat:Nat):Int)) U3 U5 Z kb6 ?_);refine BS (λ_ Av _ wr=>?_);have ho:=aX Av ho;have qr:=xt qr Av;refine AP ho (aa4 wr) (λE0 _ EE E4 _=>?_);have qr:=dQ ho U U qr E4;refine ac (bO (v:=E0) Z ?_);refine I ?_;refine ac (iT (a:=(n1:Int)-1-(k:Int)) (b:=1) (c:=(n1:Int)-1-((k+1:Nat):Int)) Z Z L7 U ?_);refine I ?_;exact c6 ⟨k+1,E0,rfl,rfl,rfl,U,qr,(dT EE U (by rw[u9 h1.len U];simp[VY]))⟩;obtain⟨Ao,Ap,rfl,E9,-⟩:=eT ho;have Am:([45]++du ((av 10 a).drop (n1-k)))=(if true=true then[45]else[])++du (av 10 a):=by rw[show n1-k=0 by omega,List.drop_zero];rfl
 refine I ?_;refine ac (OX (l:=[45]++du ((av 10 a).drop (n1-k))) (A:=Ao) (m:=(k+1)) (c:=Ap) TY U5 U9 Z (aa4 ho) (by simp[dr];rw[h1.len];omega) ?_);refine I ?_;exact bN (t:=4) (u:=5) (v1:=S ([45]++du ((av 10 a).drop (n1-k)))) (v2:=.bool (decide ((n1:Int)<=200))) Z qr (EG (ng:=ng) Ad h1.len (by rw[cr];exact Am)) Z Z;refine I ?_;refine vJ (I ?_);have F7:=aa2 w;refine JT [(6,7),(18,30)] (λAr e W=>∃k:Nat,∃O:Value,(n1-k=Ar)/\(e 7=.int .i64 ((n1:Int)-1-(k:Int)))/\(e 6=O)/\(k<=n1)/\(bF w W)/\(W.ownsRow w.heap.size 5 1 O (k+0) (VY (du ((av 10 a).drop (n1-k)))))) (n1-0) ⟨0,.slice none 0 0,rfl,(qb1 (Value.int .i64) U),rfl,(qa7 _),F7,(dT Ab RW (by rw[Nat.sub_zero,List.drop_eq_nil_of_le U];rfl))⟩ ?_;rintro _ _ _ ⟨k,O,rfl,L2,ny,hk,qn,ho⟩;have Kp:=bz qn;by_cases hlt:k<n1;have E7:=jD h1.lt (n1-1-k);refine I ?_;refine ac (di (v:=O) ny ?_);refine I ?_;obtain⟨od,Aw,EP,F5⟩:=((h1.row).ext qn).cells (n1-1-k) _ (bE (xs:=(av 10 a)) U);refine ac (ah (i:=n1-1-k) (oo:=Aw+(n1-1-k)) ju eP Z EP (db Z U) U BT ?_);refine ac (bP (v:=.int .i64 (((av 10 a).getD (n1-1-k) 0:Nat):Int)) (b:=od) (o:=Aw+(n1-1-k)) U3 Z Z F5 ?_);refine wl ?_
 refine ac (jA (k:=.i64) (k':=.u8) (a:=48+((((av 10 a).getD (n1-1-k) 0):Nat):Int)) (c:=(((UInt8.ofNat (48+((av 10 a).getD (n1-1-k) 0))).toNat:Nat):Int)) U3 U5 Z kb6 ?_);refine BS (λ_ As _ F2=>?_);have ho:=aX As ho;have qn:=xt qn As;refine AP ho (aa4 F2) (λAx _ F4 F3 _=>?_);have qn:=dQ ho U U qn F3;refine ac (bO (v:=Ax) Z ?_);refine I ?_;refine ac (iT (a:=(n1:Int)-1-(k:Int)) (b:=1) (c:=(n1:Int)-1-((k+1:Nat):Int)) Z Z L7 U ?_);refine I ?_;exact c6 ⟨k+1,Ax,rfl,rfl,rfl,U,qn,(dT F4 U (by rw[u9 h1.len U];simp[VY]))⟩;obtain⟨Ao,Ap,rfl,E9,-⟩:=eT ho;have Am:(du ((av 10 a).drop (n1-k)))=(if false=true then[45]else[])++du (av 10 a):=by rw[show n1-k=0 by omega,List.drop_zero];rfl
 refine I ?_;refine ac (OX (l:=du ((av 10 a).drop (n1-k))) (A:=Ao) (m:=(k+0)) (c:=Ap) TY U5 U9 Z (aa4 ho) (by simp[dr];rw[h1.len];omega) ?_);refine I ?_;exact bN (t:=4) (u:=5) (v1:=S (du ((av 10 a).drop (n1-k)))) (v2:=.bool (decide ((n1:Int)<=200))) Z qn (EG (ng:=ng) Ad h1.len (by rw[cr];exact Am)) Z Z
def jE {n c lo:Nat}(hr:Rw w lo A (ints xs))(hn:xs.length=n)(hc:n<=c)(hb:n<=1000000):
 CL 179 #[.slice A n c] w (aC w λv w'=>∃m,v=.slice A m c/\ei xs=xs.take m/\m<=n):=by
 refine aE func179 Z (I ?_);have Ap:=aa2 w;refine JT [(0,0),(3,19)] (λAd e W=>∃m:Nat,(m=Ad)/\(e 0=.slice A m c)/\(m<=n)/\(ei xs=ei (xs.take m))/\(bF w W)) (n) ⟨n,rfl,rfl,(qa0 _),(by rw[List.take_of_length_le U]),Ap⟩ ?_;rintro _ _ _ ⟨m,rfl,As,q1,q2,O⟩;by_cases hm:0<m;by_cases hz:xs.getD (m-1) 0=0;refine I ?_;refine vJ (I ?_);obtain⟨Aq,qn,Ar,Ab⟩:=((hr).ext O).cells (m-1) _ (bE (xs:=xs) U);refine ac (ah (i:=m-1) (oo:=qn+(m-1)) ju eP Z Ar (db Z U) U BT ?_);refine I ?_;refine ac (bP (v:=.int .i64 ((xs.getD (m-1) 0:Nat):Int)) (b:=Aq) (o:=qn+(m-1)) U3 Z Z Ab ?_);refine I ?_;refine vJ ?_;refine ac (OH (j:=m-1) ju eP Z (db Z U) U ?_);refine I ?_;exact c6 ⟨m-1,rfl,rfl,U,(q2.trans (ws (n:=n) U hz)),O⟩;refine I ?_;refine vJ (I ?_);obtain⟨Ao,qr,Af,Am⟩:=((hr).ext O).cells (m-1) _ (bE (xs:=xs) U);refine ac (ah (i:=m-1) (oo:=qr+(m-1)) ju eP Z Af (db Z U) U BT ?_);refine I ?_;refine ac (bP (v:=.int .i64 ((xs.getD (m-1) 0:Nat):Int)) (b:=Ao) (o:=qr+(m-1)) U3 Z Z Am ?_);refine I ?_
 exact ax (t:=2) (v:=.slice A m c) Z O ⟨m,rfl,q2.trans (m6 (n:=n) U D0),by omega⟩ Z;refine I ?_;exact ax (t:=2) (v:=.slice A m c) Z O ⟨m,rfl,q2.trans (m6 (n:=n) U D0),by omega⟩ Z
def gT {a:Nat}(h1:Dg w lo1 A1 n1 c1 a)(s1:n1<=100000){n2 c2 b lo2:Nat}(h2:Dg w lo2 A2 n2 c2 b)(s2:n2<=100000):
 CL 138 #[.slice A1 n1 c1,.slice A2 n2 c2] w (aC w λv w'=>v=.int .i64 (aG (a:Int) (b:Int))):=by
 have No:=h1.len;have Ne:=h2.len;refine aE func138 Z (I ?_);by_cases p6:(n1:Int)=(n2:Int);have S1:n1=n2:=J
 refine I ?_;refine vJ (I ?_);have F5:=aa2 w;refine JT [(4,5),(19,40)] (λF7 e W=>∃k:Nat,(n1-k=F7)/\(e 5=.int .i64 ((n1:Int)-1-(k:Int)))/\(k<=n1)/\(∀i,n1-k<=i->i<n1->(av 10 a).getD i 0=(av 10 b).getD i 0)/\(bF w W)) (n1-0) ⟨0,rfl,(qb1 (Value.int .i64) U),(qa7 _),(λi h1 h2=>by omega),F5⟩ ?_;rintro _ _ _ ⟨k,rfl,R1,q1,q2,O⟩;by_cases hlt:k<n1;by_cases he:(av 10 a).getD (n1-1-k) 0=(av 10 b).getD (n1-1-k) 0;have Ax:n1-1-k<n1:=J
 obtain⟨Kp,EP,G4,Ar⟩:=((h1.row).ext O).cells (n1-1-k) _ (bE (xs:=(av 10 a)) U);obtain⟨F1,E1,G3,As⟩:=((h2.row).ext O).cells (n1-1-k) _ (bE (xs:=(av 10 b)) U);refine I ?_;refine bY 8 ?_;refine sf ?_;refine bl (λ_ _ _ _=>by refine ac (ah (i:=n1-1-k) (oo:=EP+(n1-1-k)) ju eP Z G4 (db Z U) U BT ?_);refine I ?_;exact cz) ?_;refine bl (λ_ _ Jx _=>by have Ar:=ab6 Jx Ar;refine ac (bP (v:=.int .i64 (((av 10 a).getD (n1-1-k) 0:Nat):Int)) (b:=Kp) (o:=EP+(n1-1-k)) U3 Z Z Ar ?_);refine I ?_;exact cz) ?_;refine sf ?_;refine bl (λ_ _ _ _=>by refine ac (ah (i:=n1-1-k) (oo:=E1+(n1-1-k)) ju eP Z G3 (db Z U) U BT ?_);refine I ?_;exact cz) ?_;refine bl (λ_ _ F3 _=>by have As:=ab6 F3 As;refine ac (bP (v:=.int .i64 (((av 10 b).getD (n1-1-k) 0:Nat):Int)) (b:=F1) (o:=E1+(n1-1-k)) U3 Z Z As ?_);refine I ?_;exact cz) ?_;refine sf ?_;intro _ _ K2 _;have O:=xt O K2.2;refine I ?_;refine ac (iT (a:=(n1:Int)-1-(k:Int)) (b:=1) (c:=(n1:Int)-1-((k+1:Nat):Int)) Z Z L7 U ?_);refine I ?_;exact c6 ⟨k+1,rfl,rfl,U,(λi hi h=>by by_cases hik:i=n1-1-k;subst hik;omega;exact q2 i U h),O⟩
 by_cases hl:(av 10 a).getD (n1-1-k) 0<(av 10 b).getD (n1-1-k) 0;have Ax:n1-1-k<n1:=J
 obtain⟨E0,Af,E7,qr⟩:=((h1.row).ext O).cells (n1-1-k) _ (bE (xs:=(av 10 a)) U);obtain⟨EE,Ao,Av,Ad⟩:=((h2.row).ext O).cells (n1-1-k) _ (bE (xs:=(av 10 b)) U);refine I ?_;refine bY 8 ?_;refine sf ?_;refine bl (λ_ _ _ _=>by refine ac (ah (i:=n1-1-k) (oo:=Af+(n1-1-k)) ju eP Z E7 (db Z U) U BT ?_);refine I ?_;exact cz) ?_;refine bl (λ_ _ F6 _=>by have qr:=ab6 F6 qr;refine ac (bP (v:=.int .i64 (((av 10 a).getD (n1-1-k) 0:Nat):Int)) (b:=E0) (o:=Af+(n1-1-k)) U3 Z Z qr ?_);refine I ?_;exact cz) ?_;refine sf ?_;refine bl (λ_ _ _ _=>by refine ac (ah (i:=n1-1-k) (oo:=Ao+(n1-1-k)) ju eP Z Av (db Z U) U BT ?_);refine I ?_;exact cz) ?_;refine bl (λ_ _ F4 _=>by have Ad:=ab6 F4 Ad;refine ac (bP (v:=.int .i64 (((av 10 b).getD (n1-1-k) 0:Nat):Int)) (b:=EE) (o:=Ao+(n1-1-k)) U3 Z Z Ad ?_);refine I ?_;exact cz) ?_;refine sf ?_;intro _ _ Aq _;have qr:=ab6 Aq.2 qr;have Ad:=ab6 Aq.2 Ad;have O:=xt O Aq.2;refine I ?_;refine bY 8 ?_;refine sf ?_;refine bl (λ_ _ _ _=>by refine ac (ah (i:=n1-1-k) (oo:=Af+(n1-1-k)) ju eP Z E7 (db Z U) U BT ?_);refine I ?_;exact cz) ?_
 refine bl (λ_ _ N1 _=>by have qr:=ab6 N1 qr;refine ac (bP (v:=.int .i64 (((av 10 a).getD (n1-1-k) 0:Nat):Int)) (b:=E0) (o:=Af+(n1-1-k)) U3 Z Z qr ?_);refine I ?_;exact cz) ?_;refine sf ?_;refine bl (λ_ _ _ _=>by refine ac (ah (i:=n1-1-k) (oo:=Ao+(n1-1-k)) ju eP Z Av (db Z U) U BT ?_);refine I ?_;exact cz) ?_;refine bl (λ_ _ Ix _=>by have Ad:=ab6 Ix Ad;refine ac (bP (v:=.int .i64 (((av 10 b).getD (n1-1-k) 0:Nat):Int)) (b:=EE) (o:=Ao+(n1-1-k)) U3 Z Z Ad ?_);refine I ?_;exact cz) ?_;refine sf ?_;intro _ _ ny _;have O:=xt O ny.2;refine I ?_;exact ax (t:=4) (v:=.int .i64 (-1)) Z O (qb1 (Value.int .i64) RK) Z;have Ax:n1-1-k<n1:=J
 obtain⟨E9,Ap,Aw,qn⟩:=((h1.row).ext O).cells (n1-1-k) _ (bE (xs:=(av 10 a)) U);obtain⟨Ay,Am,E4,Ab⟩:=((h2.row).ext O).cells (n1-1-k) _ (bE (xs:=(av 10 b)) U);refine I ?_;refine bY 8 ?_;refine sf ?_;refine bl (λ_ _ _ _=>by refine ac (ah (i:=n1-1-k) (oo:=Ap+(n1-1-k)) ju eP Z Aw (db Z U) U BT ?_);refine I ?_;exact cz) ?_;refine bl (λ_ _ F2 _=>by have qn:=ab6 F2 qn;refine ac (bP (v:=.int .i64 (((av 10 a).getD (n1-1-k) 0:Nat):Int)) (b:=E9) (o:=Ap+(n1-1-k)) U3 Z Z qn ?_);refine I ?_;exact cz) ?_;refine sf ?_;refine bl (λ_ _ _ _=>by refine ac (ah (i:=n1-1-k) (oo:=Am+(n1-1-k)) ju eP Z E4 (db Z U) U BT ?_);refine I ?_;exact cz) ?_;refine bl (λ_ _ L2 _=>by have Ab:=ab6 L2 Ab;refine ac (bP (v:=.int .i64 (((av 10 b).getD (n1-1-k) 0:Nat):Int)) (b:=Ay) (o:=Am+(n1-1-k)) U3 Z Z Ab ?_);refine I ?_;exact cz) ?_;refine sf ?_;intro _ _ od _;have qn:=ab6 od.2 qn;have Ab:=ab6 od.2 Ab;have O:=xt O od.2;refine I ?_;refine bY 8 ?_;refine sf ?_;refine bl (λ_ _ _ _=>by refine ac (ah (i:=n1-1-k) (oo:=Ap+(n1-1-k)) ju eP Z Aw (db Z U) U BT ?_);refine I ?_;exact cz) ?_
 refine bl (λ_ _ Ek _=>by have qn:=ab6 Ek qn;refine ac (bP (v:=.int .i64 (((av 10 a).getD (n1-1-k) 0:Nat):Int)) (b:=E9) (o:=Ap+(n1-1-k)) U3 Z Z qn ?_);refine I ?_;exact cz) ?_;refine sf ?_;refine bl (λ_ _ _ _=>by refine ac (ah (i:=n1-1-k) (oo:=Am+(n1-1-k)) ju eP Z E4 (db Z U) U BT ?_);refine I ?_;exact cz) ?_;refine bl (λ_ _ EW _=>by have Ab:=ab6 EW Ab;refine ac (bP (v:=.int .i64 (((av 10 b).getD (n1-1-k) 0:Nat):Int)) (b:=Ay) (o:=Am+(n1-1-k)) U3 Z Z Ab ?_);refine I ?_;exact cz) ?_;refine sf ?_;intro _ _ F8 _;have O:=xt O F8.2;refine I ?_;exact ax (t:=4) (v:=.int .i64 1) Z O (qb1 (Value.int .i64) RK) Z;refine I ?_;exact ax (t:=4) (v:=.int .i64 0) Z O (qb1 (Value.int .i64) RK) Z;refine I ?_;by_cases apm:(n1:Int)<(n2:Int);refine I ?_
 exact ax (t:=4) (v:=.int .i64 (-1)) Z (aa2 _) (qb1 (Value.int .i64) RK) Z;refine I ?_;exact ax (t:=4) (v:=.int .i64 1) Z (aa2 _) (qb1 (Value.int .i64) RK) Z
end
end Go.Proofs.YthpinljhfnodeaaGreatDoor
def dC {xs:List Nat}{i:Nat}(h:xs.length<=i):xs.getD i 0=0:=by simp[List.getD,List.getElem?_eq_none h]
def eL (B:Nat)(xs:List Nat)(k:Nat):b8 B (xs.take (k+1))=b8 B (xs.take k)+B^k*xs.getD k 0:=by
 rcases Nat.lt_or_ge k xs.length with h|h
 · rw[List.take_succ_eq_append_getElem h,cS,List.length_take,Nat.min_eq_left J]
   simp[b8,List.getD,h]
 · rw[List.take_of_length_le J,List.take_of_length_le h,dC h];simp
def gU (X Y:List Nat):Nat->Nat×List Nat
 |0=>(0,[])
 |k+1=>(((gU X Y k).1+X.getD k 0+Y.getD k 0)/10,(gU X Y k).2++[((gU X Y k).1+X.getD k 0+Y.getD k 0)%10])
def yI (X Y:List Nat):∀k,(gU X Y k).2.length=k
 |0=>rfl
 |k+1=>by simp[gU,yI X Y k]
def J9 (X Y:List Nat):∀k,∀d∈(gU X Y k).2,d<10
 |0=>by simp[gU]
 | k+1=>by
   intro d hd
   rcases List.mem_append.1 hd with h|h
   · exact J9 X Y k d h
   · rw[List.mem_singleton.1 h];exact Nat.mod_lt _ J
def dZ {X Y:List Nat}(hX:∀i,X.getD i 0<10)(hY:∀i,Y.getD i 0<10):∀k,(gU X Y k).1<=1
 |0=>by simp[gU]
 |k+1=>by have:=dZ hX hY k;have:=hX k;have:=hY k;simp only[gU];omega
def yJ (X Y:List Nat):∀k,b8 10 (gU X Y k).2+10^k*(gU X Y k).1=b8 10 (X.take k)+b8 10 (Y.take k)
 |0=>by simp[gU,b8]
 | k+1=>by
   have ih:=yJ X Y k
   simp only[gU]
   rw[cS,yI,eL,eL,Nat.pow_succ]
   have O:=Nat.div_add_mod ((gU X Y k).1+X.getD k 0+Y.getD k 0) 10
   simp only[b8]
   generalize ((gU X Y k).1+X.getD k 0+Y.getD k 0)/10=u at *
   generalize ((gU X Y k).1+X.getD k 0+Y.getD k 0)%10=v at *
   generalize X.getD k 0=x at *
   generalize Y.getD k 0=y at *
   generalize (gU X Y k).1=c at *
   grind
def kf {X Y:List Nat}{k:Nat}(hX:X.length<=k)(hY:Y.length<=k)(h:(gU X Y k).1<=1):(gU X Y (k+1)).1=0:=by
 simp only[gU,dC hX,dC hY];omega
def vh {a k:Nat}(h:k<(av 10 a).length):10^k<=a:=by
 rcases Nat.lt_or_ge a (10^k)with h1|h1
 · have:=(aW 10 J a k).2 h1;omega
 · exact h1
def NN {a b n1 n2 k:Nat}(h1:(av 10 a).length=n1)(h2:(av 10 b).length=n2)(hk1:n1<=k)(hk2:n2<=k)(hc:(gU (av 10 a) (av 10 b) k).1=0)(hm:k<=max n1 n2\/k=max n1 n2+1/\0<(gU (av 10 a) (av 10 b) (max n1 n2)).1):(gU (av 10 a) (av 10 b) k).2=av 10 (a+b):=by
 have hv:=yJ (av 10 a) (av 10 b) k
 rw[hc,Nat.mul_zero,Nat.add_zero,List.take_of_length_le J,List.take_of_length_le J,dj 10 J,dj 10 J]at hv
 have qn:=yI (av 10 a) (av 10 b) k
 have qr:=J9 (av 10 a) (av 10 b) k
 have Ao:0<k->10^(k-1)<=a+b:=by
  intro Af
  rcases hm with hm|⟨hm,hp⟩
  · have:n1=k\/n2=k:=J
    rcases this with h|h
    · have:=vh (a:=a) (k:=k-1) J;omega
    · have:=vh (a:=b) (k:=k-1) J;omega
  · have Am:=yJ (av 10 a) (av 10 b) (max n1 n2)
    rw[List.take_of_length_le J,List.take_of_length_le J,dj 10 J,dj 10 J]at Am
    have:10^max n1 n2*1<=10^max n1 n2*(gU (av 10 a) (av 10 b) (max n1 n2)).1:=Nat.mul_le_mul_left _ hp
    rw[hm,Nat.add_sub_cancel]
    omega
 generalize (gU (av 10 a) (av 10 b) k).2=l at *
 rw[<-hv]
 refine mw J ⟨qr,?_⟩
 intro O
 have Af:0<k:=by
  rcases Nat.eq_zero_or_pos k with h|h
  · subst h;rw[List.length_eq_zero_iff.1 qn]at O;simp at O
  · exact h
 obtain⟨l',rfl⟩:∃l',l=l'++[0]:=by
  have Ad:l≠[]:=by intro e;subst e;simp at O
  refine⟨l.dropLast,?_⟩
  have Ab:=List.dropLast_concat_getLast Ad
  rw[List.getLast?_eq_some_getLast Ad]at O
  rw[Option.some.inj O]at Ab
  exact Ab.symm
 have h3:=ji 10 l' (λd hd=>qr d (List.mem_append_left _ hd))
 rw[cS]at hv
 simp only[b8,Nat.mul_zero,Nat.add_zero]at hv
 simp at qn
 have:=Ao Af
 rw[show k-1=l'.length by omega]at this
 omega
def jd (X Y:List Nat):Nat->Nat×List Nat
 |0=>(0,[])
 |k+1=>if X.getD k 0<(jd X Y k).1+Y.getD k 0 then(1,(jd X Y k).2++[X.getD k 0+10-(jd X Y k).1-Y.getD k 0])else(0,(jd X Y k).2++[X.getD k 0-(jd X Y k).1-Y.getD k 0])
def nk (X Y:List Nat):∀k,(jd X Y k).2.length=k
 |0=>rfl
 |k+1=>by simp only[jd];split <;>simp[nk X Y k]
def gV (X Y:List Nat):∀k,(jd X Y k).1<=1
 |0=>by simp[jd]
 |k+1=>by simp only[jd];split <;>simp
def CJ {X Y:List Nat}(hX:∀i,X.getD i 0<10)(hY:∀i,Y.getD i 0<10):∀k,∀d∈(jd X Y k).2,d<10
 |0=>by simp[jd]
 | k +1=>by
   have hb:=gV X Y k
   have hx:=hX k
   have hy:=hY k
   intro d hd
   simp only[jd]at hd
   split at hd
   all_goals
    rcases List.mem_append.1 hd with h|h
    · exact CJ hX hY k d h
    · rw[List.mem_singleton.1 h];omega
def EI {X Y:List Nat}(hY:∀i,Y.getD i 0<10):∀k,b8 10 (jd X Y k).2+b8 10 (Y.take k)=b8 10 (X.take k)+10^k*(jd X Y k).1
 |0=>by simp[jd,b8]
 | k +1=>by
   have ih:=EI (X:=X) hY k
   have hb:=gV X Y k
   have hy:=hY k
   rw[eL,eL,Nat.pow_succ]
   simp only[jd]
   split
   · next h=>
     rw[cS,nk]
     simp only[b8]
     obtain⟨t,ht⟩:∃t,X.getD k 0+10-(jd X Y k).1-Y.getD k 0=t:=⟨_,rfl⟩
     have hs:t+(jd X Y k).1+Y.getD k 0=X.getD k 0+10:=J
     rw[ht]
     generalize X.getD k 0=x at *
     generalize Y.getD k 0=y at *
     generalize (jd X Y k).1=c at *
     grind
   · next h=>
     rw[cS,nk]
     simp only[b8]
     obtain⟨t,ht⟩:∃t,X.getD k 0-(jd X Y k).1-Y.getD k 0=t:=⟨_,rfl⟩
     have hs:t+(jd X Y k).1+Y.getD k 0=X.getD k 0:=J
     rw[ht]
     generalize X.getD k 0=x at *
     generalize Y.getD k 0=y at *
     generalize (jd X Y k).1=c at *
     grind
def NO {a b n1 n2:Nat}(h1:(av 10 a).length=n1)(h2:(av 10 b).length=n2)(hle:b<=a):b8 10 (jd (av 10 a) (av 10 b) n1).2=a-b:=by
 have O:∀(c i:Nat),(av 10 c).getD i 0<10:=by
  intro c i
  rcases Nat.lt_or_ge i (av 10 c).length with hi|hi
  · have qn:(av 10 c)[i]? =some (av 10 c)[i]:=qa5 hi
    rw[List.getD,qn];exact dH 10 J c _ (List.getElem_mem hi)
  · rw[dC hi];omega
 have hv:=EI (X:=av 10 a) (O b) n1
 have Ab:n2<=n1:=by rw[<-h1,<-h2];exact eV J hle
 rw[List.take_of_length_le J,List.take_of_length_le J,dj 10 J,dj 10 J]at hv
 have qr:=ji 10 _ (CJ (O a) (O b) n1)
 rw[nk]at qr
 have hb:=gV (av 10 a) (av 10 b) n1
 generalize (jd (av 10 a) (av 10 b) n1).1=c at *
 rcases Nat.eq_zero_or_pos c with hc|hc
 · subst hc;omega
 · obtain rfl:c=1:=J
   omega
def EJ (B:Nat):∀(l:List Nat) (j v:Nat),j<l.length->b8 B (l.set j v)+B^j*l.getD j 0=b8 B l+B^j*v
 |x::l,0,v,_=>by simp[b8];omega
 | x::l,j+1,v,h=>by
   have ih:=EJ B l j v ka3
   simp only[List.set_cons_succ,b8,List.getD_cons_succ,Nat.pow_succ]
   generalize l.getD j 0=y at *
   generalize b8 B (l.set j v)=p at *
   generalize b8 B l=q at *
   generalize B^j=t at *
   grind
structure AJ (X Y:List Nat)(i n:Nat)(k c:Nat)(l:List Nat):Prop where
 len:l.length=n
 lt:∀d∈l,d<10
 c9:c<=9
 val:b8 10 l+10^(i+k)*c=(b8 10 (X.take i)*b8 10 Y)+10^i*(X.getD i 0*b8 10 (Y.take k))
def Su {l:List Nat}{j v:Nat}(h:∀d∈l,d<10)(hv:v<10):∀d∈l.set j v,d<10:=by
 intro d hd
 rcases List.mem_or_eq_of_mem_set hd with h1|h1
 · exact h d h1
 · rw[h1];exact hv
def gW {xs:List Nat}(h:∀x∈xs,x<10)(i:Nat):xs.getD i 0<10:=by
 rcases Nat.lt_or_ge i xs.length with hi|hi
 · have O:xs[i]? =some xs[i]:=qa5 hi
   rw[List.getD,O];exact h _ (List.getElem_mem hi)
 · rw[dC hi];omega
def AJ.step {X Y l:List Nat}{i n k c:Nat}(hX:∀x∈X,x<10)(hY:∀x∈Y,x<10)(h:AJ X Y i n k c l)(hj:i+k<n):
 AJ X Y i n (k+1) ((l.getD (i+k) 0+c+X.getD i 0*Y.getD k 0)/10) (l.set (i+k) ((l.getD (i+k) 0+c+X.getD i 0*Y.getD k 0)%10)):=by
 have h1:=gW h.lt (i+k)
 have h2:=gW hX i
 have h3:=gW hY k
 have h4:X.getD i 0*Y.getD k 0<=9*9:=qb7 J J
 have hc:=h.c9
 refine⟨by rw[List.length_set];exact h.len,Su h.lt (Nat.mod_lt _ J),by omega,?_⟩
 have hs:=EJ 10 l (i+k) ((l.getD (i+k) 0+c+X.getD i 0*Y.getD k 0)%10) (by rw[h.len];exact hj)
 have hv:=h.val
 have O:=Nat.div_add_mod (l.getD (i+k) 0+c+X.getD i 0*Y.getD k 0) 10
 rw[eL,show i+(k+1)=(i+k)+1 by omega,Nat.pow_succ]
 have qr:(10:Nat)^(i+k)=10^i*10^k:=Nat.pow_add ..
 generalize (l.getD (i+k) 0+c+X.getD i 0*Y.getD k 0)/10=u at *
 generalize (l.getD (i+k) 0+c+X.getD i 0*Y.getD k 0)%10=v at *
 generalize b8 10 (l.set (i+k) v)=p at *
 generalize l.getD (i+k) 0=z at *
 generalize X.getD i 0=x at *
 generalize Y.getD k 0=y at *
 generalize b8 10 (Y.take k)=yk at *
 generalize b8 10 (X.take i)*b8 10 Y=W at *
 generalize (10:Nat)^(i+k)=t at *
 generalize (10:Nat)^i=ti at *
 generalize (10:Nat)^k=tk at *
 grind
def AJ.room {X Y l:List Nat}{i n1 n2 k c:Nat}(hX:∀x∈X,x<10)(hY:∀x∈Y,x<10)(hn1:X.length=n1)(hn2:Y.length=n2)(hi:i<n1)(h:AJ X Y i (n1+n2) k c l)(hk:k<n2\/0<c):i+k<n1+n2:=by
 rcases Nat.lt_or_ge k n2 with h1|h1
 · omega
 · have hc:0<c:=J
   have hv:=h.val
   rw[List.take_of_length_le (l:=Y) J]at hv
   have O:=eL 10 X i
   have qn:b8 10 (X.take (i+1))<10^(i+1):=by
    have:=ji 10 (X.take (i+1)) (λd hd=>hX d (List.mem_of_mem_take hd))
    rwa [List.length_take,Nat.min_eq_left J]at this
   have Ad:b8 10 Y<10^n2:=by have:=ji 10 Y hY;rwa [hn2]at this
   have Ab:b8 10 (X.take (i+1))*b8 10 Y<10^(i+1)*10^n2:=by
    rcases Nat.eq_zero_or_pos (b8 10 Y)with h0|h0
    · rw[h0,Nat.mul_zero];exact Nat.mul_pos (Nat.pow_pos J) (Nat.pow_pos J)
    · exact Nat.mul_lt_mul_of_lt_of_le qn (Nat.le_of_lt Ad) (Nat.pow_pos J)
   have Am:b8 10 l+10^(i+k)*c=b8 10 (X.take (i+1))*b8 10 Y:=by
    rw[hv,O]
    generalize b8 10 (X.take i)=p
    generalize b8 10 Y=q
    generalize X.getD i 0=x
    generalize (10:Nat)^i=t
    grind
   rw[<-Nat.pow_add]at Ab
   have Af:10^(i+k)*1<=10^(i+k)*c:=Nat.mul_le_mul_left _ hc
   have qr:10^(i+k)<10^(i+1+n2):=J
   have:=(Nat.pow_lt_pow_iff_right (a:=10) J).1 qr
   omega
def AJ.done {X Y l:List Nat}{i n n2 k:Nat}(hn2:Y.length=n2)(h:AJ X Y i n k 0 l)(hk:n2<=k):AJ X Y (i+1) n 0 0 l:=by
 refine⟨h.len,h.lt,by omega,?_⟩
 have hv:=h.val
 rw[List.take_of_length_le (l:=Y) J]at hv
 rw[eL]
 simp only[Nat.mul_zero,Nat.add_zero,List.take_zero,b8]at hv ⊢
 rw[hv]
 generalize b8 10 (X.take i)=p
 generalize b8 10 Y=q
 generalize X.getD i 0=x
 generalize (10:Nat)^i=t
 grind
def AJ.start (X Y:List Nat)(n:Nat):AJ X Y 0 n 0 0 (List.replicate n 0):=by
 refine⟨by simp,λd hd=>by rw[(List.mem_replicate.1 hd).2];omega,by omega,?_⟩
 have:∀m,b8 10 (List.replicate m 0)=0:=by
  intro m;induction m with
  |zero=>rfl
  |succ m ih=>simp[List.replicate_succ,b8,ih]
 simp[this,b8]
def AJ.fin {X Y l:List Nat}{n n1:Nat}(hn1:X.length=n1)(h:AJ X Y n1 n 0 0 l):b8 10 l=b8 10 X*b8 10 Y:=by
 have hv:=h.val
 rw[List.take_of_length_le (l:=X) J]at hv
 simp only[Nat.mul_zero,Nat.add_zero,List.take_zero,b8]at hv
 exact hv
def AJ.rem {X Y l:List Nat}{i n n2 k c:Nat}(hn2:Y.length=n2)(hX:∀x∈X,x<10)(hY:∀x∈Y,x<10)(h:AJ X Y i n k c l)(hk:n2<=k):(l.getD (i+k) 0+c+X.getD i 0*Y.getD k 0)=l.getD (i+k) 0+c:=by
 rw[dC (xs:=Y) J];simp
structure LZ (X:List Nat)(b:Nat)(i r:Nat)(T:List Nat):Prop where
 len:T.length+i=X.length
 lt:∀d∈T,d<10
 val:b8 10 T*b+r=b8 10 (X.drop i)
 rlt:r<b
def LZ.start {X:List Nat}{b:Nat}(hb:0<b):LZ X b X.length 0 []:=⟨by simp,by simp,by simp[b8],hb⟩
def LZ.step {X T:List Nat}{b i r c r2:Nat}(hX:∀x∈X,x<10)(h:LZ X b (i+1) r T)(hc:c*b+r2=r*10+X.getD i 0)(hr:r2<b):LZ X b i r2 (c::T):=by
 have hl:=h.len
 have hx:=gW hX i
 have qr:=h.rlt
 have O:c<10:=by
  rcases Nat.lt_or_ge c 10 with h1|h1
  · exact h1
  · have h2:10*b<=c*b:=Nat.mul_le_mul_right _ h1
    omega
 refine⟨by simp;omega,λd hd=>?_,?_,hr⟩
 · rcases List.mem_cons.1 hd with rfl|h1
   · exact O
   · exact h.lt d h1
 · have e:X.drop i=X.getD i 0::X.drop (i+1):=by
    rw[List.drop_eq_getElem_cons J];simp[show i<X.length by omega]
   rw[e]
   simp only[b8]
   have hv:=h.val
   generalize X.getD i 0=x at *
   generalize b8 10 T=t at *
   generalize b8 10 (X.drop (i+1))=u at *
   grind
def LZ.fin {X T:List Nat}{b r:Nat}(hb:0<b)(h:LZ X b 0 r T):b8 10 T=b8 10 X/b/\r=b8 10 X%b:=by
 have hv:=h.val
 rw[List.drop_zero]at hv
 have hr:=h.rlt
 rw[<-hv]
 constructor
 · rw[Nat.mul_comm,Nat.mul_add_div hb,Nat.div_eq_of_lt hr];omega
 · rw[Nat.mul_comm,Nat.mul_add_mod,Nat.mod_eq_of_lt hr]
