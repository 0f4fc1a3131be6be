/- Part of the proof of a statement about risks. -/
import Derived.Test.YthpinljhfnodeaaGreatDoorDmJToRji
set_option linter.all false
namespace Go.Proofs.YthpinljhfnodeaaGreatDoor
open Go Go.Eng Go.RowKit Proofs.Tryz
variable {ma mb sa sb ea eb la lb ha oa ob ga gb A B G M s e O qr a T n d ct m t:Int}{pl H f u c cT S' H':Nat}
section
attribute [local irreducible] wpListIn Code.wpIn Oper.wpIn Exit.then Exit.inBlock Exit.noGoto
set_option maxHeartbeats 40000000
set_option maxRecDepth 100000 in
def yY {hb:Int}{w:World}(h1:1<=pl)(h12:pl<=12)(hVa:∀W,Tb W->CL 16 #[.agg (kaA ma mb sa sb ea eb la lb ha hb oa ob ga gb)] W (aC W λv _=>v=.bool true))(ht:Tb w):
 CL 7 #[.agg (kaA ma mb sa sb ea eb la lb ha hb oa ob ga gb),.int .i64 0,.int .i64 pl] w (aC w λv w'=>v=.tuple #[.agg #[S [],S [],S [],S []],.int .i64 150]):=by
 refine aE func7 Z (I ?_);refine bx (λAf Ap A1=>?_);have qn:=Ap.2;refine al ap (λ_ Ao A2=>?_);have⟨A1,qn⟩:=bD Ao.2 A1 qn;refine I ?_;refine ac (ar (cs:=[S (qR ma mb).1,S (qR ma mb).2,S (qR sa sb).1,S (qR sa sb).2,S (qR ea eb).1,S (qR ea eb).2,S (qR la lb).1,S (qR la lb).2,S (qR ha hb).1,S (qR ha hb).2,S (qR oa ob).1,S (qR oa ob).2,S (qR ga gb).1,S (qR ga gb).2]) (b:=w.heap.size) (o:=0) aP Z cD Z (aa1 A1 (i:=0) GS) ?_);refine I ?_;refine cl tU (GG h1 h12 hVa (ht.ext qn)) ?_;rintro _ _ Am rfl;have⟨A1,A2,qn⟩:=bC Am.2 A1 A2 qn;refine I ?_;refine SA A2 (λ_ Ab Ad=>?_);have A1:=pb Ab A1;have qn:=bB Ab qn;refine I ?_;refine aI (v:=.tuple #[.agg #[S [],S [],S [],S []],.int .i64 150]) (cn (r1:=.cell 6 33) (r2:=.tmp 7) Z ?_ ?_) qn Z;refine ag (t:=6) (cs:=[S [],S [],S [],S []]) (b:=Af.heap.size) (o:=0) aJ Z ay ?_ ?_;exact Z;exact aa1 Ad (i:=0) Z;exact aD (t:=7) Rd _
end
section
def Lc {hb L H:Int}(hg:0<G)(hp:0<mb/\0<sb/\0<eb/\0<lb/\0<hb/\0<ob/\0<gb)(h1:ma*G=(A*M+B)*mb)(h2:sa*G=A*s*sb)(h3:ea*G=A*e*eb)(h4:la*G=(A*L+B)*lb)(h5:ha*G=(A*H+B)*hb)(h6:oa*G=(A*O+B)*ob)(h7:ga*G=(A*qr+B)*gb):
 vC A B G M s e L H O qr=.agg #[S (qR ma mb).1,S (qR ma mb).2,S (qR sa sb).1,S (qR sa sb).2,S (qR ea eb).1,S (qR ea eb).2,S (qR la lb).1,S (qR la lb).2,S (qR ha hb).1,S (qR ha hb).2,S (qR oa ob).1,S (qR oa ob).2,S (qR ga gb).1,S (qR ga gb).2]:=by
 rw[aU hp.1 hg h1,aU hp.2.1 hg h2,aU hp.2.2.1 hg h3,aU hp.2.2.2.1 hg h4,aU hp.2.2.2.2.1 hg h5,aU hp.2.2.2.2.2.1 hg h6,aU hp.2.2.2.2.2.2 hg h7]
def Tc {f:FuncId}{v u:Value}{l:List Value}{w:World}{R:Ending->World->Prop}(h:CL f (v::l).toArray w R)(e:v=u):CL f (u::l).toArray w R:=e▸h
section
variable {s:Sd}{X Y:Int}{E:Nat->Int}{L H:Int}{n:Nat}
def Sd.Ok.hb (h:s.Ok T):(0<=s.tcH X Y/\s.tcH X Y<=T*T)/\0<=s.tpH T X Y/\s.tpH T X Y<=T*T:=by
 have a:=h.mm (X:=X) (Y:=Y)
 have b:=h.b (X:=X) (Y:=Y)
 have W:0<=T:=J
 have qn:=Int.mul_nonneg W W
 unfold Sd.tcH Sd.tpH
 constructor
 · split
   · exact⟨Int.mul_nonneg U U,Int.mul_le_mul a.2.2 b.2.2 U W⟩
   · exact⟨Int.le_refl _,qn⟩
 · split
   · exact⟨Int.mul_nonneg U U,Int.mul_le_mul a.2.2 U U W⟩
   · exact⟨Int.le_refl _,qn⟩
def Sd.Ok.conB (h:s.Ok T):s.conH E L H n<=n*(2*(T*T))/\s.proH T E L H n<=n*(2*(T*T)):=by
 refine⟨(gP λi _=>?_).2,(gP λi _=>?_).2⟩
 · have:=(h.hb (X:=E i) (Y:=min (E (i+1)) L)).1
   have:=(h.hb (X:=max (E i) H) (Y:=E (i+1))).1
   omega
 · have:=(h.hb (X:=max (E i) L) (Y:=min (E (i+1)) H)).2
   omega
end
def Td {b:Int}(hT:0<T)(h:a<=b):aG (a*T) (b*T)<=0:=bS.2 (Int.mul_le_mul_of_nonneg_right h (Int.le_of_lt hT))
def Ld (hd:0<d)(e:n*1000000=u*d)(h0:0<u)(h8:u<8000000)(h:yy pl u f c):Sh pl n d f c/\Sh pl (-n) d (aa pl-c) (aa pl-f):=by
 have hT:((10^pl:Nat):Int)=aa pl:=rfl
 have A2:0<n:=by
  rcases Int.lt_or_le 0 n with x|x
  · exact x
  · have:=Int.mul_pos (show(0:Int)<u by omega) hd;omega
 have A1:n<8*d:=by
  have:(u:Int)*d<8000000*d:=Int.mul_lt_mul_of_pos_right U hd
  omega
 have c1:eu n d=(n,d):=by unfold eu;rw[if_pos U,if_pos U]
 have c2:eu (-n) d=(-n,d):=by unfold eu;rw[if_pos U,if_pos U]
 have W:dp n d (aa 6)=u/\dz n d (aa 6)=u:=by
  unfold dp dz
  rw[kK,e,Int.mul_ediv_cancel _ U,Int.mul_emod_left,if_pos Z];exact⟨rfl,rfl⟩
 have qn:=h.le
 have h3:=h.2.2.1
 have h4:=h.2.2.2
 constructor
 · refine⟨f,c,?_,?_,by omega,by omega,by omega⟩
   · rw[c1];simp only;rw[W.1];exact h.nmc h0 h8
   · rw[c1];simp only;rw[W.2];exact h.nmc h0 h8
 · refine⟨aa pl-c,aa pl-f,?_,?_,by omega,by omega,by omega⟩
   · rw[c2];simp only;rw[j9 hd,W.2];exact h.nmn h0 h8
   · rw[c2];simp only;rw[pB hd,W.1];exact h.nmn h0 h8
def Yf (ck:Nat->Nat->(Nat->Nat->Bool)->Bool)(T n d F C:Nat):Bool:=ck n d λf c=>and (and (Nat.beq f F) (Nat.beq c C)) (and (Nat.ble T (Nat.mul 2 F)) (Nat.ble C T))
def yZ {n d T F C:Nat}{ck:Nat->Nat->(Nat->Nat->Bool)->Bool}(hc:Pu pl ck)(hT:T=10^pl)(en:u/Nat.gcd u 1000000=n)(ed:1000000/Nat.gcd u 1000000=d)(hn:0<n)(hd:0<d)(h:Yf ck T n d F C=true):yy pl u F C:=by
 obtain⟨f,c,hP,hk⟩:=hc n d _ hn hd h
 simp only[Bool.and_eq_true,Nat.ble_eq]at hk
 obtain⟨⟨h1,h2⟩,h3,h4⟩:=hk
 have h1:=qb3 h1
 have h2:=qb3 h2
 subst h1 h2 en ed hT
 obtain⟨r1,r2⟩:=mT dc hP
 exact⟨r1,r2,h3,h4⟩
def Zh:yy 4 2000000 9772 9773:=yZ (T:=10000) (n:=2) (d:=1) VG dc Nd Nd dc dc Nd
def Zi:yy 2 2000000 97 98:=yZ (T:=100) (n:=2) (d:=1) JP dc Nd Nd dc dc Nd
def Zj:yy 2 6000000 99 100:=yZ (T:=100) (n:=6) (d:=1) JP dc Nd Nd dc dc Nd
noncomputable def sJ (pl:Nat) (n d:Int):Int×Int:=open Classical in if h:∃y:Int×Int,Sh pl n d y.1 y.2 then Classical.choose h else(0,aa pl)
def y0 {f c:Int}(h:Sh pl n d f c):sJ pl n d=(f,c):=by
 have hx:∃y:Int×Int,Sh pl n d y.1 y.2:=⟨(f,c),h⟩
 have h1:=Classical.choose_spec hx
 unfold sJ
 rw[dif_pos hx]
 obtain⟨a,b⟩:=h1.uniq h
 exact Prod.ext a b
def Dp :0<=(sJ pl n d).1/\(sJ pl n d).1<=(sJ pl n d).2/\(sJ pl n d).2<=aa pl:=by
 unfold sJ
 split
 · rename_i h
   exact(Classical.choose_spec h).bd
 · have:=aZ pl
   exact⟨Int.le_refl _,by omega,Int.le_refl _⟩
noncomputable def L3 (pl:Nat) (M s e O qr ct:Int):Sd:=⟨λX=>(sJ pl (X-M) s).1,λX=>(sJ pl (X-M) s).2,λX=>(sJ pl (qr-X) e).1,λX=>(sJ pl (qr-X) e).2,λX=>(sJ pl (O-X) e).1,λX=>(sJ pl (O-X) e).2,ct⟩
def Dq :(L3 pl M s e O qr ct).Ok (aa pl):=⟨λ_=>Dp,λ_=>Dp,λ_=>Dp⟩
def Dr (h:∃f c,Sh pl n d f c):Sh pl n d (sJ pl n d).1 (sJ pl n d).2:=by
 obtain⟨f,c,h⟩:=h
 rw[y0 h];exact h
def Te {P:Int->Prop}{L H:Int}(f:Fr A B G)(t:GY M s e L H O qr)(pb:∀X,P X->Pb X)(hs:∀X,P X->∃f c,Sh pl (X-M) s f c)(hu:∀X,P X\/X=ct->∃f c,Sh pl (qr-X) e f c)(hl:∀X,P X\/X=ct->∃f c,Sh pl (O-X) e f c)(hc:2*ct=O+qr)(p1:1<=pl)(p5:pl<=5):Bm pl (L3 pl M s e O qr ct) P A B G M s e L H O qr:=
 ⟨f,t,pb,λX h=>Dr (hs X h),λX h=>Dr (hu X h),λX h=>Dr (hl X h),hc,Dq,p1,p5⟩
def L4:Fr 1 0 100:=⟨by decide,by decide,by decide,by decide,by decide,by decide⟩
def Le:GY 0 100 10 (-200) 200 (-200) 200:=⟨by decide,by decide,by decide,by decide,by decide⟩
def Tf:vC 1 0 100 0 100 10 (-200) 200 (-200) 200=.agg #[S (qR 0 1).1,S (qR 0 1).2,S (qR 1 1).1,S (qR 1 1).2,S (qR 1 10).1,S (qR 1 10).2,S (qR (-2) 1).1,S (qR (-2) 1).2,S (qR 2 1).1,S (qR 2 1).2,S (qR (-2) 1).1,S (qR (-2) 1).2,S (qR 2 1).1,S (qR 2 1).2]:=
 Lc dc dc dc dc dc dc dc dc dc
def Bs {b c:Int}(hb:0<b)(hd:0<d)(h:a*d=c*b):QV a b=QV c d:=by unfold QV;rw[aU hb hd h]
def vG {c:Int}{b:Bool}(p5:pl<=5)(ha:0<=a)(hac:a<=c)(hcT:c<=10^12)(hn:0<=n/\n<=100000)(hm:0<m/\m<=100000)(hb:(decide (a*m<=n*aa pl)&&decide (n*aa pl<=c*m))=b):
 ∀W,Tb W->CL 15 #[IV a (aa pl) c (aa pl),.int .i64 n,.int .i64 m] W (aC W λv _=>v=.bool b):=by
 intro W hW
 have T:=WD p5
 refine v8 L7 L7 U (λW hW=>?_) hW
 have q:∀z:Int,0<=z->z<=10^12->Q9 z (aa pl):=λz _ _=>iR (Nat.lt_of_le_of_lt (show z.natAbs<=10^12 by omega) dc) U
 have h:=lY (q a ha U) (q c U hcT) (dK (a:=n) (b:=m) U hm.1 U) (Td T.2 hac) hW
 simp only[bS]at h
 rwa [hb]at h
def Lf (p1:1<=pl)(h:80<=n\/n=0\/n<=-80):∃f c,Sh pl n 10 f c:=by
 rcases h with h|rfl|h
 · exact⟨_,_,KJ dc U⟩
 · exact⟨_,_,(pW dc p1).1⟩
 · exact⟨_,_,E2 dc U⟩
def Tg (W:World)(hW:Tb W):CL 4 #[] W (aC W λv _=>v=.bool true):=by
 have T4:aa 4=10000:=by decide
 have T3:aa 3=1000:=by decide
 have T2:aa 2=100:=by decide
 have s2:=Ld (n:=2) (d:=1) dc dc dc dc Zh
 have Aw:Sh 4 (200-0) 100 9772 9773:=s2.1.congr dc dc dc
 have As:Sh 4 (-200-0) 100 (aa 4-9773) (aa 4-9772):=s2.2.congr dc dc dc
 have r2:=Ld (n:=2) (d:=1) dc dc dc dc Zi
 have Ad:=Ld (n:=6) (d:=1) dc dc dc dc Zj
 have E9:=(pW (pl:=3) (d:=10) dc dc).1
 have Ao:∀n:Int,n<=-80->Sh 3 n 10 0 1:=λn h=>E2 dc U
 have hI:∀W,Tb W->_:=λW hW=>Bd (pl:=4) dc dc (λW hW=>p9 L4 Le hW) (λW n0 b Ax Av E7 E1 hW A2=>yT (X:=-200) (Y:=200) (M:=0) (D:=100) L4 kb0 kb0 kb0 dc dc Aw As hW A2) hW
 have hA:∀X:Int,Pb X->∀f1 c1 Am c2,Sh 3 (200-X) 10 f1 c1->Sh 3 (-200-X) 10 Am c2->∀W,Tb W->CL 13 #[vC 1 0 100 0 100 10 (-200) 200 (-200) 200,QV (1*X+0) 100,.int .i64 3] W (aC W λv _=>v=.tuple #[IV (max 0 (f1-c2)) (aa 3) (max 0 (c1-Am)) (aa 3),.int .i64 0]):=λX hX f1 c1 Am c2 h1 h2 W hW=>
  vX (pl:=3) dc dc (λW hW=>pG Z (L4.szX hX).q9 (L4.szX hX).1 (L4.szX hX).2.2 hW) (λW hW=>p9 L4 Le hW) (λW n0 b Ax Av E7 E1 hW A2=>w3 (λW hW A2=>yT (X:=-200) (Y:=200) (M:=X) (D:=10) L4 kb0 kb0 hX dc dc h1 h2 hW A2) hW A2) hW
 obtain⟨P,hP⟩:∃P:Int->Prop,P=λX=>X=-600\/X=0\/X=600\/X=-200\/X=200:=⟨_,rfl⟩
 have q:∀X,X=-600\/X=0\/X=600\/X=-200\/X=200->P X:=λX h=>by rw[hP];exact h
 have q':∀X,P X->X=-600\/X=0\/X=600\/X=-200\/X=200:=λX h=>by rw[hP]at h;exact h
 have t2:Bm 2 (L3 2 0 100 10 (-200) 200 0) P 1 0 100 0 100 10 (-200) 200 (-200) 200:=Te L4 Le (λX h=>by have:=q' X h;unfold Pb;omega) (λX h=>by
  rcases q' X h with rfl|rfl|rfl|rfl|rfl
  · exact⟨_,_,Ad.2.congr dc dc dc⟩
  · exact⟨_,_,(pW dc dc).1⟩
  · exact⟨_,_,Ad.1.congr dc dc dc⟩
  · exact⟨_,_,r2.2.congr dc dc dc⟩
  · exact⟨_,_,r2.1.congr dc dc dc⟩)
  (λX h=>Lf dc (by
   rcases h with h|h
   · have:=q' X h;omega
   · omega)) (λX h=>Lf dc (by
   rcases h with h|h
   · have:=q' X h;omega
   · omega)) dc dc dc
 obtain⟨E,hE⟩:∃E:Nat->Int,E=λk=>if k=0 then -600 else if k=1 then 0 else 600:=⟨_,rfl⟩
 have E0:E 0=-600/\E 1=0/\E 2=600:=by rw[hE];exact⟨rfl,rfl,rfl⟩
 have EP:∀k,P (E k):=λk=>by
  have Ek:E k=-600\/E k=0\/E k=600:=by
   rw[hE]
   rcases(by omega:k=0\/k=1\/2<=k)with rfl|rfl|h
   · exact .inl Z
   · exact .inr (.inl Z)
   · exact .inr (.inr ((if_neg U).trans (if_neg U)))
  refine q _ ?_
  omega
 have EE:∀k,k<=2->E k*((2:Nat):Int)=0*((2:Nat):Int)+100*(12*(k:Int)-6*((2:Nat):Int)):=λk _=>by
  rcases(by omega:k=0\/k=1\/k=2)with rfl|rfl|rfl
  · rw[E0.1];decide
  · rw[E0.2.1];decide
  · rw[E0.2.2];decide
 have x1:Sh 2 (-6) 1 (aa 2-100) (aa 2-99):=Ad.2
 have x2:Sh 2 6 1 99 100:=Ad.1
 have hC:∀W,Tb W->_:=λW hW=>t2.consumer (n:=2) dc dc x1 x2 EE EP (q _ dc) (q _ dc) hW
 have hQ:∀W,Tb W->_:=λW hW=>t2.producer (n:=2) dc dc x1 x2 EE EP (q _ dc) (q _ dc) hW
 have qn:=t2.ok
 have F3:=qn.con (E:=E) (L:=-200) (H:=200) (n:=2)
 have F1:=qn.pro (E:=E) (L:=-200) (H:=200) (n:=2)
 have cB:=qn.conB (E:=E) (L:=-200) (H:=200) (n:=2)
 rw[show aa 2*aa 2=10000 by decide]at cB
 have A1:∀X,(L3 2 0 100 10 (-200) 200 0).fu X=(sJ 2 (200-X) 10).1/\(L3 2 0 100 10 (-200) 200 0).cu X=(sJ 2 (200-X) 10).2/\(L3 2 0 100 10 (-200) 200 0).fl X=(sJ 2 (-200-X) 10).1/\(L3 2 0 100 10 (-200) 200 0).cl X=(sJ 2 (-200-X) 10).2:=λX=>⟨rfl,rfl,rfl,rfl⟩
 have Ap:∀n:Int,80<=n->sJ 2 n 10=(aa 2-1,aa 2):=λn h=>y0 (KJ dc U)
 have Af:∀n:Int,n<=-80->sJ 2 n 10=(0,1):=λn h=>y0 (E2 dc U)
 have Ar:(L3 2 0 100 10 (-200) 200 0).ct=0:=rfl
 generalize L3 2 0 100 10 (-200) 200 0=sd at *
 have Ay:sd.conL E (-200) 200 2=0:=by
  show 0+(sd.tcL (E 0) (min (E 1) (-200))+sd.tcL (max (E 0) 200) (E 1))+(sd.tcL (E 1) (min (E 2) (-200))+sd.tcL (max (E 1) 200) (E 2))=0
  rw[E0.1,E0.2.1,E0.2.2]
  have b1:sd.bL (-600) (-200)=0:=by
   have h1:sd.chL (-600)=0:=by
    unfold Sd.chL
    rw[(A1 (-600)).1,(A1 (-600)).2.2.2,Ap _ dc,Ap _ dc];decide
   have:=(qn.ch (X:=-200)).1
   unfold Sd.bL;omega
  have b2:sd.bL 200 600=0:=by
   have h1:sd.chL 600=0:=by
    unfold Sd.chL
    rw[(A1 600).1,(A1 600).2.2.2,Af _ dc,Af _ dc];decide
   have:=(qn.ch (X:=200)).1
   unfold Sd.bL;omega
  have a1:sd.tcL (-600) (min 0 (-200))=0:=by
   show(if(-600:Int)< -200 then og sd.f sd.c (-600) (-200)*sd.bL (-600) (-200)else 0)=0
   rw[b1];simp
  have a2:sd.tcL (max 0 200) 600=0:=by
   show(if(200:Int)<600 then og sd.f sd.c 200 600*sd.bL 200 600 else 0)=0
   rw[b2];simp
  have F4:sd.tcL (max (-600) 200) 0=0:=if_neg dc
  have F2:sd.tcL 0 (min 600 (-200))=0:=if_neg dc
  omega
 have E4:sd.proL (aa 2) E (-200) 200 2=0:=by
  show 0+sd.tpL (aa 2) (max (E 0) (-200)) (min (E 1) 200)+sd.tpL (aa 2) (max (E 1) (-200)) (min (E 2) 200)=0
  rw[E0.1,E0.2.1,E0.2.2]
  have h1:sd.chH 0=100:=by
   unfold Sd.chH
   rw[(A1 0).2.1,(A1 0).2.2.1,Ap _ dc,Af _ dc];decide
  have key:∀X Y:Int,X<=0->0<=Y->sd.tpL (aa 2) X Y=0:=by
   intro X Y hX hY
   have h2:=(qn.b (X:=X) (Y:=Y)).2.2
   have h3:100<=sd.bH X Y:=by
    unfold Sd.bH
    rw[if_pos U,Ar,h1];omega
   unfold Sd.tpL
   rw[show max 0 (aa 2-sd.bH X Y)=0 by omega]
   simp
  rw[key _ _ dc dc,key _ _ dc dc]
  rfl
 have Ab:dp 0 (aa 2*aa 2) (aa 2)=0:=by decide
 have rs:(aa 2-99+aa 2-99)*aa 2=200:=by decide
 rw[Ay,rs]at hC
 rw[E4,rs]at hQ
 have clb:∀z:Int,0<=z->2<=dz (200+z) (aa 2*aa 2) (aa 2):=λz EW=>by
  rw[T2];unfold dz;split <;>omega
 have Aq:∀z:Int,z<=10^12->dz (200+z) (aa 2*aa 2) (aa 2)<=10^12:=λz EW=>by
  rw[T2];unfold dz;split <;>omega
 have c1:=clb _ (show 0<=sd.conH E (-200) 200 2 by omega)
 have c2:=clb _ (show 0<=sd.proH (aa 2) E (-200) 200 2 by omega)
 refine GD (λW hW=>Tc (l:=[.int .i64 4]) (hI W hW) Tf) (λW hW=>Tc (l:=[QV 2 1,.int .i64 3]) (by have h:=hA 200 kb0 _ _ _ _ E9 (Ao _ dc) W hW;rw[Bs (c:=2) (d:=1) dc dc dc]at h;exact h) Tf)
  (λW hW=>CI (pl:=4) (n1:=-2) (d1:=1) (n2:=-2) (d2:=1) dc dc dc dc dc dc dc dc dc dc dc dc dc dc dc dc dc dc dc dc dc dc dc dc s2.2 s2.2 hW)
  (λW hW=>Tc (l:=[.int .i64 2,.int .i64 2]) (hC W hW) Tf) (λW hW=>Tc (l:=[.int .i64 2,.int .i64 2]) (hQ W hW) Tf)
  (λW hW=>yY (pl:=2) dc dc (λW hW=>Tc (l:=[]) (p9 L4 Le hW) Tf) hW) (λW hW=>Do (pl:=2) dc dc (λW hW=>so hW) hW)
  (λW hW=>Tc (l:=[QV 9 1,.int .i64 3]) (by have h:=hA 900 kb0 _ _ _ _ (Ao _ dc) (Ao _ dc) W hW;rw[Bs (c:=9) (d:=1) dc dc dc]at h;exact h) Tf)
  (λW hW=>Tc (l:=[]) (p9 L4 Le hW) Tf) (λW hW=>so hW)
  (vG (pl:=4) dc dc dc dc dc dc dc) (vG (pl:=4) dc dc dc dc dc dc dc) (vG (pl:=3) dc dc dc dc dc dc dc) (vG (pl:=4) dc dc dc dc dc dc dc) (vG (pl:=2) dc dc (by rw[Ab];omega) (Aq _ U) dc dc ?_) (vG (pl:=2) dc dc (by rw[Ab];omega) (Aq _ U) dc dc ?_) (vG (pl:=3) dc dc dc dc dc dc dc) hW
 · rw[Ab,Bool.and_eq_true,decide_eq_true_eq,decide_eq_true_eq];rw[T2]at *;omega
 · rw[Ab,Bool.and_eq_true,decide_eq_true_eq,decide_eq_true_eq];rw[T2]at *;omega
def Yg:mX (10^16) (25066282746309964,25066282746310042):=⟨(31415926535897830,31415926535898024),25066282746309964,25066282746310041,by decide +kernel,by decide +kernel,⟨by decide +kernel,by decide +kernel⟩,⟨by decide +kernel,by decide +kernel⟩,by decide +kernel,rfl⟩
def Yh:mX (10^17) (250662827463100006,250662827463100089):=⟨(314159265358979214,314159265358979420),250662827463100006,250662827463100088,by decide +kernel,by decide +kernel,⟨by decide +kernel,by decide +kernel⟩,⟨by decide +kernel,by decide +kernel⟩,by decide +kernel,rfl⟩
def Yi:mX (10^18) (2506628274631000450,2506628274631000540):=⟨(3141592653589793108,3141592653589793332),2506628274631000450,2506628274631000539,by decide +kernel,by decide +kernel,⟨by decide +kernel,by decide +kernel⟩,⟨by decide +kernel,by decide +kernel⟩,by decide +kernel,rfl⟩
def Yj:mX (10^41) (250662827463100050241576528481104525300596,250662827463100050241576528481104525300800):=⟨(314159265358979323846264338327950288419460,314159265358979323846264338327950288419970),250662827463100050241576528481104525300596,250662827463100050241576528481104525300799,by decide +kernel,by decide +kernel,⟨by decide +kernel,by decide +kernel⟩,⟨by decide +kernel,by decide +kernel⟩,by decide +kernel,rfl⟩
def Yk:mX (10^42) (2506628274631000502415765284811045253006884,2506628274631000502415765284811045253007090):=⟨(3141592653589793238462643383279502884196912,3141592653589793238462643383279502884197426),2506628274631000502415765284811045253006884,2506628274631000502415765284811045253007089,by decide +kernel,by decide +kernel,⟨by decide +kernel,by decide +kernel⟩,⟨by decide +kernel,by decide +kernel⟩,by decide +kernel,rfl⟩
def Yl:mX (10^43) (25066282746310005024157652848110452530069772,25066282746310005024157652848110452530069984):=⟨(31415926535897932384626433832795028841971456,31415926535897932384626433832795028841971986),25066282746310005024157652848110452530069772,25066282746310005024157652848110452530069983,by decide +kernel,by decide +kernel,⟨by decide +kernel,by decide +kernel⟩,⟨by decide +kernel,by decide +kernel⟩,by decide +kernel,rfl⟩
def Ym (o:Option N2)(K:N2->Bool):Bool:=match o with
 |none=>false
 |some r=>K r
def Lg {o:Option N2}{K:N2->Bool}(h:Ym o K=true):∃r,o=some r/\K r=true:=by
 cases o with
 |none=>cases h
 |some r=>exact⟨r,rfl,h⟩
def Yn (H cT:Nat)(r:N2)(f c:Nat)(K:Bool):Bool:=cond (Nat.ble (gl (H+r.2) cT) ((H+r.1)/cT+1)) (Nat.beq ((H+r.1)/cT) f&&Nat.beq (gl (H+r.2) cT) c) K
def Lh {r:N2}{K:Bool}(h:Yn H cT r f c K=true):((H+r.1)/cT=f/\gl (H+r.2) cT=c/\c<=f+1)\/(¬gl (H+r.2) cT<=(H+r.1)/cT+1/\K=true):=by
 rcases ee h with⟨h1,hk⟩|⟨h1,hk⟩
 · rw[Nat.ble_eq]at h1
   simp only[Bool.and_eq_true]at hk
   have W:=qb3 hk.1
   have qn:=qb3 hk.2
   rw[W,qn]at h1
   exact Or.inl ⟨W,qn,h1⟩
 · exact Or.inr ⟨λx=>(by rw[Nat.ble_eq_true_of_le x]at h1;cases h1),hk⟩
def Wt (S H cT S' H' cU:Nat)(cA cB:N2)(n d f c:Nat):Bool:=Ym (Gj S cA n d) λr=>Yn H cT r f c (Ym (Gj S' cB n d) λr=>Yn H' cU r f c false)
def Wu {S n d:Nat}{c r:N2}(hn:0<n)(hH:S=2*H)(h:Gj S c n d=some r):N0 S c (n:Int) d=some (((H+r.1:Nat):Int),((H+r.2:Nat):Int))/\N0 S c (-(n:Int)) d=some ((H:Int)-(r.2:Int),(H:Int)-(r.1:Int)):=by
 have W:bV S 1 2=(H,H):=by
  unfold bV
  rw[gq dc,Nat.one_mul,hH,Nat.mul_div_cancel_left _ dc]
  congr 1
  omega
 unfold N0
 constructor
 · rw[show(n:Int).natAbs=n from rfl,h,Option.map_some,if_neg U,W];rfl
 · rw[show(-(n:Int)).natAbs=n by omega,h,Option.map_some,if_pos U,W];rfl
def Fh {a b:Nat}:vL (a:Int) (b:Int)=((gl a b:Nat):Int):=by
 unfold vL gl
 rw[<-Int.natCast_emod,<-Int.natCast_ediv]
 by_cases h:a%b=0
 · rw[if_pos h,if_pos U]
 · rw[if_neg h,if_neg U];rfl
def Bt (ht:0<t):(T*t-a)/t=T-vL a t/\vL (T*t-a) t=T-a/t:=by
 have qn:=j9 (a:=a) (b:=t) (t:=1) ht
 have W:=pB (a:=a) (b:=t) (t:=1) ht
 unfold dp dz at qn W
 rw[Int.mul_one,Int.mul_one]at qn W
 have h1:(T*t-a)/t=T+-a/t:=by
  rw[show T*t-a=-a+T*t by omega,Int.add_mul_ediv_right _ _ U];omega
 have h2:(T*t-a)%t=-a%t:=by
  rw[show T*t-a=-a+T*t by omega,Int.add_mul_emod_self_right]
 unfold vL
 rw[h1,h2]
 constructor
 · rw[qn];omega
 · split
   · rename_i h;rw[if_pos h]at W;omega
   · rename_i h;rw[if_neg h]at W;omega
def Li {k n d:Nat}{c r:N2}(hn:0<n)(hH:10^(pl+k)=2*H)(h:Gj (10^(pl+k)) c n d=some r):
 Oa pl k c (n:Int) d (((H+r.1)/10^k:Nat):Int) ((gl (H+r.2) (10^k):Nat):Int)/\Oa pl k c (-(n:Int)) d (aa pl-((gl (H+r.2) (10^k):Nat):Int)) (aa pl-(((H+r.1)/10^k:Nat):Int)):=by
 obtain⟨h1,h2⟩:=Wu hn hH h
 have ht:0<((10^k:Nat):Int):=by have:=Nat.pow_pos (n:=k) (show 0<10 by decide);omega
 have hT:aa pl*((10^k:Nat):Int)=2*(H:Int):=by
  unfold aa
  rw[<-Int.natCast_mul,<-Nat.pow_add,hH];omega
 refine⟨⟨_,h1,Int.natCast_ediv .. |>.symm,Fh⟩,⟨_,h2,?_,?_⟩⟩
 · show((H:Int)-(r.2:Int))/_=_
   rw[show(H:Int)-(r.2:Int)=aa pl*((10^k:Nat):Int)-((H+r.2:Nat):Int)by omega,(Bt ht).1,Fh]
 · show vL ((H:Int)-(r.1:Int)) _=_
   rw[show(H:Int)-(r.1:Int)=aa pl*((10^k:Nat):Int)-((H+r.1:Nat):Int)by omega,(Bt ht).2,<-Int.natCast_ediv]
def Ti {S cU n d:Nat}{cA cB:N2}(hS:S=10^(pl+15))(hH:S=2*H)(hT:cT=10^15)(hS':S'=10^(pl+40))(hH':S'=2*H')(hU:cU=10^40)(hn:0<n)(h:Wt S H cT S' H' cU cA cB n d f c=true):
 WM pl cA cB (n:Int) d (f:Int) (c:Int)/\WM pl cA cB (-(n:Int)) d (aa pl-(c:Int)) (aa pl-(f:Int)):=by
 obtain⟨r,hr,h⟩:=Lg h
 rw[hS]at hr hH
 obtain⟨p1,p2⟩:=Li (k:=15) hn hH hr
 rw[<-hT]at p1 p2
 rcases Lh h with⟨e1,e2,h1⟩|⟨h2,h⟩
 · rw[e1,e2]at p1 p2
   exact⟨Or.inl ⟨p1,by omega⟩,Or.inl ⟨p2,by omega⟩⟩
 · obtain⟨qn,W,h⟩:=Lg h
   rw[hS']at W hH'
   obtain⟨q1,q2⟩:=Li (k:=40) hn hH' W
   rw[<-hU]at q1 q2
   rcases Lh h with⟨e1,e2,h1⟩|⟨_,h⟩
   · rw[e1,e2]at q1 q2
     exact⟨Or.inr ⟨_,_,p1,by omega,q1,by omega⟩,Or.inr ⟨_,_,p2,by omega,q2,by omega⟩⟩
   · cases h
def Wv (n d:Nat):Bool:=Si n d λf c=>(Nat.ble 10 (2*f)&&Nat.ble c 10)&&Wt 10000000000000000 5000000000000000 1000000000000000 100000000000000000000000000000000000000000 50000000000000000000000000000000000000000 10000000000000000000000000000000000000000 (25066282746309964,25066282746310042) (250662827463100050241576528481104525300596,250662827463100050241576528481104525300800) n d f c
def Ww (n d:Nat):Bool:=NE n d λf c=>(Nat.ble 100 (2*f)&&Nat.ble c 100)&&Wt 100000000000000000 50000000000000000 1000000000000000 1000000000000000000000000000000000000000000 500000000000000000000000000000000000000000 10000000000000000000000000000000000000000 (250662827463100006,250662827463100089) (2506628274631000502415765284811045253006884,2506628274631000502415765284811045253007090) n d f c
def Wx (n d:Nat):Bool:=NF n d λf c=>(Nat.ble 1000 (2*f)&&Nat.ble c 1000)&&Wt 1000000000000000000 500000000000000000 1000000000000000 10000000000000000000000000000000000000000000 5000000000000000000000000000000000000000000 10000000000000000000000000000000000000000 (2506628274631000450,2506628274631000540) (25066282746310005024157652848110452530069772,25066282746310005024157652848110452530069984) n d f c
def GH (u:Nat):Bool:=fz (Nat.gcd u 1000000) λg=>fz (Nat.div u g) λn=>fz (Nat.div 1000000 g) λd=>Wv n d&&(Ww n d&&Wx n d)
def Y3 (pl u f c:Nat):Prop:=yy pl u f c/\Be (u:Int) pl f c/\Be (-(u:Int)) pl (aa pl-c) (aa pl-f)
def Ds {S cU:Nat}{cA cB:N2}(p1:1<=pl)(hp:pl<=12)(hS:S=10^(pl+15))(hH:S=2*H)(hT:cT=10^15)(hS':S'=10^(pl+40))(hH':S'=2*H')(hU:cU=10^40)(hA:mX (10^(pl+15)) cA)(hB:mX (10^(pl+40)) cB)(h0:0<u)(h8:u<8000000)(hc:JO pl (u/Nat.gcd u 1000000) (1000000/Nat.gcd u 1000000) f c)(h1:10^pl<=2*f)(h2:c<=10^pl)(h:Wt S H cT S' H' cU cA cB (u/Nat.gcd u 1000000) (1000000/Nat.gcd u 1000000) f c=true):Y3 pl u f c:=by
 obtain⟨r1,r2⟩:=mT dc hc
 have A1:=hc.1
 obtain⟨a,b⟩:=Ti hS hH hT hS' hH' hU A1 h
 obtain⟨W,qn⟩:=AC (u:=u) (d:=1000000) dc
 obtain⟨Ab,A2⟩:=AB (N:=(u:Int)) (D:=1000000) dc
 have e1':cG (u:Int) 1000000=((u/Nat.gcd u 1000000:Nat):Int):=W
 have e2':(bK (u:Int) 1000000).toNat=1000000/Nat.gcd u 1000000:=qn
 refine⟨⟨r1,r2,h1,h2⟩,K4 U U p1 hp hA hB ?_,K4 U U p1 hp hA hB ?_⟩
 · rw[kK,e1',e2'];exact a
 · rw[kK,Ab,A2,e1',e2'];exact b
def Lj (h0:0<u)(h8:u<8000000)(h:GH u=true):∀pl,1<=pl->pl<=3->∃f c,Y3 pl u f c:=by
 unfold GH at h
 rw[dl,dl,dl]at h
 have W:0<u/Nat.gcd u 1000000:=Nat.div_pos (Nat.le_of_dvd h0 (Nat.gcd_dvd_left _ _)) (Nat.gcd_pos_of_pos_left _ h0)
 have hd:0<1000000/Nat.gcd u 1000000:=Nat.div_pos (Nat.le_of_dvd dc (Nat.gcd_dvd_right _ _)) (Nat.gcd_pos_of_pos_left _ h0)
 change (Wv (u/Nat.gcd u 1000000) (1000000/Nat.gcd u 1000000)&&(Ww (u/Nat.gcd u 1000000) (1000000/Nat.gcd u 1000000)&&Wx (u/Nat.gcd u 1000000) (1000000/Nat.gcd u 1000000)))=true at h
 simp only[Bool.and_eq_true]at h
 obtain⟨A1,qn,A2⟩:=h
 intro pl _ _
 rcases(by omega:pl=1\/pl=2\/pl=3)with rfl|rfl|rfl
 · obtain⟨f,c,a,b⟩:=VE _ _ _ W hd A1
   simp only[Bool.and_eq_true,Nat.ble_eq]at b
   exact⟨f,c,Ds dc dc dc dc dc Nd Nd Nd Yg Yj h0 h8 a b.1.1 b.1.2 b.2⟩
 · obtain⟨f,c,a,b⟩:=JP _ _ _ W hd qn
   simp only[Bool.and_eq_true,Nat.ble_eq]at b
   exact⟨f,c,Ds dc dc dc dc dc Nd Nd Nd Yh Yk h0 h8 a b.1.1 b.1.2 b.2⟩
 · obtain⟨f,c,a,b⟩:=Sj _ _ _ W hd A2
   simp only[Bool.and_eq_true,Nat.ble_eq]at b
   exact⟨f,c,Ds dc dc dc dc dc Nd Nd Nd Yi Yl h0 h8 a b.1.1 b.1.2 b.2⟩
def eq (e:Nat)(n:Nat):Nat->Bool:=Nat.rec (motive:=λ_=>Nat->Bool) (λ_=>true) (λ_ ih K=>fz (Nat.div (Nat.mul K 500000) e) λdn=>fz (Nat.div (Nat.add (Nat.mul K 500000) (Nat.pred e)) e) λup=>cond (GH dn) (cond (cond (Nat.beq dn up) true (GH up)) (ih (Nat.succ K)) false) false) n
def bG {e:Nat}:∀{n a:Nat},eq e n a=true->∀K,a<=K->K<a+n->GH (K*500000/e)=true/\GH ((K*500000+(e-1))/e)=true
 |0,a,_,K,h1,h2=>by omega
 | n + 1,a,h,K,h1,h2=>by
   change fz (Nat.div (Nat.mul a 500000) e) (λdn=>fz (Nat.div (Nat.add (Nat.mul a 500000) (Nat.pred e)) e) λup=>cond (GH dn) (cond (cond (Nat.beq dn up) true (GH up)) (eq e n (a+1)) false) false)=true at h
   rw[dl,dl]at h
   rcases ee h with⟨k1,h⟩|⟨_,h⟩
   · rcases ee h with⟨k2,h⟩|⟨_,h⟩
     · by_cases e0:K=a
       · subst e0
         refine⟨k1,?_⟩
         rcases ee k2 with⟨k3,_⟩|⟨_,k3⟩
         · have k3:=qb3 k3
           have W:GH (Nat.div (Nat.add (Nat.mul K 500000) (Nat.pred e)) e)=true:=by rw[<-k3];exact k1
           exact W
         · exact k3
       · exact bG h K U U
     · cases h
   · cases h
end
end Go.Proofs.YthpinljhfnodeaaGreatDoor
