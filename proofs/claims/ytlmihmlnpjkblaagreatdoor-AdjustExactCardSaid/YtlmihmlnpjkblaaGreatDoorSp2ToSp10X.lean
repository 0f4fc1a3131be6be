/- Part of the proof of a statement about an adjustment. -/
import Derived.Test.YtlmihmlnpjkblaaGreatDoorAj10ToAjMX
set_option linter.all false
namespace Go.Proofs.YtlmihmlnpjkblaaGreatDoor
variable {lb lbn:Array Value}{a b t c d:Int}{k sO pl g b1 b2 gn n lo i cp gf:Nat}{A:Option Addr}{w w0:World}
set_option maxRecDepth 100000
open Go Go.Eng Go.RowKit Tryz
attribute [local irreducible] wpListIn Code.wpIn Oper.wpIn Exit.then Exit.inBlock Exit.noGoto
set_option maxHeartbeats 40000000
def vN (p:N2):Value:=.agg #[S (nS p.1),S (nS p.2)]
def fv (g:Nat)(lb:Array Value):Value:=.func (.func g) #[] lb
def DG (t0:N2)(f:Value)(W:World)(v:Value):Prop:=∃b1 b2,v=.func (.func 224) #[] #[pT b1,pT b2]/\ao W b1 191 #[S (nS t0.1),S (nS t0.2)]/\ao W b2 245 #[f]
def DG.ext {t0:N2}{f v:Value}{A B:World}(k:aP A B)(h:DG t0 f A v):DG t0 f B v:=by
 obtain⟨b1,b2,e,h1,h2⟩:=h
 exact⟨b1,b2,e,h1.ext k,h2.ext k⟩
def rT (q:Bool)(t l:N2):Bool:=q&&(decide (t.2<=2)&&decide (t.2*2<=l.2+2))
section
variable {q:Bool}{t l:N2}
def ZU (h:q=false):Value.bool q=.bool (rT q t l):=by subst h;rfl
def ZV (h:q=true)(h1:¬aO ((t.2:Nat):Int) ((2:Nat):Int)<=0):Value.bool false=.bool (rT q t l):=by
 rw[da]at h1;subst h;unfold rT;rw[decide_eq_false U];rfl
def ZW (h:q=true)(h1:aO ((t.2:Nat):Int) ((2:Nat):Int)<=0):Value.bool (decide (aO ((t.2*2:Nat):Int) ((l.2+2:Nat):Int)<=0))=.bool (rT q t l):=by
 rw[da]at h1;subst h;unfold rT;rw[decide_eq_true (show t.2<=2 by omega),Bool.true_and,Bool.true_and]
 congr 1;rw[decide_eq_decide,da];omega
end
def wc (T:Nat->N2):Nat->N2
 |0=>(0,0)
 |k+1=>T k
def AK.last {T:Nat->N2}{m:Nat}(h:AK T m)(hk:k<=m):rT (decide (k≠0)) (T k) (wc T k)=decide (k=m):=by
 unfold rT
 by_cases e:k=m
 · subst e
   have E:=h.pos
   obtain⟨p,rfl⟩:∃p,k=p+1:=⟨k-1,by omega⟩
   have:=h.stop
   rw[decide_eq_true U,decide_eq_true this.1,decide_eq_true (show(T (p+1)).2*2<=(wc T (p+1)).2+2 from this.2),decide_eq_true Z];rfl
 · rw [decide_eq_false e]
   rcases h.go k U with h0|h0
   · rw[decide_eq_false U];rfl
   · cases k with
     |zero=>rfl
     | succ p=>
       have h1:¬((T (p+1)).2<=2/\(T (p+1)).2*2<=(wc T (p+1)).2+2):=h0
       by_cases h2:(T (p+1)).2<=2
       · rw[decide_eq_false (λe=>h1 ⟨h2,e⟩)];simp
       · rw[decide_eq_false h2];simp
def MN {a b:Nat}{l m:List UInt8}(hl:l=nS a)(hm:m=nS b)(ha:Fi a)(hb:Fi b):CL 64 #[S l,S m] w (aI w λv _=>v=.int .i64 (aO (a:Int) (b:Int))):=by
 subst hl hm
 exact l8 (pm _ _ _) (qb2 (Value.int .i64) (K7 ha.z hb.z))
def rU (hS:Sc sO)(ht:Tb w):CL 191 #[.agg #[.int .i64 pl,S (nS sO)],.int .i64 0] w (aI w λv _=>v=.agg #[S (nS 0),S (nS 0)]):=by
 have h:=iL (n:=0) (pl:=pl) hS dc (by rw[Nat.zero_mul];unfold Fi;decide) ht
 simp only[Nat.zero_mul]at h
 exact h
def vz {t0:N2}:
 CL 190 #[.agg #[S (nS t0.1),S (nS t0.2)],.func (.func g) #[] lb] w (aI w λv w'=>DG t0 (fv g lb) w' v):=by
 refine aE func190 Z (I ?_);refine bx (λH A0 E=>?_);have G:=A0.2;refine bx (v:=.func (.func g) #[] lb) (hx:=rfl) (λ_ O W=>?_);have E:=be O.2 E;have G:=xt G O.2;refine aa (aL (v:=.nilFunc) Z ?_);refine I ?_;refine aa (aF (vf:=[]) (vc:=[pT w.heap.size,pT H.heap.size]) Z Z ?_);refine I ?_;exact am (t:=4) (v:=.func (.func 224) #[] #[pT w.heap.size,pT H.heap.size]) Z G ⟨_,_,rfl,E,W⟩ Z
def Qk {q:Bool}{t l:N2}(h1:ao w b1 4 #[.bool q])(h2:ao w b2 191 #[S (nS l.1),S (nS l.2)])(ht2:Bk 99 t)(hl:Bk 99 l)(ht:Tb w):
 CL 221 #[.agg #[S (nS t.1),S (nS t.2)],pT b1,pT b2] w (aI w λv w'=>v=.bool (rT q t l)):=by
 have H:=(ht2.fi dc).2;have f2:Fi (t.2*2):=by have:=ht2.2;unfold Fi;omega
 have O:Fi (l.2+2):=by have:=hl.2;unfold Fi;omega
 refine aE func221 Z (I ?_);refine bx (λ_ G _=>?_);have h1:=be G.2 h1;have h2:=be G.2 h2;have E:=G.2;refine I ?_;rcases qa4 q with cm|cm;by_cases cr:(aO ((t.2:Nat):Int) ((2:Nat):Int))<=0;refine bH 13 ?_;refine sf ?_;refine aR (V:=.int .i64 (aO ((t.2:Nat):Int) ((2:Nat):Int))) (λ_ _ _ _=>?_) ?_;refine I ?_;refine clb xr (hc:=MN Z wS H (g8 (k:=1) dc dc)) (hk:=?_);rintro _ _ Af rfl;have As:=Af.2;refine I ?_;exact fs ⟨As,rfl⟩;refine sf ?_;refine aR (V:=S (nS (t.2*2))) (λ_ _ Ao _=>?_) ?_;refine I ?_;refine clb iu (hc:=gd Z wS H (g8 (k:=1) dc dc) f2 (ht.ext (xt E Ao))) (hk:=?_);rintro _ _ W rfl;have A1:=W.2;refine I ?_;exact fs ⟨A1,rfl⟩;refine sf ?_;intro _ _ A2 _;have E:=xt E A2.2;with_reducible refine ix Z ?_
 refine I ?_;refine cl ml (kf Z wS O (ht.ext E)) ?_;rintro _ _ Ap rfl;have E:=xt E Ap.2;refine I ?_;refine cl xr (MN Z Z f2 O) ?_;rintro _ _ A0 rfl;have E:=xt E A0.2;refine I ?_;exact am (t:=4) (v:=.bool (decide ((aO ((t.2*2:Nat):Int) ((l.2+2:Nat):Int))<=0))) Z E (ZW cm cr) Z;refine bH 13 ?_;refine sf ?_;refine aR (V:=.int .i64 (aO ((t.2:Nat):Int) ((2:Nat):Int))) (λ_ _ _ _=>?_) ?_;refine I ?_;refine clb xr (hc:=MN Z wS H (g8 (k:=1) dc dc)) (hk:=?_);rintro _ _ Ar rfl;have Am:=Ar.2;refine I ?_;exact fs ⟨Am,rfl⟩;refine sf ?_;intro _ _ Aq _;have E:=xt E Aq.2;with_reducible refine ix Z ?_
 refine I ?_;exact am (t:=4) (v:=.bool false) Z E (ZV cm cr) Z;refine bH 13 ?_;refine sf ?_;intro _ _ Ab _;have E:=xt E Ab.2;with_reducible refine ix Z ?_
 refine I ?_;exact am (t:=4) (v:=.bool false) Z E ((qb2 Value.bool cm).symm.trans (ZU cm)) Z
def Ql {P:Program}{f:FuncId}{vs:List Value}{R:Ending->World->Prop}(h:Calls P f (vs.toArray++lb) w R):Calls P f (vs++lb.toList).toArray w R:=by rw[show(vs++lb.toList).toArray=vs.toArray++lb from Array.toList_inj.1 JT];exact h
def DI {T:Nat->N2}{m:Nat}{bs:List Nat}(E:aP w0 w)(h1:ao w0 b1 191 #[S (nS (T 0).1),S (nS (T 0).2)])(h2:ao w0 b2 245 #[fv gn lbn])(hbs:∀b∈bs,w0.heap.size<=b/\b<w.heap.size)(hen:Enters prog gn)(hm:m<100000)(hn:∀k<m,∀W,aP w0 W->CL gn (#[vN (T k),.int .i64 ((k+1:Nat):Int)]++lbn) W (aI W λv _=>v=vN (T (k+1)))):
 RE prog 224 [pT b1,pT b2] (λk=>[vN (T k)]) bs (λW=>aP w0 W) (m+1) w:=by
 intro l k6 Jx W hW hJ0 hJx0 hM hY G;have E:=xt E hW;have zE:=bz E;have ES:=bt h1;have G0:=bt h2;have h1:=be E h1;have h2:ao W b2 245 #[.func (.func gn) #[] lbn]:=be E h2;have E1:=bz hW;obtain⟨hW0,_⟩:∃n,n=W.heap.size:=⟨_,rfl⟩;refine qE ?_;refine Ec func224 Z (I ?_);have E4:=bt h1;have wr:=bt h2;refine bH 3 ?_;refine aB (λ_ _ Av _=>by have h1:=be Av h1;have G:=(hJ0 _).ext Av G;refine I ?_;exact aG) ?_;refine bC (λv CG=>∃b:Nat,v=pT b/\W.heap.size<=b/\ao CG b 191 #[S [],S []]) (hs:=λ_ _ _ k ⟨b,e,l,h⟩=>⟨b,e,l,h.ext k⟩) (λ_ _ Aq _=>?_) ?_;have G:=(hJ0 _).ext Aq G;refine al bN (λ_ As Ay=>?_);have G:=(hJ0 _).ext As.2 G;have ny:=As.2;refine I ?_;exact fs ⟨ny,⟨_,rfl,(by have:=bz Aq;omega),Ay⟩⟩;refine aB (λ_ _ B1 _=>by have G:=(hJ0 _).ext B1 G;refine I ?_;exact aG) ?_;refine sf ?_;intro _ _ Af od;have h1:=be Af.2 h1;have h2:=be Af.2 h2;have G:=(hJ0 _).ext Af.2 G;have E:=xt E Af.2;obtain⟨Aw,B2,_,nm⟩:=(od 1 5 Z Z);refine SA nm (λ_ Ap CB=>?_);have h1:=pb Ap h1;have h2:=pb Ap h2;have G:=(hJ0 _).put Ap U G;have E:=bh Ap E;refine I ?_;refine cg [(4,5),(7,16)] (λC1 e W=>∃k:Nat,∃Am:Nat,(m+1-k=C1)/\(e 4=.int .i64 ((k+1:Nat):Int))/\(e 5=pT Am)/\(hW0<=Am)/\(aP w0 W)/\(ao W b1 191 #[S (nS ((T 0).1)),S (nS ((T 0).2))])/\(ao W b2 245 #[.func (.func gn) #[] lbn])/\(ao W Am 191 #[S (nS ((T k).1)),S (nS ((T k).2))])/\(k6 k W)) (m+1-0) ⟨0,Aw,rfl,rfl,B2,U,E,h1,h2,CB,G⟩ ?_
 rintro _ _ B0 ⟨k,Am,rfl,E9,E5,E7,H,h1,h2,O,Az⟩;have FR:=bt O;refine I ?_;refine aa (xE (l:=l) (vs:=[vN (T k)]) Z (au Z Z) (hY k B0 Az) ?_);rintro _ _ D2;obtain⟨q,rfl,E0,Ax⟩:=ry D2;show wpListIn _ _ _ _ _ _ _ _;refine I ?_;refine xp (q:=q) Z (λAr=>?_) (λAr=>?_);obtain⟨hJ,hC,hK⟩:=E0 Ar;have h1:=hC.blk (λh=>by have:=hbs _ h;omega) h1;have h2:=hC.blk (λh=>by have:=hbs _ h;omega) h2;have O:=hC.blk (λh=>by have:=hbs _ h;omega) O;have H:=hK H;have zC:=hC.size;have E6:=hM _ _ hJ;refine I ?_;refine aa (lV (vs:=[.agg #[S (nS ((T k).1)),S (nS ((T k).2))],.int .i64 ((k+1:Nat):Int)]) (lb:=lbn.toList) hen Z Z (Ql (hn k U _ H)) ?_);rintro _ _ Ab rfl;have h1:=be Ab.2 h1;have h2:=be Ab.2 h2;have O:=be Ab.2 O;have hJ:=(hJ0 _).ext Ab.2 hJ;have H:=xt H Ab.2;refine SA O (λCY A2 Ao=>?_);have h1:=pb A2 h1;have h2:=pb A2 h2;have hJ:=(hJ0 _).put A2 U hJ;have H:=bh A2 H;have GC:=iQ A2;refine I ?_;refine al bN (λ_ A1 D1=>?_);have h1:=be A1.2 h1;have h2:=be A1.2 h2;have Ao:=be A1.2 Ao;have hJ:=(hJ0 _).ext A1.2 hJ;have H:=xt H A1.2;refine SA D1 (λ_ A0 Cr=>?_);have h1:=pb A0 h1
 have h2:=pb A0 h2;have Ao:=pb A0 Ao;have hJ:=(hJ0 _).put A0 U hJ;have H:=bh A0 H;have EW:=iQ A0;refine I ?_;refine gO (I ?_);exact bJ ⟨k+1,CY.heap.size,rfl,rfl,rfl,U,H,h1,h2,Cr,hJ⟩;refine I ?_;exact sG Z λv=>⟨⟨v,rfl⟩,_,Ax BT⟩
def Qm {T:Nat->N2}{m:Nat}(h:AK T m)(hk:k<=m):Bk 99 (wc T k):=by
 cases k with
 |zero=>exact⟨by simp[wc],by simp[wc]⟩
 |succ p=>exact(h.bd p U).mono dc
set_option maxRecDepth 100000 in
def DJ {T:Nat->N2}{m:Nat}(hR:AK T m)(hS:Sc sO)(hB1:ao w b1 191 #[S (nS (T 0).1),S (nS (T 0).2)])(hB2:ao w b2 245 #[fv gn lbn])(hen:Enters prog gn)(hn:∀k<m,∀W,aP w W->CL gn (#[vN (T k),.int .i64 ((k+1:Nat):Int)]++lbn) W (aI W λv _=>v=vN (T (k+1))))(ht:Tb w):
 CL 189 #[.agg #[.int .i64 pl,S (nS sO)],.func (.func 224) #[] #[pT b1,pT b2]] w (aI w λv w'=>v=.agg #[S (nS ((vY T m).1)),S (nS ((vY T m).2))]):=by
 refine rx func189 Z (I ?_);refine bx (λB2 cm Vm=>?_);have H:=cm.2;refine al bN (λKM cz eg=>?_);have⟨Vm,H⟩:=bn cz.2 Vm H;refine I ?_;have La:=ac1 KM
 refine IU sd 7 (λe0 ls e W=>∃A2:Nat,∃A1:Nat,∃A0:Nat,(∀t,Gd [5,6,7,10,11,12,13] t=false->e t=e0 t)/\(aP w W)/\(KM.heap.size<=W.heap.size)/\(ls 0=true->e 10=.agg #[.int .i64 pl,S (nS sO)])/\(ls 1=true->e 11=.agg #[S (nS 0),S (nS 0)])/\(ls 2=true->e 12=.agg #[.int .i64 pl,S (nS sO)])/\(ls 3=true->e 13=.agg #[S (nS 0),S (nS 0)])/\(ls 4=true->e 5=pT A2)/\(ls 5=true->e 6=pT A1)/\(ls 6=true->e 7=pT A0)/\(ls 4=true->KM.heap.size<=A2)/\(ls 5=true->KM.heap.size<=A1)/\(ls 6=true->KM.heap.size<=A0)/\(ls 4=true->ls 5=true->A2≠A1)/\(ls 4=true->ls 6=true->A2≠A0)/\(ls 5=true->ls 6=true->A1≠A0)/\(ao W w.heap.size 189 #[.int .i64 pl,S (nS sO)])/\(ao W B2.heap.size 191 #[S [],S []])/\(ls 4=true->ao W A2 191 #[S [],S []])/\(ls 5=true->ao W A1 191 #[S [],S []])/\(ls 6=true->ao W A0 4 #[.bool false])) ⟨0,0,0,(λ_ _=>rfl),(xt H La),(bz La),(ff Z),(ff Z),(ff Z),(ff Z),(ff Z),(ff Z),(ff Z),(ff Z),(ff Z),(ff Z),(λh _=>ff Z h),(λh _=>ff Z h),(λh _=>ff Z h),(be La Vm),(be La eg),(λh=>ff Z h),(λh=>ff Z h),(λh=>ff Z h)⟩ q0 q0 ?_ ?_;refine⟨λfB bb d0 cb fQ f8 _=>?_,?_⟩;obtain⟨A2,A1,A0,a2,H,H4,Aw,Az,Ax,nm,B1,B0,Ay,Av,ny,od,CY,C1,CB,Ar,As,Ap,Ao,Aq⟩:=cb
 obtain⟨fB,rfl⟩:=dK a2;have ga:d0 1=false:=(bU fQ (i:=0) (j:=1) Z f8);have d6:ao bb w.heap.size 189 #[.int .i64 pl,S (nS sO)]:=Ar;have e1:ao bb B2.heap.size 191 #[S [],S []]:=As;refine I ?_;exact⟨rfl,_,(ax _ _ _ _ _).symm,A2,A1,A0,(db Z a2),H,U,(λ_=>rfl),Az,Ax,nm,B1,B0,Ay,Av,ny,od,CY,C1,CB,(d6),(e1),(λfR=>Ap fR),(λe6=>Ao e6),(λeQ=>Aq eQ)⟩;refine⟨λbZ a0 bv f0 _ _ fC=>?_,?_⟩;obtain⟨A2,A1,A0,a3,H,H4,Aw,Az,Ax,nm,B1,B0,Ay,Av,ny,od,CY,C1,CB,Ar,As,Ap,Ao,Aq⟩:=f0;obtain⟨bZ,rfl⟩:=dK a3;have ft:bv 0=true:=(fC 0 Z);have eB:bZ 10=.agg #[.int .i64 pl,S (nS sO)]:=Aw ft;have Q0:ao a0 w.heap.size 189 #[.int .i64 pl,S (nS sO)]:=Ar;have S0:ao a0 B2.heap.size 191 #[S [],S []]:=As;refine cl nQ (rU hS (ht.ext H)) ?_ (au eB (au Z Z));rintro _ _ Lj rfl;have⟨Q0,S0,H⟩:=cj Lj.2 Q0 S0 H;refine I ?_;exact⟨rfl,_,(ax _ _ _ _ _).symm,A2,A1,A0,(db Z a3),H,U,Aw,(λ_=>rfl),Ax,nm,B1,B0,Ay,Av,ny,od,CY,C1,CB,(Q0),(S0),(λfT=>(be Lj.2 (Ap fT))),(λeS=>(be Lj.2 (Ao eS))),(λcy=>(be Lj.2 (Aq cy)))⟩;refine⟨λfc bW _ eW _ _ _=>?_,?_⟩;obtain⟨A2,A1,A0,a4,H,H4,Aw,Az,Ax,nm,B1,B0,Ay,Av,ny,od,CY,C1,CB,Ar,As,Ap,Ao,Aq⟩:=eW;obtain⟨fc,rfl⟩:=dK a4
 have fy:ao bW w.heap.size 189 #[.int .i64 pl,S (nS sO)]:=Ar;have eD:ao bW B2.heap.size 191 #[S [],S []]:=As;refine I ?_;exact⟨rfl,_,(ax _ _ _ _ _).symm,A2,A1,A0,(db Z a4),H,U,Aw,Az,(λ_=>rfl),nm,B1,B0,Ay,Av,ny,od,CY,C1,CB,(fy),(eD),(λer=>Ap er),(λcT=>Ao cT),(λeq=>Aq eq)⟩;refine⟨λa5 b0 ad fl _ _ WV=>?_,?_⟩;obtain⟨A2,A1,A0,a8,H,H4,Aw,Az,Ax,nm,B1,B0,Ay,Av,ny,od,CY,C1,CB,Ar,As,Ap,Ao,Aq⟩:=fl;obtain⟨a5,rfl⟩:=dK a8;have gv:ad 1=true:=(WV 1 Z);have cq:ad 2=true:=(WV 2 Z);have ea:a5 12=.agg #[.int .i64 pl,S (nS sO)]:=Ax cq;have W2:ao b0 w.heap.size 189 #[.int .i64 pl,S (nS sO)]:=Ar;have N0:ao b0 B2.heap.size 191 #[S [],S []]:=As;refine cl nQ (rU hS (ht.ext H)) ?_ (au ea (au Z Z));rintro _ _ L3 rfl;have⟨W2,N0,H⟩:=cj L3.2 W2 N0 H;refine I ?_;exact⟨rfl,_,(ax _ _ _ _ _).symm,A2,A1,A0,(db Z a8),H,U,Aw,Az,Ax,(λ_=>rfl),B1,B0,Ay,Av,ny,od,CY,C1,CB,(W2),(N0),(λed=>(be L3.2 (Ap ed))),(λdq=>(be L3.2 (Ao dq))),(λfx=>(be L3.2 (Aq fx)))⟩;refine⟨λej Rm _ dC _ _ _=>?_,?_⟩;obtain⟨A2,A1,A0,X0,H,H4,Aw,Az,Ax,nm,B1,B0,Ay,Av,ny,od,CY,C1,CB,Ar,As,Ap,Ao,Aq⟩:=dC;obtain⟨ej,rfl⟩:=dK X0
 have T3:ao Rm w.heap.size 189 #[.int .i64 pl,S (nS sO)]:=Ar;have Ne:ao Rm B2.heap.size 191 #[S [],S []]:=As;refine al bN (λ_ No e3=>?_);have⟨T3,Ne,H⟩:=cj No.2 T3 Ne H;refine I ?_;exact⟨rfl,_,(ax _ _ _ _ _).symm,Rm.heap.size,A1,A0,(db Z X0),H,U,Aw,Az,Ax,nm,(λ_=>rfl),B0,Ay,(λ_=>U),ny,od,(λ_ eG=>(by have:=bt (Ao eG);omega)),(λ_ eC=>(by have:=bt (Aq eC);omega)),CB,(T3),(Ne),(λ_=>e3),(λarr=>(be No.2 (Ao arr))),(λd1=>(be No.2 (Aq d1)))⟩;refine⟨λfP W1 _ c9 _ _ _=>?_,?_⟩;obtain⟨A2,A1,A0,Wa,H,H4,Aw,Az,Ax,nm,B1,B0,Ay,Av,ny,od,CY,C1,CB,Ar,As,Ap,Ao,Aq⟩:=c9;obtain⟨fP,rfl⟩:=dK Wa;have Lk:ao W1 w.heap.size 189 #[.int .i64 pl,S (nS sO)]:=Ar;have W0:ao W1 B2.heap.size 191 #[S [],S []]:=As;refine al bN (λ_ T2 fD=>?_);have⟨Lk,W0,H⟩:=cj T2.2 Lk W0 H;refine I ?_;exact⟨rfl,_,(ax _ _ _ _ _).symm,A2,W1.heap.size,A0,(db Z Wa),H,U,Aw,Az,Ax,nm,B1,(λ_=>rfl),Ay,Av,(λ_=>U),od,(λe4 _=>(by have:=bt (Ap e4);omega)),C1,(λ_ fG=>(by have:=bt (Aq fG);omega)),(Lk),(W0),(λfu=>(be T2.2 (Ap fu))),(λ_=>fD),(λcr=>(be T2.2 (Aq cr)))⟩;refine⟨λd4 P2 _ dL _ _ _=>?_,?_⟩
 obtain⟨A2,A1,A0,bp,H,H4,Aw,Az,Ax,nm,B1,B0,Ay,Av,ny,od,CY,C1,CB,Ar,As,Ap,Ao,Aq⟩:=dL;obtain⟨d4,rfl⟩:=dK bp;have VW:ao P2 w.heap.size 189 #[.int .i64 pl,S (nS sO)]:=Ar;have P0:ao P2 B2.heap.size 191 #[S [],S []]:=As;refine al YI (λ_ W3 cw=>?_);have⟨VW,P0,H⟩:=cj W3.2 VW P0 H;refine I ?_;exact⟨rfl,_,(ax _ _ _ _ _).symm,A2,A1,P2.heap.size,(db Z bp),H,U,Aw,Az,Ax,nm,B1,B0,(λ_=>rfl),Av,ny,(λ_=>U),CY,(λf3 _=>(by have:=bt (Ap f3);omega)),(λbq _=>(by have:=bt (Ao bq);omega)),(VW),(P0),(λd5=>(be W3.2 (Ap d5))),(λfW=>(be W3.2 (Ao fW))),(λ_=>cw)⟩;exact trivial;intro K2 L2 _ Am e5;obtain⟨A2,A1,A0,cx,H,H4,Aw,Az,Ax,nm,B1,B0,Ay,Av,ny,od,CY,C1,CB,Ar,As,Ap,Ao,Aq⟩:=e5;obtain⟨K2,rfl⟩:=dK cx;have g3:=Av (Am 4 Z);have at8:=ny (Am 5 Z);have at9:=od (Am 6 Z);have g4:=CY (Am 4 Z) (Am 5 Z);have g1:=C1 (Am 4 Z) (Am 6 Z);have h6:=CB (Am 5 Z) (Am 6 Z);have E0:ao L2 w.heap.size 189 #[.int .i64 pl,S (nS sO)]:=Ar;have D2:ao L2 B2.heap.size 191 #[S [],S []]:=As;have an:ao L2 A2 191 #[S [],S []]:=Ap (Am 4 Z);have fz:=bt an;have Li:ao L2 A1 191 #[S [],S []]:=Ao (Am 5 Z);have h7:=bt Li;have Ix:ao L2 A0 4 #[.bool false]:=Aq (Am 6 Z);have g2:=bt Ix
 have gb:K2 5=pT A2:=(B1 (Am 4 Z));have gW:K2 11=.agg #[S (nS 0),S (nS 0)]:=(Az (Am 1 Z));refine SA an (λ_ fX wr=>?_);have⟨E0,D2,Li,Ix,H,_⟩:=QZ fX E0 D2 Li Ix H;have co:K2 6=pT A1:=(B0 (Am 5 Z));have h0:K2 13=.agg #[S (nS 0),S (nS 0)]:=(nm (Am 3 Z));refine SA Li (λ_ cv E9=>?_);have⟨E0,D2,wr,Ix,H,_⟩:=QZ cv E0 D2 wr Ix H;have ch:K2 7=pT A0:=(Ay (Am 6 Z));refine SO Ix (λP1 fS K3=>?_);have⟨E0,D2,wr,E9,H,_⟩:=QZ fS E0 D2 wr E9 H;refine I ?_;refine aa (aF (vf:=[]) (vc:=[pT A0,pT A1]) Z (au ch (au co Z)) ?_);refine al Nh (λ_ dd cf=>?_);have⟨E0,D2,wr,E9,K3,H⟩:=I5 dd.2 E0 D2 wr E9 K3 H;refine SO cf (λL4 eP fa=>?_);have⟨E0,D2,wr,E9,K3,H,_⟩:=Vn eP E0 D2 wr E9 K3 H;refine I ?_;have h5:=bt wr;have gr:=bt E9;have g0:=bt K3
 refine L6 (M:=m+1) (enc:=λk=>[vN (T k)]) (bs:=[A2,A1,A0]) (Kq:=λW=>aP w W) (gf:=224) (lb:=[pT b1,pT b2]) (ps:=[16]) Z Sx (DI (T:=T) (m:=m) H hB1 hB2 ?hbs hen kc8 hn) ⟨λG E=>xt E G,λG hb E=>bh G E⟩ (λ_=>rfl) (λk W=>k<=m/\L4.heap.size<=W.heap.size/\(aP w W)/\(ao W A2 191 #[S (nS ((pS T k).1)),S (nS ((pS T k).2))])/\(ao W A1 191 #[S (nS ((wc T k).1)),S (nS ((wc T k).2))])/\(ao W A0 4 #[.bool (decide (k≠0))])/\(ao W w.heap.size 189 #[.int .i64 pl,S (nS sO)])/\(ao W B2.heap.size 191 #[S [],S []])/\(ao W P1.heap.size 262 #[.func (.func 221) #[] #[pT A0,pT A1]])) (λc k W=>c=.exit 0/\L4.heap.size<=W.heap.size/\(aP w W)/\(ao W A2 191 #[S (nS ((vY T m).1)),S (nS ((vY T m).2))])/\(ao W w.heap.size 189 #[.int .i64 pl,S (nS sO)])/\(ao W B2.heap.size 191 #[S [],S []])/\(ao W P1.heap.size 262 #[.func (.func 221) #[] #[pT A0,pT A1]])) (λk=>⟨λG ⟨CG,Cr,E,Ab,h1,h2,h3,h4,O⟩=>⟨CG,qa8 Cr (bz G),xt E G,be G Ab,be G h1,be G h2,be G h3,be G h4,be G O⟩,λG hb ⟨CG,Cr,E,Ab,h1,h2,h3,h4,O⟩=>⟨CG,(by rw[G.size];exact Cr),bh G E,pb G Ab,pb G h1,pb G h2,pb G h3,pb G h4,pb G O⟩⟩) (λc k=>⟨λG ⟨CG,Cr,E,Ab,h1,h2,h3⟩=>⟨CG,qa8 Cr (bz G),xt E G,be G Ab,be G h1,be G h2,be G h3⟩,λG hb ⟨CG,Cr,E,Ab,h1,h2,h3⟩=>⟨CG,(by rw[G.size];exact Cr),bh G E,pb G Ab,pb G h1,pb G h2,pb G h3⟩⟩) (λk W h=>by have:=h.1;omega) ?Ab (λe k e' W=>∃KC:Nat,e'=upd (kj e [16] [vN (T k)]) 9 (pT KC)/\L4.heap.size<=KC/\ao W KC 191 #[S (nS (T k).1),S (nS (T k).2)]/\(λk W=>k<=m/\L4.heap.size<=W.heap.size/\(aP w W)/\(ao W A2 191 #[S (nS ((pS T k).1)),S (nS ((pS T k).2))])/\(ao W A1 191 #[S (nS ((wc T k).1)),S (nS ((wc T k).2))])/\(ao W A0 4 #[.bool (decide (k≠0))])/\(ao W w.heap.size 189 #[.int .i64 pl,S (nS sO)])/\(ao W B2.heap.size 191 #[S [],S []])/\(ao W P1.heap.size 262 #[.func (.func 221) #[] #[pT A0,pT A1]])) k W) ?hA ?asn ?body ?stop
 case hbs=>
  intro b hb;simp only[List.mem_cons,List.not_mem_nil,or_false]at hb;rcases hb with rfl|rfl|rfl <;>constructor <;>omega
 case Ab=>
  exact⟨qa7 _,qa0 _,H,wr,E9,K3,E0,D2,fa⟩
 case hA=>
  rintro k e' W b r eb hb hl ⟨KC,eX,ac,Af,CG,Cr,E,Ab,h1,h2,h3,h4,O⟩;have G:=dj W b (.loop eb);have H3:∀{c t cs},ao W c t cs->c≠b:=λh e=>by subst e;unfold ao at h;rw[hl]at h;cases h
  exact⟨KC,eX,ac,ab0 G (H3 Af) Af,CG,(by rw[G.size];exact Cr),bh G E,ab0 G (H3 Ab) Ab,ab0 G (H3 h1) h1,ab0 G (H3 h2) h2,ab0 G (H3 h3) h3,ab0 G (H3 h4) h4,ab0 G (H3 O) O⟩
 case asn=>
  rintro l k W K ⟨CG,Cr,E,Ab,h1,h2,h3,h4,O⟩ hK;have EW:=aa1 W;refine I ?_;refine al bN (λ_ FR d3=>?_);have Ab:=be FR.2 Ab;have h1:=be FR.2 h1;have h2:=be FR.2 h2;have h3:=be FR.2 h3;have h4:=be FR.2 h4;have O:=be FR.2 O;have E:=xt E FR.2;have EW:=xt EW FR.2;refine SA d3 (λ_ E6 ct=>?_);have Ab:=pb E6 Ab;have h1:=pb E6 h1;have h2:=pb E6 h2;have h3:=pb E6 h3;have h4:=pb E6 h4;have O:=pb E6 O;have E:=bh E6 E;have gs:=iQ E6;have EW:=bh E6 EW;refine I ?_;exact hK _ _ EW ⟨_,rfl,U,ct,CG,(by have:=bz EW;omega),E,Ab,h1,h2,h3,h4,O⟩
 case body=>
  rintro l k e' W ⟨KC,rfl,ac,Af,CG,Cr,E,Ab,h1,h2,h3,h4,O⟩;have Kp:=eF.refl [A2,A1,A0] W;have zW:=bz E;have L1:=CG;have h8:=bt Af;have a6:=ae2 Ab;have a9:=ae2 h1;have X2:=ae2 h2;have fT1:Bk 99 (Rt (pS T k) (T k)):=hR.tot (k:=k+1) U;refine I ?_;refine clb Sm (hc:=Hi (fT1.fi dc).1 (fT1.fi dc).2 (ht.ext E)) (hk:=?_);rintro _ _ E5 rfl;have Ab:=be E5.2 Ab;have h1:=be E5.2 h1;have h2:=be E5.2 h2;have h3:=be E5.2 h3;have h4:=be E5.2 h4;have O:=be E5.2 O;have Af:=be E5.2 Af;have E:=xt E E5.2;have Kp:=ad7 Kp E5.2;refine SA Ab (λ_ ES D1=>?_);have h1:=pb ES h1;have h2:=pb ES h2;have h3:=pb ES h3;have h4:=pb ES h4;have O:=pb ES O;have Af:=pb ES Af;have E:=bh ES E;have Kp:=ad9 Kp ES Nd;refine I ?_;refine aa (lV (vs:=[.agg #[S (nS ((T k).1)),S (nS ((T k).2))]]) (lb:=[pT A0,pT A1]) Sw Z Z (cB (Qk h2 h1 ((hR.bd k L1).mono dc) (Qm hR L1) (ht.ext E)) (hR.last L1)) ?_);rintro _ _ E1 rfl;have D1:=be E1.2 D1;have h1:=be E1.2 h1;have h2:=be E1.2 h2;have h3:=be E1.2 h3
  have h4:=be E1.2 h4;have O:=be E1.2 O;have Af:=be E1.2 Af;have E:=xt E E1.2;have Kp:=ad7 Kp E1.2;refine I ?_;by_cases ap2:k=m;refine I ?_;refine bH 5 ?_;refine sf ?_;refine aR (V:=S (nS (((T k).2)+4))) (λ_ _ et _=>?_) ?_;refine clb ml (hc:=kf Z Zl ka6 (ht.ext (xt E et))) (hk:=?_);rintro _ _ cc rfl;have fb:=cc.2;refine I ?_;exact fs ⟨fb,rfl⟩;refine sf ?_;intro _ _ E7 _;have D1:=be E7.2 D1;have h1:=be E7.2 h1;have h2:=be E7.2 h2;have h3:=be E7.2 h3;have h4:=be E7.2 h4;have O:=be E7.2 O;have Af:=be E7.2 Af;have E:=xt E E7.2;have Kp:=ad7 Kp E7.2;refine clb ml (hc:=kf Z Z ka6 (ht.ext E)) (hk:=?_);rintro _ _ E4 rfl;have D1:=be E4.2 D1;have h1:=be E4.2 h1;have h2:=be E4.2 h2;have h3:=be E4.2 h3;have h4:=be E4.2 h4;have O:=be E4.2 O;have Af:=be E4.2 Af;have E:=xt E E4.2;have Kp:=ad7 Kp E4.2;refine I ?_;refine SO D1 (λ_ H2 f9=>?_);have h1:=pb H2 h1;have h2:=pb H2 h2;have h3:=pb H2 h3;have h4:=pb H2 h4;have O:=pb H2 O;have Af:=pb H2 Af;have E:=bh H2 E
  have Kp:=ad9 Kp H2 Nd;refine I ?_;exact⟨Kp.others CA,rfl,(by have:=Kp.size;omega),E,(by subst ap2;exact f9),h3,h4,O⟩;refine I ?_;refine SA h1 (λ_ G0 S9=>?_);have D1:=pb G0 D1;have h2:=pb G0 h2;have h3:=pb G0 h3;have h4:=pb G0 h4;have O:=pb G0 O;have Af:=pb G0 Af;have E:=bh G0 E;have Kp:=ad9 Kp G0 Nd;refine SO h2 (λ_ GC ce=>?_);have D1:=pb GC D1;have S9:=pb GC S9;have h3:=pb GC h3;have h4:=pb GC h4;have O:=pb GC O;have Af:=pb GC Af;have E:=bh GC E;have Kp:=ad9 Kp GC Nd;refine I ?_;exact⟨Kp.others CA,jc.of Kp,λ_=>E,U,(by have:=Kp.size;omega),E,D1,S9,(by rw[decide_eq_true U];exact ce),h3,h4,O⟩
 case stop=>
  rintro D c k W hD ⟨rfl,Cr,E,Ab,h1,h2,h3⟩ hK;have zW:=bz E;refine I ?_;refine SA h2 (λ_ KY fN=>?_);have Ab:=pb KY Ab;have h1:=pb KY h1;have h3:=pb KY h3;have hK:=ac8 KY (hK.ne h2) hK;have E:=bh KY E;refine I ?_;refine jG (v:=.agg #[S (nS ((vY T m).1)),S (nS ((vY T m).2))]) hK (bY  rfl ?_) ((dG _).low E U) Z;refine ai (t:=4) (cs:=[S (nS ((vY T m).1)),S (nS ((vY T m).2))]) (b:=B2.heap.size) (o:=0) jn Z fw ?_ ?_;exact Z;exact aa0 (fN.dfr hK) (i:=0) Z
def cP {f:FuncId}{a:Array Value}{p q:N2}(h:CL f a w (aI w λv _=>v=.agg #[S (nS p.1),S (nS p.2)]))(e:p=q):CL f a w (aI w λv _=>v=.agg #[S (nS q.1),S (nS q.2)]):=e▸h
def Qn {a b:Nat}(h:b<a):0<aO (a:Int) (b:Int):=by rw[eL U];decide
def Qo {a b:Nat}(h:¬b<a):¬0<aO (a:Int) (b:Int):=by have:=(da (x:=(a:Int)) (y:=(b:Int))).2 U;omega
def Qp {t x:N2}(hS:Sc sO)(hb1:ao w b1 189 #[.int .i64 pl,S (nS sO)])(hb2:ao w b2 191 #[S (nS x.1),S (nS x.2)])(htb:Bk 95 t)(hx:Bk 95 x)(h0:0<n)(hn:n<100000)(ht:Tb w):
 CL 225 #[.agg #[S (nS t.1),S (nS t.2)],.int .i64 n,pT b1,pT b2] w (aI w λv w'=>v=.agg #[S (nS ((Ld sO x n t).1)),S (nS ((Ld sO x n t).2))]):=by
 have Aq:=bt hb1;have Ap:=bt hb2;refine aE func225 Z (I ?_);refine bx (λnm W G=>?_);have⟨hb1,hb2⟩:=gg W.2 hb1 hb2;have E:=W.2;refine al bN (λ_ Ab H=>?_);have⟨hb1,hb2,G,E⟩:=eY Ab.2 hb1 hb2 G E;refine I ?_;refine bH 6 ?_;refine sf ?_;refine aR (V:=.agg #[S (nS ((m9 sO t x).1)),S (nS ((m9 sO t x).2))]) (λ_ _ Ao _=>?_) ?_;refine cl nU (gK hS htb hx (ht.ext (xt E Ao))) ?_;rintro _ _ Am rfl;have A1:=Am.2;refine I ?_;exact fs ⟨A1,rfl⟩;refine sf ?_;intro _ _ A2 _;have⟨hb1,hb2,G,H,E⟩:=kv A2.2 hb1 hb2 G H E;refine clb nT (hc:=lK (K9 hS.pos htb hx) dc U U (ht.ext E)) (hk:=?_);rintro _ _ A0 rfl;have⟨hb1,hb2,G,H,E⟩:=kv A0.2 hb1 hb2 G H E;refine SA H (λ_ O Af=>?_);have⟨hb1,hb2,G⟩:=mO O hb1 hb2 G;have E:=bh O E;refine I ?_;refine aX (v:=.agg #[S (nS ((lH (m9 sO t x) 1 n).1)),S (nS ((lH (m9 sO t x) 1 n).2))]) (bY  rfl ?_) E Z;refine ai (t:=6) (cs:=[S (nS ((lH (m9 sO t x) 1 n).1)),S (nS ((lH (m9 sO t x) 1 n).2))]) (b:=nm.heap.size) (o:=0) jn Z fw ?_ ?_;exact Z;exact aa0 Af (i:=0) Z
def MO {b3 fr:Nat}{t x:N2}(hS:Sc sO)(hb1:ao w b1 189 #[.int .i64 pl,S (nS sO)])(hb2:ao w b2 191 #[S (nS x.1),S (nS x.2)])(hb3:ao w b3 3 #[.int .i64 fr])(htb:Bk 95 t)(hx:Bk 95 x)(h0:0<n)(hn:n<100000)(hf:fr<100000)(ht:Tb w):
 CL 192 #[.agg #[S (nS t.1),S (nS t.2)],.int .i64 n,pT b1,pT b2,pT b3] w (aI w λv w'=>v=.agg #[S (nS ((Ux sO x fr n t).1)),S (nS ((Ux sO x fr n t).2))]):=by
 have Ap:=bt hb1;have Ar:=bt hb2;have Aq:=bt hb3;refine aE func192 Z (I ?_);refine bx (λAo W G=>?_);have⟨hb1,hb2,hb3⟩:=qH W.2 hb1 hb2 hb3;have E:=W.2;refine al bN (λ_ Af H=>?_);have⟨hb1,hb2,hb3,G,E⟩:=kv Af.2 hb1 hb2 hb3 G E;refine I ?_;refine bH 9 ?_;refine sf ?_;refine aR (V:=.agg #[S (nS ((m9 sO t x).1)),S (nS ((m9 sO t x).2))]) (λ_ _ Am _=>?_) ?_;refine cl nU (gK hS htb hx (ht.ext (xt E Am))) ?_;rintro _ _ A1 rfl;have A2:=A1.2;refine I ?_;exact fs ⟨A2,rfl⟩;refine sf ?_;refine aB (λ_ _ _ _=>by refine aa (ri (a:=2) (b:=(n:Int)) (c:=((2*n:Nat):Int)) Z Z zd U ?_);refine I ?_;exact aG) ?_;refine aB (λ_ _ _ _=>by refine aa (cC (a:=(fr:Int)) (b:=((2*n:Nat):Int)) (c:=((fr+2*n:Nat):Int)) Z Z zd U ?_);refine I ?_;exact aG) ?_;refine sf ?_;intro _ _ Ab _;have⟨hb1,hb2,hb3,G,H,E⟩:=I5 Ab.2 hb1 hb2 hb3 G H E;refine clb nT (hc:=lK (K9 hS.pos htb hx) dc U U (ht.ext E)) (hk:=?_);rintro _ _ A0 rfl;have⟨hb1,hb2,hb3,G,H,E⟩:=I5 A0.2 hb1 hb2 hb3 G H E;refine SA H (λ_ O ny=>?_);have⟨hb1,hb2,hb3,G⟩:=pf4 O hb1 hb2 hb3 G;have E:=bh O E;refine I ?_;refine aX (v:=.agg #[S (nS ((lH (m9 sO t x) 2 (fr+2*n)).1)),S (nS ((lH (m9 sO t x) 2 (fr+2*n)).2))]) (bY  rfl ?_) E Z
 refine ai (t:=7) (cs:=[S (nS ((lH (m9 sO t x) 2 (fr+2*n)).1)),S (nS ((lH (m9 sO t x) 2 (fr+2*n)).2))]) (b:=Ao.heap.size) (o:=0) jn Z fw ?_ ?_;exact Z;exact aa0 ny (i:=0) Z
def F5 {S:Nat}:∀{f h:Nat} {x:N2} {p:N2×Nat},jT S f x h=some p->p.2<=h+f
 |0,_,_,_,e=>by simp[jT]at e
 | f+1,h,x,p,e=>by
   unfold jT at e
   split at e
   · have:=F5 e;omega
   · cases e;simp
set_option maxRecDepth 100000 in
def MP {x r:N2}(hS:Sc sO)(he:yw sO x=some r)(ht:Tb w):
 CL 194 #[.agg #[.int .i64 pl,S (nS sO)],.agg #[S (nS x.1),S (nS x.2)]] w (aI w λv w'=>v=.agg #[S (nS r.1),S (nS r.2)]):=by
 obtain⟨hx,p,s,Ar,hs,hq⟩:=Fx he;have Rm:=F5 Ar;refine aE func194 Z (I ?_);refine bx (λAb EW E=>?_);have A2:=EW.2;refine bx (λAp L1 Aq=>?_);have⟨E,A2⟩:=bn L1.2 E A2;refine al bN (λK2 Ix H=>?_);have⟨E,Aq,A2⟩:=cj Ix.2 E Aq A2;refine I ?_;refine cg [(5,5),(7,18)] (λAf e W=>∃f:Nat,∃y:N2,∃h:Nat,(f=Af)/\(e 5=.int .i64 h)/\(jT sO f y h=some p)/\(Bk 95 y)/\(h+f<=200)/\(K2.heap.size<=W.heap.size)/\(aP w W)/\(ao W w.heap.size 189 #[.int .i64 pl,S (nS sO)])/\(ao W Ap.heap.size 191 #[S [],S []])/\(ao W Ab.heap.size 191 #[S (nS y.1),S (nS y.2)])) (200) ⟨200,x,0,rfl,rfl,Ar,hx,U,(qa0 _),A2,E,H,Aq⟩ ?_;rintro _ _ _ ⟨f,y,h,rfl,P0,Aw,hy,hb,Q0,O,E,H,G⟩;by_cases hl:sO<y.2*2;obtain⟨g,rfl,CB⟩:=Uu Aw hl;refine I ?_;refine bH 5 ?_;refine sf ?_;refine aR (V:=S (nS (y.2*2))) (λ_ _ nm _=>?_) ?_;refine clb iu (hc:=gd Z wS (hy.fi dc).2 (g8 (k:=1) dc dc) kb5 (ht.ext (xt O nm))) (hk:=?_);rintro _ _ Kp rfl;have CY:=Kp.2;refine I ?_;exact fs ⟨CY,rfl⟩;refine sf ?_;intro _ _ H3 _;have⟨E,H,G,O⟩:=eY H3.2 E H G O;refine clb xr (hc:=MN Z Z kb5 hS.fi) (hk:=?_);rintro _ _ Ne rfl;have⟨E,H,G,O⟩:=eY Ne.2 E H G O;have P1:=Qn hl;refine I ?_
 refine clb nT (hc:=lK (hy.mono dc) dc dc dc (ht.ext O)) (hk:=?_);rintro _ _ H4 rfl;have⟨E,H,G,O⟩:=eY H4.2 E H G O;refine SA G (λ_ ny L3=>?_);have⟨E,H,O,_⟩:=Tc ny E H O;refine I ?_;refine aa (cC (a:=(h:Int)) (b:=1) (c:=((h+1:Nat):Int)) Z Z zd U ?_);refine I ?_;exact bJ ⟨g,lH y 1 2,h+1,rfl,rfl,CB,(Pk hy),U,U,O,E,H,L3⟩;have FR:=Uv Aw hl;subst FR;have hm:=uQ hs;obtain⟨m,hR,hr⟩:=hm;refine I ?_;refine bH 5 ?_;refine sf ?_;refine aR (V:=S (nS (y.2*2))) (λ_ _ od _=>?_) ?_;refine clb iu (hc:=gd Z wS (hy.fi dc).2 (g8 (k:=1) dc dc) kb5 (ht.ext (xt O od))) (hk:=?_);rintro _ _ Lj rfl;have Li:=Lj.2;refine I ?_;exact fs ⟨Li,rfl⟩;refine sf ?_;intro _ _ KY _;have⟨E,H,G,O⟩:=eY KY.2 E H G O;refine clb xr (hc:=MN Z Z kb5 hS.fi) (hk:=?_);rintro _ E6 E9 rfl;have⟨E,H,G,O⟩:=eY E9.2 E H G O;have S0:=Qo hl;refine I ?_;refine bH 7 ?_;refine sf ?_;refine aR (V:=.agg #[S (nS ((1*sO,1*sO).1)),S (nS ((1*sO,1*sO).2))]) (λ_ _ No _=>?_) ?_;refine clb nQ (hc:=iL (n:=1) hS dc Fr (ht.ext (xt O No))) (hk:=?_);rintro _ _ G0 rfl;have ES:=G0.2;refine I ?_;exact fs ⟨ES,rfl⟩
 refine aB (λ_ _ _ _=>by refine aa (aF (vf:=[]) (vc:=[pT w.heap.size,pT Ab.heap.size]) Z Z ?_);refine I ?_;exact aG) ?_;refine bC (λv Am=>DG (1*sO,1*sO) (.func (.func 225) #[] #[pT w.heap.size,pT Ab.heap.size]) Am v) (hs:=λ_ _ _ k h=>h.ext k) (λ_ _ _ _=>?_) ?_;refine cl BQ vz ?_;rintro _ _ wr D1;have E0:=wr.2;refine I ?_;exact fs ⟨E0,D1⟩;refine aR (V:=.agg #[S (nS s.1),S (nS s.2)]) (λ_ _ Ao Lk=>?_) ?_;obtain⟨_,_,E7,KC,L4⟩:=(Lk 4 23 Z Z);have⟨E,G⟩:=gg Ao E G;refine clb BP (hc:=cP (DJ hR hS KC L4 Sl (λk hk W e=>Qp hS (E.ext e) (G.ext e) (hR.bd k U) hy U kc8 ((ht.ext (xt O Ao)).ext e)) (ht.ext (xt O Ao))) hr) (hk:=?_) (hv:=au Z (au E7 Z));rintro _ _ E1 rfl;have Az:=E1.2;refine I ?_;exact fs ⟨Az,rfl⟩;refine bC (λv Am=>∃b:Nat,v=pT b/\E6.heap.size<=b/\ao Am b 191 #[S [],S []]) (hs:=λ_ _ _ k ⟨b,e,l,h⟩=>⟨b,e,l,h.ext k⟩) (λ_ _ C1 _=>?_) ?_;refine al bN (λ_ E4 Cr=>?_);have La:=E4.2;refine I ?_;exact fs ⟨La,⟨_,rfl,(by have:=bz C1;omega),Cr⟩⟩;refine sf ?_;intro _ _ B2 B1;have⟨E,H,G,O⟩:=eY B2.2 E H G O;obtain⟨CG,_,_,K3⟩:=(B1 6 6 Z Z);refine SA K3 (λE5 As D2=>?_);have⟨E,H,G⟩:=mO As E H G;have O:=bh As O;refine I ?_
 refine cg [(26,32)] (λAf e W=>∃i:Nat,∃a:N2,(h-i=Af)/\(e 26=.int .i64 i)/\(i<=h)/\(HU sO (h-i) a=some r)/\(E5.heap.size<=W.heap.size)/\(aP w W)/\(ao W w.heap.size 189 #[.int .i64 pl,S (nS sO)])/\(ao W Ap.heap.size 191 #[S [],S []])/\(ao W Ab.heap.size 191 #[S (nS y.1),S (nS y.2)])/\(ao W CG 191 #[S (nS a.1),S (nS a.2)])) (h-0) ⟨0,s,rfl,rfl,(qa7 _),hq,(qa0 _),O,E,H,G,D2⟩ ?_;rintro _ _ _ ⟨i,a,rfl,H2,hi,Av,P2,A0,E,H,G,A1⟩;by_cases hl2:i<h;obtain⟨Ay,KM⟩:=Zm Av hl2;refine I ?_;refine cl nU (gK hS Ay Ay (ht.ext A0)) ?_;rintro _ _ N0 rfl;have⟨E,H,G,A1,A0⟩:=kv N0.2 E H G A1 A0;refine SA A1 (λ_ L2 B0=>?_);have⟨E,H,G,A0,_⟩:=NA L2 E H G A0;refine I ?_;refine aa (cC (a:=(i:Int)) (b:=1) (c:=((i+1:Nat):Int)) H2 Z zd U ?_);refine I ?_;exact bJ ⟨i+1,m9 sO a a,rfl,rfl,U,KM,U,A0,E,H,G,B0⟩;obtain⟨rfl,_⟩:=Zn Av hl2;refine I ?_;refine SA H (λ_ Ax GC=>?_);have⟨E,G,A1⟩:=mO Ax E G A1;have A0:=bh Ax A0;refine I ?_;refine aX (v:=.agg #[S (nS a.1),S (nS a.2)]) (bY  rfl ?_) A0 Z;refine ai (t:=4) (cs:=[S (nS a.1),S (nS a.2)]) (b:=Ap.heap.size) (o:=0) jn Z fw ?_ ?_;exact Z;exact aa0 GC (i:=0) Z
def Vg:RD.length=81:=by decide +kernel
def xk {a r:N2}(hS:Sc sO)(hr:mJ sO a=some r)(ht:Tb w):
 CL 195 #[.agg #[.int .i64 pl,S (nS sO)],.agg #[S (nS a.1),S (nS a.2)]] w (aI w λv w'=>v=.agg #[S (nS r.1),S (nS r.2)]):=by
 obtain⟨W,Ar,p2,x,y,Ab,As,hb,Av⟩:=LQ hr;have A0:=W.fi dc;refine aE func195 Z (I ?_);refine bx (λ_ Ap G=>?_);have E:=Ap.2;refine bx (λAo Aq H=>?_);have⟨G,E⟩:=bn Aq.2 G E;refine al bN (λ_ Ay O=>?_);have⟨G,H,E⟩:=cj Ay.2 G H E;refine I ?_;refine clb iu (hc:=gd Z Z A0.1 hS.fi (fK W.1 hS.lt dc) (ht.ext E)) (hk:=?_);rintro _ _ Aw rfl;have⟨G,H,O,E⟩:=eY Aw.2 G H O E;refine clb Iz (hc:=FG (fK W.1 hS.lt dc) Ar Ab (ht.ext E)) (hk:=?_);rintro _ _ Af rfl;have⟨G,H,O,E⟩:=eY Af.2 G H O E;refine I ?_;refine clb iu (hc:=gd Z Z A0.2 hS.fi (fK W.2 hS.lt dc) (ht.ext E)) (hk:=?_);rintro _ _ Am rfl;have⟨G,H,O,E⟩:=eY Am.2 G H O E;refine clb Iz (hc:=FG (fK W.2 hS.lt dc) p2 As (ht.ext E)) (hk:=?_);rintro _ _ Ax rfl;have⟨G,H,O,E⟩:=eY Ax.2 G H O E;refine I ?_;refine clb ml (hc:=kf Z K8 (by have:=hb.2;unfold Fi;simp only at this;omega) (ht.ext E)) (hk:=?_);rintro _ _ A2 rfl;have⟨G,H,O,E⟩:=eY A2.2 G H O E;refine I ?_;refine SA O (λ_ A1 nm=>?_);have⟨G,H⟩:=kI A1 G H;have E:=bh A1 E;refine I ?_;refine aX (v:=.agg #[S (nS x),S (nS (y+1))]) (bY  rfl ?_) E (by rw[Av]);refine ai (t:=4) (cs:=[S (nS x),S (nS (y+1))]) (b:=Ao.heap.size) (o:=0) jn Z fw ?_ ?_;exact Z;exact aa0 nm (i:=0) Z
def Yi (hp:pl<81)(ht:Tb w):
 CL 196 #[.agg #[.int .i64 pl,S (nS sO)]] w (aI w λv w'=>v=.agg #[S (nS ((vJ pl,vJ pl+1).1)),S (nS ((vJ pl,vJ pl+1).2))]):=by
 refine aE func196 Z (I ?_);refine bx (λA1 W G=>?_);have E:=W.2;refine al bN (λ_ A0 H=>?_);have⟨G,E⟩:=bn A0.2 G E;refine I ?_;refine aa (cC (a:=(pl:Int)) (b:=1) (c:=((pl+1:Nat):Int)) Z Z zd U ?_);refine aa (me (l:=RD) (i:=0) (j:=pl+1) U9 Z (.inl ⟨rfl,rfl⟩) (.inr ⟨_,qb2 some Z⟩) U (by rw[Vg];omega) ?_);rw[show(RD.take (pl+1)).drop 0=RD.take (pl+1)from rfl];refine I ?_;refine clb ml (hc:=kf (LR hp) K8 (by have:=XO (k:=pl);unfold Fi;omega) (ht.ext E)) (hk:=?_);rintro _ _ Ab rfl;have⟨G,H,E⟩:=cj Ab.2 G H E;refine I ?_;refine SA H (λ_ O A2=>?_);have G:=pb O G;have E:=bh O E;refine I ?_;refine aX (v:=.agg #[S (RD.take (pl+1)),S (nS (vJ pl+1))]) (bY  rfl ?_) E (by exact qb2 (λl=>Value.agg #[S l,S (nS (vJ pl+1))]) (LR hp));refine ai (t:=2) (cs:=[S (RD.take (pl+1)),S (nS (vJ pl+1))]) (b:=A1.heap.size) (o:=0) jn Z fw ?_ ?_;exact Z;exact aa0 A2 (i:=0) Z
def q11:(([49],[49]):R)=qR 1 1:=by decide +kernel
def YH:(([48],[49]):R)=qR 0 1:=by decide +kernel
section
variable {l m l' m':List UInt8}
def vA (e1:(l,m)=qR a b)(e2:(l',m')=qR c d)(h1:Q9 a b)(h2:Q9 c d)(ht:Tb w):CL 26 #[.agg #[S l,S m],.agg #[S l',S m']] w (aI w λv _=>v=.int .i64 (aO (a*d) (c*b))):=by
 rw[show l=(qR a b).1 from congrArg Prod.fst e1,show m=(qR a b).2 from congrArg Prod.snd e1,show l'=(qR c d).1 from congrArg Prod.fst e2,show m'=(qR c d).2 from congrArg Prod.snd e2]
 exact Ba h1.2.1 h2.2.1 h1.fz.1 h1.fz.2 h2.fz.1 h2.fz.2 ht
def Yj (e1:(l,m)=qR a b)(e2:(l',m')=qR c d)(h1:Q9 a b)(h2:Q9 c d)(ht:Tb w):CL 117 #[.agg #[S l,S m],.agg #[S l',S m']] w (aI w λv _=>v=Qv (a*d-c*b) (b*d)):=by
 rw[show l=(qR a b).1 from congrArg Prod.fst e1,show m=(qR a b).2 from congrArg Prod.snd e1,show l'=(qR c d).1 from congrArg Prod.fst e2,show m'=(qR c d).2 from congrArg Prod.snd e2]
 exact PL h1 h2 ht
end
def ZX:Q9 1 1:=⟨by decide,by decide,by decide⟩
def Yk:Q9 0 1:=⟨by decide,by decide,by decide⟩
def F6 {a b:Nat}(hb:0<b):qc (a:Int) (b:Int)=((a/Nat.gcd a b:Nat):Int)/\dh (a:Int) (b:Int)=((b/Nat.gcd a b:Nat):Int):=by
 unfold qc dh
 rw[if_neg U,if_neg U]
 exact⟨rfl,rfl⟩
def Bv {a b:Nat}(hS:Sc sO)(ha:a<10^90)(hb:b<10^90)(h0:0<b)(ht:Tb w):
 CL 188 #[.agg #[.int .i64 pl,S (nS sO)],.agg #[S (qR (a:Int) (b:Int)).1,S (qR (a:Int) (b:Int)).2]] w (aI w λv _=>v=.agg #[S (nS (qk sO a b).1),S (nS (qk sO a b).2)]):=by
 have E:0<Nat.gcd a b:=Nat.gcd_pos_of_pos_right _ h0
 have W:a/Nat.gcd a b*Nat.gcd a b=a:=Nat.div_mul_cancel (Nat.gcd_dvd_left _ _)
 have e2:b/Nat.gcd a b*Nat.gcd a b=b:=Nat.div_mul_cancel (Nat.gcd_dvd_right _ _)
 have h1:=PO (S:=sO) (n:=a/Nat.gcd a b) (d:=b/Nat.gcd a b) E
 rw[W,e2]at h1
 have G:a/Nat.gcd a b<10^90:=Nat.lt_of_le_of_lt (Nat.div_le_self _ _) ha
 have O:b/Nat.gcd a b<10^90:=Nat.lt_of_le_of_lt (Nat.div_le_self _ _) hb
 have H:0<b/Nat.gcd a b:=Nat.div_pos (Nat.le_of_dvd h0 (Nat.gcd_dvd_right _ _)) E
 rw[h1]
 unfold qR
 rw[(F6 h0).1,(F6 h0).2]
 exact Pw hS (g8 G dc) (g8 O dc) H (fK G hS.lt dc) ht
def Yl (x:R×R):Prop:=∃a b c d,x.1=qR a b/\x.2=qR c d/\Q9 a b/\Q9 c d/\a*d<=c*b
def jV (l:List (R×R)):List Value:=l.flatMap λx=>[S x.1.1,S x.1.2,S x.2.1,S x.2.2]
def qn (l:List (R×R))(i:Nat):R×R:=l.getD i (([],[]),([],[]))
def vC:∀{l:List (R×R)} {i:Nat},i<l.length->(jV l)[i*4]?=some (S (qn l i).1.1)/\(jV l)[i*4+1]?=some (S (qn l i).1.2)/\(jV l)[i*4+2]?=some (S (qn l i).2.1)/\(jV l)[i*4+3]?=some (S (qn l i).2.2)
 |a::t,0,_=>by simp[jV,qn]
 | a::t,i+1,h=>by
   have ih:=vC (l:=t) (i:=i) ka5
   rw[show(i+1)*4=i*4+4 by omega,show i*4+4+1=i*4+1+4 by omega,show i*4+4+2=i*4+2+4 by omega,show i*4+4+3=i*4+3+4 by omega]
   simpa[jV,qn]using ih
def Qq {l:List (R×R)}(h:Rw w lo A (jV l))(hi:i<l.length):
 ∃b o,A=some ⟨b,o,none⟩/\∀j u,[S (qn l i).1.1,S (qn l i).1.2,S (qn l i).2.1,S (qn l i).2.2][j]?=some u->w.cell? ⟨b,o+i*4+j,none⟩=some u:=by
 obtain⟨h1,h2,h3,h4⟩:=vC hi
 obtain⟨b,o,hA,E⟩:=h.cells _ _ h1
 obtain⟨_,_,hA2,G⟩:=h.cells _ _ h2
 obtain⟨_,_,hA3,O⟩:=h.cells _ _ h3
 obtain⟨_,_,hA4,H⟩:=h.cells _ _ h4
 rw[hA]at hA2 hA3 hA4;cases hA2;cases hA3;cases hA4
 refine⟨b,o,hA,λj u hu=>?_⟩
 match j,hu with
 |0,hu=>simp at hu;subst hu;simpa using E
 |1,hu=>simp at hu;subst hu;simpa[Nat.add_assoc]using G
 |2,hu=>simp at hu;subst hu;simpa[Nat.add_assoc]using O
 |3,hu=>simp at hu;subst hu;simpa[Nat.add_assoc]using H
def F7 {l:List (R×R)}(h:i<l.length):qn l i∈l:=by unfold qn;simp[h]
def RN {l m:List UInt8}(e:(l,m)=qR a b)(h:Q9 a b):bL (l,m)=true:=e▸h.ok
def mL :
 CL 249 #[.bool true] w (aI w λv w'=>v=.tuple #[]):=by
 refine aE func249 Z (I ?_);exact H6 (mg Z) (aa1 _) Z
def r4 {x:R×R}(hx:Yl x)(ht:Tb w):
 CL 252 #[.agg #[S x.1.1,S x.1.2,S x.2.1,S x.2.2]] w (aI w λv w'=>v=.bool true):=by
 obtain⟨a,b,c,d,H,e2,O,W,A2⟩:=hx;refine aE func252 Z (I ?_);refine bx (λ_ A1 G=>?_);have E:=A1.2;refine I ?_;refine cl r9 (cB (dU _ _ _ (ht.ext E)) (RN H O)) ?_;rintro _ _ Af rfl;have⟨G,E⟩:=bn Af.2 G E;refine I ?_;refine cl r9 (cB (dU _ _ _ (ht.ext E)) (RN e2 W)) ?_;rintro _ _ Ab rfl;have⟨G,E⟩:=bn Ab.2 G E;refine I ?_;refine cl oW (vA H e2 O W (ht.ext E)) ?_;rintro _ _ A0 rfl;have E:=xt E A0.2;refine I ?_;exact am (t:=2) (v:=.bool (decide ((aO (a*d) (c*b))<=0))) Z E (qb2 Value.bool (qa1 (da.2 A2))) Z
def DK {x:R×R}(hx:Yl x)(ht:Tb w):
 CL 251 #[.agg #[S x.1.1,S x.1.2,S x.2.1,S x.2.2]] w (aI w λv w'=>v=.bool false):=by
 refine aE func251 Z (I ?_);refine bx (λ_ G H=>?_);have E:=G.2;refine I ?_;refine aa (aN (cs:=[S x.1.1,S x.1.2,S x.2.1,S x.2.2]) (b:=w.heap.size) (o:=0) en Z dE Z (aa0 H (i:=0) Z) ?_);refine cl Is (r4 hx (ht.ext E)) ?_;rintro _ _ O rfl;have E:=xt E O.2;refine I ?_;exact am (t:=2) (v:=.bool false) Z E Z Z
def DL {x:R×R}(hx:Yl x)(ht:Tb w):
 CL 254 #[.agg #[S x.1.1,S x.1.2,S x.2.1,S x.2.2]] w (aI w λv w'=>v=.bool false):=by
 refine aE func254 Z (I ?_);refine bx (λ_ G H=>?_);have E:=G.2;refine I ?_;refine aa (aN (cs:=[S x.1.1,S x.1.2,S x.2.1,S x.2.2]) (b:=w.heap.size) (o:=0) en Z dE Z (aa0 H (i:=0) Z) ?_);refine cl Is (r4 hx (ht.ext E)) ?_;rintro _ _ O rfl;have E:=xt E O.2;refine I ?_;exact am (t:=2) (v:=.bool false) Z E Z Z
def MQ {l:List (R×R)}(hr:Rw w lo A (jV l))(hn:l.length=n)(hb:n<=1000)(hg:Enters prog g)(hf:∀i<n,∀W,aP w W->CL g #[.agg #[S (qn l i).1.1,S (qn l i).1.2,S (qn l i).2.1,S (qn l i).2.2]] W (aI W λv _=>v=.bool false)):
 CL 269 #[.slice A n cp,.func (.func g) #[] #[]] w (aI w λv w'=>v=.int .i64 (-1)):=by
 refine aE func269 Z (I ?_);have A1:=aa1 w;refine cg [(4,5),(8,18)] (λH e W=>∃i:Nat,(n-i=H)/\(e 8=.int .i64 i)/\(i<=n)/\(aP w W)) (n-0) ⟨0,rfl,rfl,(qa7 _),A1⟩ ?_;rintro _ _ _ ⟨i,rfl,A0,hi,E⟩;by_cases hl:i<n;obtain⟨bk,o,hA,O⟩:=Qq (hr.ext E) (i:=i) U;refine I ?_;refine aa (aD (i:=i) (oo:=o+i*4) VF dE Z hA Z U Z ?_);refine aa (aN (cs:=[S (qn l i).1.1,S (qn l i).1.2,S (qn l i).2.1,S (qn l i).2.2]) (b:=bk) (o:=o+i*4) en Z dE Z O ?_);refine aa (lV (vs:=[.agg #[S (qn l i).1.1,S (qn l i).1.2,S (qn l i).2.1,S (qn l i).2.2]]) (lb:=[]) hg Z Z (hf i U _ E) ?_);rintro _ _ G rfl;have E:=xt E G.2;refine I ?_;refine aa (cC (a:=(i:Int)) (b:=1) (c:=((i+1:Nat):Int)) A0 Z zd U ?_);refine I ?_;exact bJ ⟨i+1,rfl,rfl,U,E⟩;refine I ?_;exact am (t:=4) (v:=.int .i64 (-1)) Z E Z Z
def r5 {l:List (R×R)}(hr:Rw w lo A (jV l))(hn:l.length=n)(hb:n<=1000)(hg:Enters prog g)(hf:∀i<n,∀W,aP w W->CL g #[.agg #[S (qn l i).1.1,S (qn l i).1.2,S (qn l i).2.1,S (qn l i).2.2]] W (aI W λv _=>v=.bool false)):
 CL 250 #[.slice A n cp,.func (.func g) #[] #[]] w (aI w λv w'=>v=.bool false):=by
 refine aE func250 Z (I ?_);refine cl SB (MQ (hr.ext (aa1 _)) hn hb hg (λi hi W e=>hf i hi W (xt (aa1 _) e))) ?_;rintro _ _ E rfl;have G:=E.2;refine I ?_;exact am (t:=4) (v:=.bool false) Z G Z Z
def Bw {lb:List Value}{l:List (R×R)}{x:R×R}(hg:Enters prog gf)(hr:Rw w lo A (jV l))(hn:l.length=n)(hb:n<=1000)(hv:∀x∈l,Yl x)(hc:∀W,aP w W->CL gf lb.toArray W (aI W λv _=>v=.agg #[S x.1.1,S x.1.2,S x.2.1,S x.2.2]))(ht:Tb w):
 CL 229 #[.func (.func gf) #[] lb.toArray,.slice A n cp] w (aI w λv w'=>v=.tuple #[.agg #[S x.1.1,S x.1.2,S x.2.1,S x.2.2],.int .i64 0]):=by
 refine kR func229 Z (I ?_);refine al dk (λO Am G=>?_);have E:=Am.2;refine al kC (λ_ Aq H=>?_);have⟨G,E⟩:=bn Aq.2 G E;refine I ?_;refine aa (aF (vf:=[]) (vc:=[pT w.heap.size,pT O.heap.size]) Z Z ?_);refine aa (g7 (lb:=[pT w.heap.size,pT O.heap.size]) Z ?_);refine I ?_;refine clb Iv (hc:=r5 (hr.ext E) hn hb Su (λi hi W e=>DK (hv _ (F7 U)) ((ht.ext E).ext e))) (hk:=?_);rintro _ _ Ap rfl;have⟨G,H,E⟩:=cj Ap.2 G H E;refine I ?_;refine cl BX mL ?_;rintro _ _ Af rfl;have⟨G,H,E⟩:=cj Af.2 G H E;refine I ?_;refine aa (lV (f:=gf) (lb:=lb) (vs:=[]) hg Z Z (hc _ E) ?_);rintro _ _ Ab rfl;have⟨G,H,E⟩:=cj Ab.2 G H E;refine SA G (λ_ A2 A0=>?_);have H:=pb A2 H;have E:=bh A2 E;refine SO H (λ_ A1 Ao=>?_);have A0:=pb A1 A0;have E:=bh A1 E;refine I ?_;refine ou (b1:=w.heap.size) (b2:=O.heap.size) (v:=.tuple #[.agg #[S x.1.1,S x.1.2,S x.2.1,S x.2.2],.int .i64 0]) Ss (λ_ _=>Kb) E (cQ (r1:=.cell 4 144) (r2:=.cell 5 36) Z ?_ ?_) Z;refine ai (t:=4) (cs:=[S x.1.1,S x.1.2,S x.2.1,S x.2.2]) (b:=w.heap.size) (o:=0) en Z dE ?_ ?_;exact Z;exact aa0 A0 (i:=0) Z;refine bu (t:=5) (b:=O.heap.size) (o:=0) yZ Z ?_ ?_;exact Z;exact ab3 Ao Z
def By {lb:List Value}{l:List (R×R)}{x:R}(hg:Enters prog gf)(hr:Rw w lo A (jV l))(hn:l.length=n)(hb:n<=1000)(hv:∀x∈l,Yl x)(hc:∀W,aP w W->CL gf lb.toArray W (aI W λv _=>v=.agg #[S x.1,S x.2]))(ht:Tb w):
 CL 232 #[.func (.func gf) #[] lb.toArray,.slice A n cp] w (aI w λv w'=>v=.tuple #[.agg #[S x.1,S x.2],.int .i64 0]):=by
 refine kR func232 Z (I ?_);refine al aY (λO Am G=>?_);have E:=Am.2;refine al kC (λ_ Aq H=>?_);have⟨G,E⟩:=bn Aq.2 G E;refine I ?_;refine aa (aF (vf:=[]) (vc:=[pT w.heap.size,pT O.heap.size]) Z Z ?_);refine aa (g7 (lb:=[pT w.heap.size,pT O.heap.size]) Z ?_);refine I ?_;refine clb Iv (hc:=r5 (hr.ext E) hn hb Sz (λi hi W e=>DL (hv _ (F7 U)) ((ht.ext E).ext e))) (hk:=?_);rintro _ _ Ap rfl;have⟨G,H,E⟩:=cj Ap.2 G H E;refine I ?_;refine cl BX mL ?_;rintro _ _ Af rfl;have⟨G,H,E⟩:=cj Af.2 G H E;refine I ?_;refine aa (lV (f:=gf) (lb:=lb) (vs:=[]) hg Z Z (hc _ E) ?_);rintro _ _ Ab rfl;have⟨G,H,E⟩:=cj Ab.2 G H E;refine SA G (λ_ A2 A0=>?_);have H:=pb A2 H;have E:=bh A2 E;refine SO H (λ_ A1 Ao=>?_);have A0:=pb A1 A0;have E:=bh A1 E;refine I ?_;refine ou (b1:=w.heap.size) (b2:=O.heap.size) (v:=.tuple #[.agg #[S x.1,S x.2],.int .i64 0]) Sy (λ_ _=>Kc) E (cQ (r1:=.cell 4 33) (r2:=.cell 5 36) Z ?_ ?_) Z;refine ai (t:=4) (cs:=[S x.1,S x.2]) (b:=w.heap.size) (o:=0) iO Z bV ?_ ?_;exact Z;exact aa0 A0 (i:=0) Z;refine bu (t:=5) (b:=O.heap.size) (o:=0) yZ Z ?_ ?_;exact Z;exact ab3 Ao Z
def yW {l m:List UInt8}:
 CL 231 #[.agg #[S l,S m],.int .i64 0] w (aI w λv w'=>v=.agg #[S l,S m]):=by
 refine aE func231 Z (I ?_);refine bx (λA1 W G=>?_);have E:=W.2;refine al aY (λ_ A0 H=>?_);have⟨G,E⟩:=bn A0.2 G E;refine I ?_;refine cl BX mL ?_;rintro _ _ Ab rfl;have⟨G,H,E⟩:=cj Ab.2 G H E;refine I ?_;refine SA H (λ_ O A2=>?_);have G:=pb O G;have E:=bh O E;refine I ?_;refine aX (v:=.agg #[S l,S m]) (bY  rfl ?_) E Z;refine ai (t:=4) (cs:=[S l,S m]) (b:=A1.heap.size) (o:=0) iO Z bV ?_ ?_;exact Z;exact aa0 A2 (i:=0) Z
def qo (a b t:Int):Int:=a*t/b
def rb (a b t:Int):Int:=if a*t%b=0 then a*t/b else a*t/b+1
def tj (hb:0<b):qc a b*t/dh a b=a*t/b/\(qc a b*t%dh a b=0↔a*t%b=0):=by
 have h1:=A4 (n:=a) hb
 have h2:=yG (n:=a) hb
 have E:=lL (n:=a) hb
 generalize qc a b=p at *
 generalize dh a b=q at *
 generalize ((Int.gcd a b:Nat):Int)=g at *
 subst h1 h2
 rw[show p*g*t=p*t*g by grind]
 refine⟨(Int.mul_ediv_mul_of_pos_left _ _ E).symm,?_⟩
 rw[Int.mul_comm (p*t) g,Int.mul_comm q g,Int.mul_emod_mul_of_pos _ _ E]
 constructor
 · intro h;rw[h,Int.mul_zero]
 · intro h;rcases Int.mul_eq_zero.1 h with h|h;omega;exact h
def Ym (hb:0<b):ve (qc a b) (dh a b) t false=qo a b t:=by
 unfold ve qo;rw[if_neg (λe=>absurd e.1 dc),(tj hb).1]
def Yn (hb:0<b):ve (qc a b) (dh a b) t true=rb a b t:=by
 unfold ve rb
 rw[(tj hb).1]
 by_cases h:a*t%b=0
 · rw[if_pos h,if_neg (λe=>e.2 (dO.2 ((tj hb).2.2 h)))]
 · rw[if_neg h,if_pos ⟨rfl,λe=>h ((tj hb).2.1 (dO.1 e))⟩]
def aC (pl:Nat):Int:=((10^pl:Nat):Int)
def kh (pl:Nat):0<aC pl:=by unfold aC;have:=Nat.pow_pos (n:=pl) (show 0<10 by decide);omega
def Vh (h:pl<=30):aC pl<=10^30:=by
 unfold aC
 have h1:(10:Nat)^pl<=10^30:=Nat.pow_le_pow_right dc h
 have h2:(((10:Nat)^30:Nat):Int)=(10:Int)^30:=by decide
 omega
def Bz (h:Q9 a b)(hp:pl<=30):(qc a b*aC pl).natAbs<10^199:=by
 have h1:=h.red.1
 have h2:(aC pl).natAbs<=10^30:=by have:=Vh hp;have:=kh pl;omega
 rw[Int.natAbs_mul]
 have h3:(qc a b).natAbs*(aC pl).natAbs<=10^90*10^30:=qb9 U h2
 have h4:10^90*10^30<10^199:=by decide
 omega
def qh {l m:List UInt8}(e:(l,m)=qR a b)(h:Q9 a b)(hp:pl<=30)(ht:Tb w):CL 100 #[.agg #[S l,S m],.int .i64 pl] w (aI w λv _=>v=Qv (qo a b (aC pl)) (aC pl)):=by
 rw[show l=(qR a b).1 from congrArg Prod.fst e,show m=(qR a b).2 from congrArg Prod.snd e]
 exact l8 (LM h.ok (A5 h.2.1 h.fz.1) (A6 h.2.1 h.fz.2) hp (Bz h hp) ht) (qb2 (λz=>Qv z (aC pl)) (Ym h.2.1))
def yX {l m:List UInt8}(e:(l,m)=qR a b)(h:Q9 a b)(hp:pl<=30)(ht:Tb w):CL 101 #[.agg #[S l,S m],.int .i64 pl] w (aI w λv _=>v=Qv (rb a b (aC pl)) (aC pl)):=by
 rw[show l=(qR a b).1 from congrArg Prod.fst e,show m=(qR a b).2 from congrArg Prod.snd e]
 exact l8 (UK h.ok (A5 h.2.1 h.fz.1) (A6 h.2.1 h.fz.2) hp (Bz h hp) ht) (qb2 (λz=>Qv z (aC pl)) (Yn h.2.1))
def HF {x:R×R}(e1:x.1=qR a b)(e2:x.2=qR c d)(q1:Q9 a b)(q2:Q9 c d)(hb1:ao w b1 144 #[S x.1.1,S x.1.2,S x.2.1,S x.2.2])(hb2:ao w b2 3 #[.int .i64 pl])(hp:pl<=30)(ht:Tb w):
 CL 230 #[pT b1,pT b2] w (aI w λv w'=>v=IV (qo a b (aC pl)) (aC pl) (rb c d (aC pl)) (aC pl)):=by
 have As:=bt hb1;have Av:=bt hb2;refine aE func230 Z (I ?_);refine al dk (λ_ O G=>?_);have⟨hb1,hb2⟩:=gg O.2 hb1 hb2;have E:=O.2;refine I ?_;refine bH 13 ?_;refine sf ?_;refine aR (V:=.tuple #[QV (qo a b (aC pl)) (aC pl),.int .i64 0]) (λ_ _ Ar _=>?_) ?_;refine cl BV (qh e1 q1 hp (ht.ext (xt E Ar))) ?_;rintro _ _ Ao rfl;have Ab:=Ao.2;refine I ?_;exact fs ⟨Ab,rfl⟩;refine sf ?_;refine aR (V:=QV (qo a b (aC pl)) (aC pl)) (λ_ _ _ _=>?_) ?_;refine cl BU yW ?_;rintro _ _ A2 rfl;have W:=A2.2;refine I ?_;exact fs ⟨W,rfl⟩;refine sf ?_;refine aR (V:=.tuple #[QV (rb c d (aC pl)) (aC pl),.int .i64 0]) (λ_ _ Af _=>?_) ?_;refine cl BW (yX e2 q2 hp (ht.ext (xt E Af))) ?_;rintro _ _ A0 rfl;have Aq:=A0.2;refine I ?_;exact fs ⟨Aq,rfl⟩;refine sf ?_;intro _ _ A1 _;have⟨hb1,hb2,G,E⟩:=eY A1.2 hb1 hb2 G E;refine cl BU yW ?_;rintro _ _ Am rfl;have⟨hb1,hb2,G,E⟩:=eY Am.2 hb1 hb2 G E;refine aa (bR (vs:=[(0,QV (qo a b (aC pl)) (aC pl)),(1,QV (rb c d (aC pl)) (aC pl))]) (cells:=#[S ((qR (qo a b (aC pl)) (aC pl)).1),S ((qR (qo a b (aC pl)) (aC pl)).2),S ((qR (rb c d (aC pl)) (aC pl)).1),S ((qR (rb c d (aC pl)) (aC pl)).2)]) (pl:=[(0,2),(2,2)]) en dk q0 Z q0 ?_);refine SA G (λ_ H Ap=>?_)
 have⟨hb1,hb2⟩:=kI H hb1 hb2;have E:=bh H E;refine I ?_;refine aX (v:=IV (qo a b (aC pl)) (aC pl) (rb c d (aC pl)) (aC pl)) (bY  rfl ?_) E Z;refine ai (t:=2) (cs:=[S ((qR (qo a b (aC pl)) (aC pl)).1),S ((qR (qo a b (aC pl)) (aC pl)).2),S ((qR (rb c d (aC pl)) (aC pl)).1),S ((qR (rb c d (aC pl)) (aC pl)).2)]) (b:=w.heap.size) (o:=0) en Z dE ?_ ?_;exact Z;exact aa0 Ap (i:=0) Z
def qj {x:R×R}(e1:x.1=qR a b)(e2:x.2=qR c d)(q1:Q9 a b)(q2:Q9 c d)(hle:a*d<=c*b)(hp:pl<=30)(ht:Tb w):
 CL 200 #[.agg #[S x.1.1,S x.1.2,S x.2.1,S x.2.2],.int .i64 pl] w (aI w λv w'=>v=.tuple #[IV (qo a b (aC pl)) (aC pl) (rb c d (aC pl)) (aC pl),.int .i64 0]):=by
 refine aE func200 Z (I ?_);refine bx (λAq Ap G=>?_);have E:=Ap.2;refine bx (λA1 Ar H=>?_);have⟨G,E⟩:=bn Ar.2 G E;refine al dk (λ_ A2 O=>?_);have⟨G,H,E⟩:=cj A2.2 G H E;refine I ?_;refine aa (aF (vf:=[]) (vc:=[pT w.heap.size,pT Aq.heap.size]) Z Z ?_);refine aa (aN (cs:=[S x.1.1,S x.1.2,S x.2.1,S x.2.2]) (b:=w.heap.size) (o:=0) en Z dE Z (aa0 G (i:=0) Z) ?_);refine BS (λ_ Ab _ Am=>?_);have⟨G,H,O,E⟩:=eY Ab G H O E;refine clb Sj (hc:=Bw (l:=[x]) (x:=(qR (qo a b (aC pl)) (aC pl),qR (rb c d (aC pl)) (aC pl))) Sp (aa7 Am) Z JT (λy hy=>by rw[List.mem_singleton.1 hy];exact⟨a,b,c,d,e1,e2,q1,q2,hle⟩) (λW e=>HF e1 e2 q1 q2 (G.ext e) (H.ext e) hp ((ht.ext E).ext e)) (ht.ext E)) (hk:=?_);rintro _ _ Ao rfl;have⟨G,H,O,E⟩:=eY Ao.2 G H O E;refine I ?_;refine SA O (λ_ A0 Af=>?_);have⟨G,H⟩:=kI A0 G H;have E:=bh A0 E;refine I ?_;refine aX (v:=.tuple #[IV (qo a b (aC pl)) (aC pl) (rb c d (aC pl)) (aC pl),.int .i64 0]) (cQ (r1:=.cell 4 144) (r2:=.tmp 5) Z ?_ ?_) E Z;refine ai (t:=4) (cs:=[S ((qR (qo a b (aC pl)) (aC pl)).1),S ((qR (qo a b (aC pl)) (aC pl)).2),S ((qR (rb c d (aC pl)) (aC pl)).1),S ((qR (rb c d (aC pl)) (aC pl)).2)]) (b:=A1.heap.size) (o:=0) en Z dE ?_ ?_
 exact Z;exact aa0 Af (i:=0) Z;exact aM (t:=5) WD _
def HG {x:R×R}(e1:x.1=qR a b)(e2:x.2=qR c d)(q1:Q9 a b)(q2:Q9 c d)(hb1:ao w b1 144 #[S x.1.1,S x.1.2,S x.2.1,S x.2.2])(ht:Tb w):
 CL 233 #[pT b1] w (aI w λv w'=>v=QV (c*b-a*d) (d*b)):=by
 have A2:=bt hb1;refine aE func233 Z (I ?_);refine al aY (λ_ H G=>?_);have hb1:=be H.2 hb1;have E:=H.2;refine I ?_;refine cl D7 (Yj e2 e1 q2 q1 (ht.ext E)) ?_;rintro _ _ A1 rfl;have⟨hb1,G,E⟩:=cj A1.2 hb1 G E;refine I ?_;refine cl BU yW ?_;rintro _ _ A0 rfl;have⟨hb1,G,E⟩:=cj A0.2 hb1 G E;refine SA G (λ_ O W=>?_);have hb1:=pb O hb1;have E:=bh O E;refine I ?_;refine aX (v:=QV (c*b-a*d) (d*b)) (bY  rfl ?_) E Z;refine ai (t:=1) (cs:=[S ((qR (c*b-a*d) (d*b)).1),S ((qR (c*b-a*d) (d*b)).2)]) (b:=w.heap.size) (o:=0) iO Z bV ?_ ?_;exact Z;exact aa0 W (i:=0) Z
def vE {x:R×R}(e1:x.1=qR a b)(e2:x.2=qR c d)(q1:Q9 a b)(q2:Q9 c d)(hle:a*d<=c*b)(ht:Tb w):
 CL 203 #[.agg #[S x.1.1,S x.1.2,S x.2.1,S x.2.2]] w (aI w λv w'=>v=.tuple #[QV (c*b-a*d) (d*b),.int .i64 0]):=by
 refine aE func203 Z (I ?_);refine bx (λA0 A2 G=>?_);have E:=A2.2;refine al aY (λ_ A1 H=>?_);have⟨G,E⟩:=bn A1.2 G E;refine I ?_;refine aa (aF (vf:=[]) (vc:=[pT w.heap.size]) Z Z ?_);refine aa (aN (cs:=[S x.1.1,S x.1.2,S x.2.1,S x.2.2]) (b:=w.heap.size) (o:=0) en Z dE Z (aa0 G (i:=0) Z) ?_);refine BS (λ_ Am _ Ao=>?_);have⟨G,H,E⟩:=cj Am G H E;refine clb Sq (hc:=By (l:=[x]) (x:=qR (c*b-a*d) (d*b)) Sr (aa7 Ao) Z JT (λy hy=>by rw[List.mem_singleton.1 hy];exact⟨a,b,c,d,e1,e2,q1,q2,hle⟩) (λW e=>HG e1 e2 q1 q2 (G.ext e) ((ht.ext E).ext e)) (ht.ext E)) (hk:=?_);rintro _ _ Af rfl;have⟨G,H,E⟩:=cj Af.2 G H E;refine I ?_;refine SA H (λ_ O Ab=>?_);have G:=pb O G;have E:=bh O E;refine I ?_;refine aX (v:=.tuple #[QV (c*b-a*d) (d*b),.int .i64 0]) (cQ (r1:=.cell 2 33) (r2:=.tmp 3) Z ?_ ?_) E Z;refine ai (t:=2) (cs:=[S ((qR (c*b-a*d) (d*b)).1),S ((qR (c*b-a*d) (d*b)).2)]) (b:=A0.heap.size) (o:=0) iO Z bV ?_ ?_;exact Z;exact aa0 Ab (i:=0) Z;exact aM (t:=3) WD _
def MR {l m:List UInt8}(e1:(l,m)=qR a b)(q1:Q9 a b)(ht:Tb w):
 CL 201 #[.agg #[S l,S m]] w (aI w λv w'=>v=.agg #[S l,S m,S l,S m]):=by
 refine aE func201 Z (I ?_);refine bx (λA1 W G=>?_);have E:=W.2;refine al dk (λ_ A0 H=>?_);have⟨G,E⟩:=bn A0.2 G E;refine I ?_;refine cl r9 (cB (dU _ _ _ (ht.ext E)) (RN e1 q1)) ?_;rintro _ _ Ab rfl;have⟨G,H,E⟩:=cj Ab.2 G H E;refine I ?_;refine aa (bR (vs:=[(0,.agg #[S l,S m]),(1,.agg #[S l,S m])]) (cells:=#[S l,S m,S l,S m]) (pl:=[(0,2),(2,2)]) en dk q0 Z q0 ?_);refine SA H (λ_ O A2=>?_);have G:=pb O G;have E:=bh O E;refine I ?_;refine aX (v:=.agg #[S l,S m,S l,S m]) (bY  rfl ?_) E Z;refine ai (t:=2) (cs:=[S l,S m,S l,S m]) (b:=A1.heap.size) (o:=0) en Z dE ?_ ?_;exact Z;exact aa0 A2 (i:=0) Z
def yP (S n d:Nat):N2:=lH (qk S n d) 1 2
def yY (S:Nat)(y:N2):Nat->N2->N2->Option (N2×N2)
 |0,u,b=>some (u,b)
 |1,u,b=>if yu b=true then some (u,lH b 1 2)else none
 |a+2,u,b=>if yu u=true/\yu b=true then yY S y a (m9 S u y) (lH b (a+2) 2)else none
def MS (S pl:Nat)(y:N2)(fr:Nat)(s e:N2):Option (N2×N2):=
 if fr%2=1 then(if yu s=true then(mJ S y).bind λu=>(mJ S (vJ pl,vJ pl+1)).bind λc=>if yu u=true/\yu c=true then some (m9 S s u,m9 S e c)else none else none)else some (s,e)
def Yo (S pl n d fr:Nat):Option (Int×Int):=
 if n<10^90/\d<10^90/\0<d/\yu (qk S n d)=true/\yu (yP S n d)=true then
  (yv (Ux S (yP S n d) fr) (1*S,1*S)).bind λs=>(yw S (yP S n d)).bind λe=>(MS S pl (yP S n d) fr s e).bind λp=>(yY S (yP S n d) fr p.1 p.2).bind λq=>
  if yu q.1=true/\yu q.2=true/\0<q.2.1/\0<q.2.2 then some (BD (1*S,1*S) (vW S q.1 q.2))else none
 else none
def Qr {S d fr:Nat}{r:Int×Int}(h:Yo S pl n d fr=some r):n<10^90/\d<10^90/\0<d/\Bk 95 (qk S n d)/\Bk 95 (yP S n d)/\∃s e p q,
 yv (Ux S (yP S n d) fr) (1*S,1*S)=some s/\yw S (yP S n d)=some e/\MS S pl (yP S n d) fr s e=some p/\yY S (yP S n d) fr p.1 p.2=some q/\Bk 95 q.1/\Bk 95 q.2/\0<q.2.1/\0<q.2.2/\r=BD (1*S,1*S) (vW S q.1 q.2):=by
 unfold Yo at h
 split at h
 · rename_i h1
   refine⟨h1.1,h1.2.1,h1.2.2.1,fJ h1.2.2.2.1,fJ h1.2.2.2.2,?_⟩
   cases hs:yv (Ux S (yP S n d) fr) (1*S,1*S)with
   |none=>rw[hs]at h;cases h
   | some s=>
     rw[hs,Option.bind_some]at h
     cases he:yw S (yP S n d)with
     |none=>rw[he]at h;cases h
     | some e=>
       rw[he,Option.bind_some]at h
       cases hp:MS S pl (yP S n d) fr s e with
       |none=>rw[hp]at h;cases h
       | some p=>
         rw[hp,Option.bind_some]at h
         cases hq:yY S (yP S n d) fr p.1 p.2 with
         |none=>rw[hq]at h;cases h
         | some q=>
           rw[hq,Option.bind_some]at h
           split at h
           · rename_i h2;cases h;exact⟨s,e,p,q,rfl,rfl,hp,hq,fJ h2.1,fJ h2.2.1,h2.2.2.1,h2.2.2.2,rfl⟩
           · cases h
 · cases h
def RP {S a:Nat}{y u b:N2}{q:N2×N2}(h0:0<a)(h:yY S y a u b=some q):Bk 95 b:=by
 match a,h0,h with
 |1,_,h=>unfold yY at h;split at h;rename_i h1;exact fJ h1;cases h
 |a+2,_,h=>unfold yY at h;split at h;rename_i h1;exact fJ h1.2;cases h
def RQ {S a:Nat}{y u b:N2}{q:N2×N2}(h0:1<a)(h:yY S y a u b=some q):Bk 95 u:=by
 match a,h0,h with
 |a+2,_,h=>unfold yY at h;split at h;rename_i h1;exact fJ h1.1;cases h
def Vi (S:Nat)(y:N2)(a:Int)(u b:N2)(q:N2×N2):Prop:=(0<=a/\yY S y a.toNat u b=some q)\/(a=-1/\(u,b)=q)
def F8 {S:Nat}{y u b:N2}{q:N2×N2}(h:Vi S y a u b q)(h0:0<a):∃n:Nat,a=(n:Int)/\0<n/\yY S y n u b=some q:=by
 rcases h with h|h
 · exact⟨a.toNat,by omega,by omega,h.2⟩
 · omega
def F9 {S:Nat}{y u b:N2}{q:N2×N2}(h:Vi S y a u b q)(h0:¬0<a):q=(u,b):=by
 rcases h with h|h
 · have e:a.toNat=0:=J
   rw[e]at h
   have:=h.2
   unfold yY at this
   cases this;rfl
 · exact h.2.symm
def RR {S:Nat}{y u b:N2}{q:N2×N2}(h0:1<n)(h:yY S y n u b=some q):Vi S y ((n:Int)-2) (m9 S u y) (lH b n 2) q:=by
 left
 obtain⟨k,rfl⟩:∃k,n=k+2:=⟨n-2,by omega⟩
 refine⟨by omega,?_⟩
 rw[show(((k+2:Nat):Int)-2).toNat=k by omega]
 unfold yY at h
 split at h
 · exact h
 · cases h
def RS {S:Nat}{y u b:N2}{q:N2×N2}(h0:0<n)(h1:¬1<n)(h:yY S y n u b=some q):Vi S y ((n:Int)-2) u (lH b n 2) q:=by
 right
 have e:n=1:=J
 subst e
 refine⟨by omega,?_⟩
 unfold yY at h
 split at h
 · cases h;rfl
 · cases h
def RU {S:Nat}{y u b:N2}{q:N2×N2}(h:yY S y n u b=some q):Vi S y (n:Int) u b q:=Or.inl ⟨by omega,by simpa using h⟩
def Qs {S fr:Nat}{y s e:N2}{p:N2×N2}(h:MS S pl y fr s e=some p):(fr%2=1/\∃u c,Bk 95 s/\mJ S y=some u/\mJ S (vJ pl,vJ pl+1)=some c/\Bk 95 u/\Bk 95 c/\p=(m9 S s u,m9 S e c))\/(¬fr%2=1/\p=(s,e)):=by
 unfold MS at h
 split at h
 · rename_i ho
   left
   refine⟨ho,?_⟩
   split at h
   · rename_i hs
     cases hu:mJ S y with
     |none=>rw[hu]at h;cases h
     | some u=>
       rw[hu,Option.bind_some]at h
       cases hc:mJ S (vJ pl,vJ pl+1)with
       |none=>rw[hc]at h;cases h
       | some c=>
         rw[hc,Option.bind_some]at h
         split at h
         · rename_i h2;cases h;exact⟨u,c,fJ hs,rfl,rfl,fJ h2.1,fJ h2.2,rfl⟩
         · cases h
   · cases h
 · rename_i ho;cases h;exact Or.inr ⟨ho,rfl⟩
def MU {d fr:Nat}{s e1:N2}{q:N2×N2}(hS:Sc sO)(hp:pl<81)(h1:0<fr)(h20:fr<=20)(hn:n<10^90)(hd:d<10^90)(hd0:0<d)(hof:Bk 95 (qk sO n d))(hy:Bk 95 (yP sO n d))(hs:yv (Ux sO (yP sO n d) fr) (1*sO,1*sO)=some s)(he:yw sO (yP sO n d)=some e1){u c:N2}(hsb:Bk 95 s)(hu:mJ sO (yP sO n d)=some u)(hc:mJ sO (vJ pl,vJ pl+1)=some c)(hub:Bk 95 u)(hcb:Bk 95 c)(ho:fr%2=1)(hq:yY sO (yP sO n d) fr (m9 sO s u) (m9 sO e1 c)=some q)(hq1:Bk 95 q.1)(hq2:Bk 95 q.2)(hm1:0<q.2.1)(hm2:0<q.2.2)(ht:Tb w):
 CL 151 #[.agg #[.int .i64 pl,S (nS sO)],QV ((n:Nat):Int) ((d:Nat):Int),.int .i64 fr] w (aI w λv w'=>v=.agg #[S (ae ((BD (1*sO,1*sO) (vW sO q.1 q.2)).1)),S (ae ((BD (1*sO,1*sO) (vW sO q.1 q.2)).2))]):=by
 have No:=Uw he;obtain⟨m,hR,hr⟩:=uQ hs;have S9:=Lb (a:=q.1) (b:=q.2) hS hm1 hq1;have h1S:Bk 199 (1*sO,1*sO):=by have:=hS.lt;exact⟨by simp only;omega,by simp only;omega⟩
 refine aE func151 Z (I ?_);refine bx (λKp Q0 E=>?_);have O:=Q0.2;refine bx (λB1 W0 H=>?_);have⟨E,O⟩:=bn W0.2 E O;refine bx (λE4 VW G=>?_);have⟨E,H,O⟩:=cj VW.2 E H O;refine al bN (λbW cc A1=>?_);have⟨E,H,G,O⟩:=eY cc.2 E H G O;refine I ?_;refine bH 6 ?_;refine sf ?_;refine aR (V:=.agg #[S (nS ((qk sO n d).1)),S (nS ((qk sO n d).2))]) (λ_ _ an _=>?_) ?_;refine cl Iq (Bv (a:=(n)) (b:=(d)) hS hn hd hd0 (ht.ext (xt O an))) ?_;rintro _ _ G0 rfl;have N0:=G0.2;refine I ?_;exact fs ⟨N0,rfl⟩;refine aR (V:=.agg #[S (nS ((lH (qk sO n d) 1 2).1)),S (nS ((lH (qk sO n d) 1 2).2))]) (λ_ _ Lk _=>?_) ?_;refine clb nT (hc:=lK (hof.mono dc) dc dc dc (ht.ext (xt O Lk))) (hk:=?_);rintro _ _ L4 rfl;have FR:=L4.2;refine I ?_;exact fs ⟨FR,rfl⟩;refine bC (λv As=>∃b:Nat,v=pT b/\bW.heap.size<=b/\ao As b 191 #[S [],S []]) (hs:=λ_ _ _ k ⟨b,e,l,h⟩=>⟨b,e,l,h.ext k⟩) (λ_ _ ES _=>?_) ?_;refine al bN (λ_ W2 a5=>?_);have a3:=W2.2;refine I ?_;exact fs ⟨a3,⟨_,rfl,(by have:=bz ES;omega),a5⟩⟩;refine sf ?_;intro _ _ P2 E9;have⟨E,H,G,A1,O⟩:=kv P2.2 E H G A1 O;obtain⟨Aw,S0,_,E7⟩:=(E9 5 7 Z Z);have ch:=bt E7;refine SA E7 (λW3 b0 A0=>?_);have⟨E,H,G,A1,O,_⟩:=QZ b0 E H G A1 O;refine I ?_
 refine bH 7 ?_;refine sf ?_;refine aR (V:=.agg #[S (nS ((1*sO,1*sO).1)),S (nS ((1*sO,1*sO).2))]) (λ_ _ Ne _=>?_) ?_;refine clb nQ (hc:=iL (n:=1) hS dc Fr (ht.ext (xt O Ne))) (hk:=?_);rintro _ _ Rm rfl;have Ix:=Rm.2;refine I ?_;exact fs ⟨Ix,rfl⟩;refine aB (λ_ _ _ _=>by refine aa (aF (vf:=[]) (vc:=[pT w.heap.size,pT Aw,pT B1.heap.size]) Z (au Z (au S0 (au Z Z))) ?_);refine I ?_;exact aG) ?_;refine bC (λv As=>DG (1*sO,1*sO) (.func (.func 192) #[] #[pT w.heap.size,pT Aw,pT B1.heap.size]) As v) (hs:=λ_ _ _ k h=>h.ext k) (λ_ _ _ _=>?_) ?_;refine cl BQ vz ?_;rintro _ _ Li KM;have T2:=Li.2;refine I ?_;exact fs ⟨T2,KM⟩;refine aR (V:=.agg #[S (nS s.1),S (nS s.2)]) (λ_ _ Az X2=>?_) ?_;obtain⟨_,_,KC,La,KY⟩:=(X2 4 20 Z Z);have⟨E,G,A0⟩:=qH Az E G A0;refine clb BP (hc:=cP (DJ hR hS La KY IN (λk hk W e=>MO hS (E.ext e) (A0.ext e) (G.ext e) (hR.bd k U) hy U kc8 U ((ht.ext (xt O Az)).ext e)) (ht.ext (xt O Az))) hr) (hk:=?_) (hv:=au Z (au KC Z));rintro _ _ H3 rfl;have K2:=H3.2;refine I ?_;exact fs ⟨K2,rfl⟩
 refine bC (λv As=>∃b:Nat,v=pT b/\W3.heap.size<=b/\ao As b 191 #[S [],S []]) (hs:=λ_ _ _ k ⟨b,e,l,h⟩=>⟨b,e,l,h.ext k⟩) (λ_ _ bb _=>?_) ?_;refine al bN (λ_ ce P1=>?_);have cT:=ce.2;refine I ?_;exact fs ⟨cT,⟨_,rfl,(by have:=bz bb;omega),P1⟩⟩;refine sf ?_;intro _ _ a6 X0;have⟨E,H,G,A1,A0,O⟩:=I5 a6.2 E H G A1 A0 O;obtain⟨EW,_,_,D2⟩:=(X0 6 8 Z Z);have cq:=bt D2;refine SA D2 (λ_ GC Ao=>?_);have⟨E,H,G,A1,A0,O,_⟩:=Vn GC E H G A1 A0 O;refine I ?_;refine cl Ip (MP hS he (ht.ext O)) ?_;rintro _ a0 CY rfl;have⟨E,H,G,A1,A0⟩:=oJ CY.2 E H G A1 A0;have⟨Ao,O⟩:=bn CY.2 Ao O;refine al bN (λ_ CB c9=>?_);have⟨E,H,G,A1,A0⟩:=oJ CB.2 E H G A1 A0;have⟨Ao,O⟩:=bn CB.2 Ao O;refine SA c9 (λ_ E5 Aq=>?_);have⟨E,H,G,A1,A0⟩:=y0 E5 E H G A1 A0;have⟨Ao,O,_⟩:=ku E5 Ao O;refine I ?_;refine aa (mc (a:=(fr:Int)) (b:=2) (c:=(fr:Int)%2) Z Z U U Z ?_);refine I ?_;refine bH 12 ?_;refine sf ?_;refine aR (V:=.agg #[S (nS u.1),S (nS u.2)]) (λ_ _ a8 _=>?_) ?_;refine cl Iw (xk hS hu (ht.ext (xt O a8))) ?_;rintro _ _ W1 rfl;have H2:=W1.2;refine I ?_;exact fs ⟨H2,rfl⟩;refine aR (V:=.agg #[S (nS ((m9 sO s u).1)),S (nS ((m9 sO s u).2))]) (λ_ _ a9 _=>?_) ?_;refine cl nU (gK hS hsb hub (ht.ext (xt O a9))) ?_
 rintro _ _ nm rfl;have ac:=nm.2;refine I ?_;exact fs ⟨ac,rfl⟩;refine sf ?_;refine aR (V:=.agg #[S (nS ((vJ pl,vJ pl+1).1)),S (nS ((vJ pl,vJ pl+1).2))]) (λ_ _ a4 _=>?_) ?_;refine cl Sv (Yi hp (ht.ext (xt O a4))) ?_;rintro _ _ WV rfl;have L1:=WV.2;refine I ?_;exact fs ⟨L1,rfl⟩;refine aR (V:=.agg #[S (nS c.1),S (nS c.2)]) (λ_ _ bv _=>?_) ?_;refine cl Iw (xk hS hc (ht.ext (xt O bv))) ?_;rintro _ _ Wa rfl;have bZ:=Wa.2;refine I ?_;exact fs ⟨bZ,rfl⟩;refine sf ?_;intro _ _ ny _;have⟨E,H,G,A1,A0⟩:=oJ ny.2 E H G A1 A0;have⟨Ao,Aq,O⟩:=cj ny.2 Ao Aq O;refine cl nU (gK hS No hcb (ht.ext O)) ?_;rintro _ _ od rfl;have⟨E,H,G,A1,A0⟩:=oJ od.2 E H G A1 A0;have⟨Ao,Aq,O⟩:=cj od.2 Ao Aq O;refine SA Ao (λ_ B2 Ay=>?_);have⟨E,H,G,A1,A0⟩:=y0 B2 E H G A1 A0;have Aq:=pb B2 Aq;have O:=bh B2 O;refine SA Aq (λL3 B0 T3=>?_);have⟨E,H,G,A1,A0⟩:=y0 B0 E H G A1 A0;have Ay:=pb B0 Ay;have O:=bh B0 O;refine I ?_
 refine cg [(10,10),(42,55)] (λL2 e W=>∃aq:Int,∃Am:N2,∃Af:N2,((aq+2).toNat=L2)/\(e 10=.int .i64 aq)/\(Vi sO (lH (qk sO n d) 1 2) aq Am Af q)/\(aq<=(fr:Int))/\(L3.heap.size<=W.heap.size)/\(aP w W)/\(ao W w.heap.size 189 #[.int .i64 pl,S (nS sO)])/\(ao W Kp.heap.size 33 #[S ((qR ((n:Nat):Int) ((d:Nat):Int)).1),S ((qR ((n:Nat):Int) ((d:Nat):Int)).2)])/\(ao W B1.heap.size 3 #[.int .i64 fr])/\(ao W E4.heap.size 191 #[S [],S []])/\(ao W Aw 191 #[S (nS ((lH (qk sO n d) 1 2).1)),S (nS ((lH (qk sO n d) 1 2).2))])/\(ao W a0.heap.size 191 #[S (nS Af.1),S (nS Af.2)])/\(ao W EW 191 #[S (nS Am.1),S (nS Am.2)])) (((fr:Int)+2).toNat) ⟨(fr:Int),m9 sO s u,m9 sO e1 c,rfl,rfl,(RU hq),(Int.le_refl _),(qa0 _),O,E,H,G,A1,A0,T3,Ay⟩ ?_;rintro _ _ _ ⟨aq,Am,Af,rfl,cf,C1,co,cm,A2,E,H,G,A1,A0,Ap,Ab⟩;by_cases hl:0<aq;obtain⟨a,rfl,CG,Av⟩:=F8 C1 hl;have bp:=RP CG Av;have cr:a<=fr:=J
 refine I ?_;refine clb nT (hc:=lK (bp.mono dc) U dc dc (ht.ext A2)) (hk:=?_);rintro _ _ Cr rfl;have⟨E,H,G,A1,A0⟩:=oJ Cr.2 E H G A1 A0;have⟨Ap,Ab,A2⟩:=cj Cr.2 Ap Ab A2;refine SA Ap (λ_ E6 Ar=>?_);have⟨E,H,G,A1,A0⟩:=y0 E6 E H G A1 A0;have⟨Ab,A2,_⟩:=ku E6 Ab A2;refine I ?_;by_cases ap7:1<((a:Nat):Int);refine I ?_;refine clb nU (hc:=gK hS (RQ U Av) hy (ht.ext A2)) (hk:=?_);rintro _ _ D1 rfl;have⟨E,H,G,A1,A0⟩:=oJ D1.2 E H G A1 A0;have⟨Ar,Ab,A2⟩:=cj D1.2 Ar Ab A2;refine SA Ab (λ_ wr Vm=>?_);have⟨E,H,G,A1,A0⟩:=y0 wr E H G A1 A0;have⟨Ar,A2,_⟩:=ku wr Ar A2;refine I ?_;refine nY (I ?_);exact bJ ⟨((a:Nat):Int)-2,m9 sO Am (lH (qk sO n d) 1 2),lH Af a 2,rfl,rfl,(RR U Av),U,U,A2,E,H,G,A1,A0,Ar,Vm⟩;refine I ?_;refine nY (I ?_);exact bJ ⟨((a:Nat):Int)-2,Am,lH Af a 2,rfl,rfl,(RS CG U Av),U,U,A2,E,H,G,A1,A0,Ar,Ab⟩;have P0:=F9 C1 hl;subst P0;refine I ?_;refine bH 7 ?_;refine sf ?_;refine aR (V:=.agg #[S (nS ((1*sO,1*sO).1)),S (nS ((1*sO,1*sO).2))]) (λ_ _ K3 _=>?_) ?_;refine clb nQ (hc:=iL (n:=1) hS dc Fr (ht.ext (xt A2 K3))) (hk:=?_);rintro _ _ Lj rfl;have bq:=Lj.2;refine I ?_;exact fs ⟨bq,rfl⟩;refine sf ?_
 refine aR (V:=.agg #[S (nS ((vW sO Am Af).1)),S (nS ((vW sO Am Af).2))]) (λ_ _ H4 _=>?_) ?_;refine clb Io (hc:=wY hS hq1 (hq2.mono dc) hm1 hm2 (ht.ext (xt A2 H4))) (hk:=?_);rintro _ _ ad rfl;have cb:=ad.2;refine I ?_;exact fs ⟨cb,rfl⟩;refine sf ?_;intro _ _ E0 _;have⟨E,H,G,A1,A0⟩:=oJ E0.2 E H G A1 A0;have⟨Ap,Ab,A2⟩:=cj E0.2 Ap Ab A2;refine clb It (hc:=vd h1S (S9.mono dc) (ht.ext A2)) (hk:=?_);rintro _ _ E1 rfl;have⟨E,H,G,A1,A0⟩:=oJ E1.2 E H G A1 A0;have⟨Ap,Ab,A2⟩:=cj E1.2 Ap Ab A2;refine SA A1 (λ_ Ax a2=>?_);have⟨E,H,G,A0,Ap⟩:=y0 Ax E H G A0 Ap;have Ab:=pb Ax Ab;have A2:=bh Ax A2;refine I ?_;refine aX (v:=.agg #[S (ae ((BD (1*sO,1*sO) (vW sO Am Af)).1)),S (ae ((BD (1*sO,1*sO) (vW sO Am Af)).2))]) (bY  rfl ?_) A2 Z;refine ai (t:=6) (cs:=[S (ae ((BD (1*sO,1*sO) (vW sO Am Af)).1)),S (ae ((BD (1*sO,1*sO) (vW sO Am Af)).2))]) (b:=E4.heap.size) (o:=0) jn Z fw ?_ ?_;exact Z;exact aa0 a2 (i:=0) Z
def MV {d fr:Nat}{s e1:N2}{q:N2×N2}(hS:Sc sO)(hp:pl<81)(h1:0<fr)(h20:fr<=20)(hn:n<10^90)(hd:d<10^90)(hd0:0<d)(hof:Bk 95 (qk sO n d))(hy:Bk 95 (yP sO n d))(hs:yv (Ux sO (yP sO n d) fr) (1*sO,1*sO)=some s)(he:yw sO (yP sO n d)=some e1)(ho:¬fr%2=1)(hq:yY sO (yP sO n d) fr s e1=some q)(hq1:Bk 95 q.1)(hq2:Bk 95 q.2)(hm1:0<q.2.1)(hm2:0<q.2.2)(ht:Tb w):
 CL 151 #[.agg #[.int .i64 pl,S (nS sO)],QV ((n:Nat):Int) ((d:Nat):Int),.int .i64 fr] w (aI w λv w'=>v=.agg #[S (ae ((BD (1*sO,1*sO) (vW sO q.1 q.2)).1)),S (ae ((BD (1*sO,1*sO) (vW sO q.1 q.2)).2))]):=by
 obtain⟨m,hR,hr⟩:=uQ hs;have L4:=Lb (a:=q.1) (b:=q.2) hS hm1 hq1;have h1S:Bk 199 (1*sO,1*sO):=by have:=hS.lt;exact⟨by simp only;omega,by simp only;omega⟩
 refine aE func151 Z (I ?_);refine bx (λG0 E4 E=>?_);have A1:=E4.2;refine bx (λAw X0 H=>?_);have⟨E,A1⟩:=bn X0.2 E A1;refine bx (λE0 W1 G=>?_);have⟨E,H,A1⟩:=cj W1.2 E H A1;refine al bN (λNo WV A0=>?_);have⟨E,H,G,A1⟩:=eY WV.2 E H G A1;refine I ?_;refine bH 6 ?_;refine sf ?_;refine aR (V:=.agg #[S (nS ((qk sO n d).1)),S (nS ((qk sO n d).2))]) (λ_ _ E7 _=>?_) ?_;refine cl Iq (Bv (a:=(n)) (b:=(d)) hS hn hd hd0 (ht.ext (xt A1 E7))) ?_;rintro _ _ Lk rfl;have Kp:=Lk.2;refine I ?_;exact fs ⟨Kp,rfl⟩;refine aR (V:=.agg #[S (nS ((lH (qk sO n d) 1 2).1)),S (nS ((lH (qk sO n d) 1 2).2))]) (λ_ _ W2 _=>?_) ?_;refine clb nT (hc:=lK (hof.mono dc) dc dc dc (ht.ext (xt A1 W2))) (hk:=?_);rintro _ _ a3 rfl;have L2:=a3.2;refine I ?_;exact fs ⟨L2,rfl⟩;refine bC (λv Ar=>∃b:Nat,v=pT b/\No.heap.size<=b/\ao Ar b 191 #[S [],S []]) (hs:=λ_ _ _ k ⟨b,e,l,h⟩=>⟨b,e,l,h.ext k⟩) (λ_ _ S9 _=>?_) ?_;refine al bN (λ_ Wa T2=>?_);have VW:=Wa.2;refine I ?_;exact fs ⟨VW,⟨_,rfl,(by have:=bz S9;omega),T2⟩⟩;refine sf ?_;intro _ _ P1 L3;have⟨E,H,G,A0,A1⟩:=kv P1.2 E H G A0 A1;obtain⟨ny,K3,_,Az⟩:=(L3 5 7 Z Z);have a6:=bt Az;refine SA Az (λW0 P2 O=>?_);have⟨E,H,G,A0,A1,_⟩:=QZ P2 E H G A0 A1;refine I ?_
 refine bH 7 ?_;refine sf ?_;refine aR (V:=.agg #[S (nS ((1*sO,1*sO).1)),S (nS ((1*sO,1*sO).2))]) (λ_ _ T3 _=>?_) ?_;refine clb nQ (hc:=iL (n:=1) hS dc Fr (ht.ext (xt A1 T3))) (hk:=?_);rintro _ _ ES rfl;have a5:=ES.2;refine I ?_;exact fs ⟨a5,rfl⟩;refine aB (λ_ _ _ _=>by refine aa (aF (vf:=[]) (vc:=[pT w.heap.size,pT ny,pT Aw.heap.size]) Z (au Z (au K3 (au Z Z))) ?_);refine I ?_;exact aG) ?_;refine bC (λv Ar=>DG (1*sO,1*sO) (.func (.func 192) #[] #[pT w.heap.size,pT ny,pT Aw.heap.size]) Ar v) (hs:=λ_ _ _ k h=>h.ext k) (λ_ _ _ _=>?_) ?_;refine cl BQ vz ?_;rintro _ _ Li GC;have Ix:=Li.2;refine I ?_;exact fs ⟨Ix,GC⟩;refine aR (V:=.agg #[S (nS s.1),S (nS s.2)]) (λ_ _ od E6=>?_) ?_;obtain⟨_,_,Lj,KM,E1⟩:=(E6 4 20 Z Z);have⟨E,G,O⟩:=qH od E G O;refine clb BP (hc:=cP (DJ hR hS KM E1 IN (λk hk W e=>MO hS (E.ext e) (O.ext e) (G.ext e) (hR.bd k U) hy U kc8 U ((ht.ext (xt A1 od)).ext e)) (ht.ext (xt A1 od))) hr) (hk:=?_) (hv:=au Z (au Lj Z));rintro _ _ La rfl;have K2:=La.2;refine I ?_;exact fs ⟨K2,rfl⟩
 refine bC (λv Ar=>∃b:Nat,v=pT b/\W0.heap.size<=b/\ao Ar b 191 #[S [],S []]) (hs:=λ_ _ _ k ⟨b,e,l,h⟩=>⟨b,e,l,h.ext k⟩) (λ_ _ E5 _=>?_) ?_;refine al bN (λ_ E9 H3=>?_);have EW:=E9.2;refine I ?_;exact fs ⟨EW,⟨_,rfl,(by have:=bz E5;omega),H3⟩⟩;refine sf ?_;intro _ _ S0 H2;have⟨E,H,G,A0,O,A1⟩:=I5 S0.2 E H G A0 O A1;obtain⟨Rm,_,_,B2⟩:=(H2 6 8 Z Z);have ad:=bt B2;refine SA B2 (λ_ X2 Ap=>?_);have⟨E,H,G,A0,O,A1,_⟩:=Vn X2 E H G A0 O A1;refine I ?_;refine cl Ip (MP hS he (ht.ext A1)) ?_;rintro _ FR C1 rfl;have⟨E,H,G,A0,O⟩:=oJ C1.2 E H G A0 O;have⟨Ap,A1⟩:=bn C1.2 Ap A1;refine al bN (λ_ D2 N0=>?_);have⟨E,H,G,A0,O⟩:=oJ D2.2 E H G A0 O;have⟨Ap,A1⟩:=bn D2.2 Ap A1;refine SA N0 (λa4 CG P0=>?_);have⟨E,H,G,A0,O⟩:=y0 CG E H G A0 O;have⟨Ap,A1,_⟩:=ku CG Ap A1;refine I ?_;refine aa (mc (a:=(fr:Int)) (b:=2) (c:=(fr:Int)%2) Z Z U U Z ?_);refine I ?_;refine I ?_
 refine cg [(10,10),(42,55)] (λH4 e W=>∃aq:Int,∃Am:N2,∃Af:N2,((aq+2).toNat=H4)/\(e 10=.int .i64 aq)/\(Vi sO (lH (qk sO n d) 1 2) aq Am Af q)/\(aq<=(fr:Int))/\(a4.heap.size<=W.heap.size)/\(aP w W)/\(ao W w.heap.size 189 #[.int .i64 pl,S (nS sO)])/\(ao W G0.heap.size 33 #[S ((qR ((n:Nat):Int) ((d:Nat):Int)).1),S ((qR ((n:Nat):Int) ((d:Nat):Int)).2)])/\(ao W Aw.heap.size 3 #[.int .i64 fr])/\(ao W E0.heap.size 191 #[S [],S []])/\(ao W ny 191 #[S (nS ((lH (qk sO n d) 1 2).1)),S (nS ((lH (qk sO n d) 1 2).2))])/\(ao W FR.heap.size 191 #[S (nS Af.1),S (nS Af.2)])/\(ao W Rm 191 #[S (nS Am.1),S (nS Am.2)])) (((fr:Int)+2).toNat) ⟨(fr:Int),s,e1,rfl,rfl,(RU hq),(Int.le_refl _),(qa0 _),A1,E,H,G,A0,O,P0,Ap⟩ ?_;rintro _ _ _ ⟨aq,Am,Af,rfl,a8,Ay,ac,a9,A2,E,H,G,A0,O,Ao,Ab⟩;by_cases hl:0<aq;obtain⟨a,rfl,B1,As⟩:=F8 Ay hl;have a2:=RP B1 As;have an:a<=fr:=J
 refine I ?_;refine clb nT (hc:=lK (a2.mono dc) U dc dc (ht.ext A2)) (hk:=?_);rintro _ _ Ax rfl;have⟨E,H,G,A0,O⟩:=oJ Ax.2 E H G A0 O;have⟨Ao,Ab,A2⟩:=cj Ax.2 Ao Ab A2;refine SA Ao (λ_ B0 Aq=>?_);have⟨E,H,G,A0,O⟩:=y0 B0 E H G A0 O;have⟨Ab,A2,_⟩:=ku B0 Ab A2;refine I ?_;by_cases apk:1<((a:Nat):Int);refine I ?_;refine clb nU (hc:=gK hS (RQ U As) hy (ht.ext A2)) (hk:=?_);rintro _ _ Cr rfl;have⟨E,H,G,A0,O⟩:=oJ Cr.2 E H G A0 O;have⟨Aq,Ab,A2⟩:=cj Cr.2 Aq Ab A2;refine SA Ab (λ_ CY Q0=>?_);have⟨E,H,G,A0,O⟩:=y0 CY E H G A0 O;have⟨Aq,A2,_⟩:=ku CY Aq A2;refine I ?_;refine nY (I ?_);exact bJ ⟨((a:Nat):Int)-2,m9 sO Am (lH (qk sO n d) 1 2),lH Af a 2,rfl,rfl,(RR U As),U,U,A2,E,H,G,A0,O,Aq,Q0⟩;refine I ?_;refine nY (I ?_);exact bJ ⟨((a:Nat):Int)-2,Am,lH Af a 2,rfl,rfl,(RS B1 U As),U,U,A2,E,H,G,A0,O,Aq,Ab⟩;have KY:=F9 Ay hl;subst KY;refine I ?_;refine bH 7 ?_;refine sf ?_;refine aR (V:=.agg #[S (nS ((1*sO,1*sO).1)),S (nS ((1*sO,1*sO).2))]) (λ_ _ Ne _=>?_) ?_;refine clb nQ (hc:=iL (n:=1) hS dc Fr (ht.ext (xt A2 Ne))) (hk:=?_);rintro _ _ W3 rfl;have L1:=W3.2;refine I ?_;exact fs ⟨L1,rfl⟩;refine sf ?_
 refine aR (V:=.agg #[S (nS ((vW sO Am Af).1)),S (nS ((vW sO Am Af).2))]) (λ_ _ nm _=>?_) ?_;refine clb Io (hc:=wY hS hq1 (hq2.mono dc) hm1 hm2 (ht.ext (xt A2 nm))) (hk:=?_);rintro _ _ Vm rfl;have a0:=Vm.2;refine I ?_;exact fs ⟨a0,rfl⟩;refine sf ?_;intro _ _ CB _;have⟨E,H,G,A0,O⟩:=oJ CB.2 E H G A0 O;have⟨Ao,Ab,A2⟩:=cj CB.2 Ao Ab A2;refine clb It (hc:=vd h1S (L4.mono dc) (ht.ext A2)) (hk:=?_);rintro _ _ D1 rfl;have⟨E,H,G,A0,O⟩:=oJ D1.2 E H G A0 O;have⟨Ao,Ab,A2⟩:=cj D1.2 Ao Ab A2;refine SA A0 (λ_ Av KC=>?_);have⟨E,H,G,O,Ao⟩:=y0 Av E H G O Ao;have Ab:=pb Av Ab;have A2:=bh Av A2;refine I ?_;refine aX (v:=.agg #[S (ae ((BD (1*sO,1*sO) (vW sO Am Af)).1)),S (ae ((BD (1*sO,1*sO) (vW sO Am Af)).2))]) (bY  rfl ?_) A2 Z;refine ai (t:=6) (cs:=[S (ae ((BD (1*sO,1*sO) (vW sO Am Af)).1)),S (ae ((BD (1*sO,1*sO) (vW sO Am Af)).2))]) (b:=E0.heap.size) (o:=0) jn Z fw ?_ ?_;exact Z;exact aa0 KC (i:=0) Z
def Qt {d fr:Nat}{r:Int×Int}(hS:Sc sO)(hp:pl<81)(h1:0<fr)(h20:fr<=20)(hh:Yo sO pl n d fr=some r)(ht:Tb w):
 CL 151 #[.agg #[.int .i64 pl,S (nS sO)],QV ((n:Nat):Int) ((d:Nat):Int),.int .i64 fr] w (aI w λv _=>v=.agg #[S (ae r.1),S (ae r.2)]):=by
 obtain⟨G,hd,A1,O,hy,s,_,p,q,hs,A2,Ab,hq,E,H,W,A0,rfl⟩:=Qr hh
 rcases Qs Ab with⟨ho,u,c,hsb,hu,hc,hub,hcb,rfl⟩|⟨ho,rfl⟩
 · exact MU hS hp h1 h20 G hd A1 O hy hs A2 hsb hu hc hub hcb ho hq E H W A0 ht
 · exact MV hS hp h1 h20 G hd A1 O hy hs A2 ho hq E H W A0 ht
def BA (h:n<10^12):(br n).length<=12:=by
 unfold br;split
 · simp
 · rw[cL];exact(ba 10 U n 12).2 h
def Qu {l m:List UInt8}(e:(l,m)=qR a b)(h:Q9 a b)(ha:a.natAbs<10^12):(((body l).length:Nat):Int)<=12:=by
 rw[show l=ae (qc a b)from congrArg Prod.fst e,gE]
 have:=BA (Nat.lt_of_le_of_lt (Dt h.2.1) ha)
 omega
def Qw {l m:List UInt8}(e:(l,m)=qR a b)(h:Q9 a b)(hb:b<10^12):((m.length:Nat):Int)<=12:=by
 rw[show m=ae (dh a b)from congrArg Prod.snd e]
 have h1:=oF (n:=a) h.2.1
 have h2:=LS (n:=a) h.2.1
 unfold ae
 rw[if_neg U]
 have:=BA (n:=(dh a b).natAbs) U
 omega
def jW (pl:Nat)(a b la lb ha hb:Int):Bool:=decide ((pl:Int)<=12)&&(decide (0<=aO (a*lb) (la*b))&&decide (aO (a*hb) (ha*b)<=0))
def oH {l m:List UInt8}(e:(l,m)=qR a b)(h:Q9 a b)(ha:a.natAbs<10^12)(hb:b<10^12)(ht:Tb w):
 CL 228 #[.agg #[S l,S m]] w (aI w λv w'=>v=.bool true):=by
 have h1:=Qu e h ha;have h2:=Qw e h hb;refine aE func228 Z (I ?_);refine bx (λ_ O G=>?_);have E:=O.2;refine I ?_;refine cl r9 (cB (dU _ _ _ (ht.ext E)) (RN e h)) ?_;rintro _ _ W rfl;have⟨G,E⟩:=bn W.2 G E;refine I ?_;refine cl Ik (xS _ _) ?_;rintro _ _ H rfl;have⟨G,E⟩:=bn H.2 G E;refine I ?_;refine aa (du (l:=body l) U9 Z ?_);refine I ?_;refine aa (du (l:=m) U9 Z ?_);refine I ?_;exact am (t:=2) (v:=.bool (decide ((((m).length:Nat):Int)<=12))) Z E (qb2 Value.bool (qa1 h2)) Z
def oI {l m l1 m1 l2 m2 l3 m3 l4 m4:List UInt8}{fu:Value}{la lb ha hb:Int}(e:(l,m)=qR a b)(h:Q9 a b)(ha12:a.natAbs<10^12)(hb12:b<10^12)(e1:(l1,m1)=qR la lb)(q1:Q9 la lb)(e2:(l2,m2)=qR ha hb)(q2:Q9 ha hb)(hu:fu.cells=#[fu])(ht:Tb w):
 CL 199 #[.agg #[S l1,S m1,S l2,S m2,S l3,S m3,S l4,S m4,fu],.agg #[S l,S m],.int .i64 pl] w (aI w λv w'=>v=.bool (jW pl a b la lb ha hb)):=by
 refine aE func199 Z (I ?_);refine bx (λ_ Ab G=>?_);have E:=Ab.2;refine bx (λ_ Af H=>?_);have⟨G,E⟩:=bn Af.2 G E;refine I ?_;by_cases cx:0<=(pl:Int);by_cases cm:(pl:Int)<=12;by_cases cw:0<=(aO (a*lb) (la*b));refine I ?_;refine cl BR (oH e h ha12 hb12 (ht.ext E)) ?_;rintro _ _ W rfl;have⟨G,H,E⟩:=cj W.2 G H E;refine I ?_;refine cl oW (vA e e1 h q1 (ht.ext E)) ?_;rintro _ _ A0 rfl;have⟨G,H,E⟩:=cj A0.2 G H E;refine I ?_;refine cl oW (vA e e2 h q2 (ht.ext E)) ?_;rintro _ _ O rfl;have E:=xt E O.2;refine I ?_;exact am (t:=6) (v:=.bool (decide ((aO (a*hb) (ha*b))<=0))) Z E (by unfold jW;rw[decide_eq_true cm];rw[decide_eq_true cw];first|rfl|simp) Z;refine I ?_;refine cl BR (oH e h ha12 hb12 (ht.ext E)) ?_;rintro _ _ Am rfl;have⟨G,H,E⟩:=cj Am.2 G H E;refine I ?_;refine cl oW (vA e e1 h q1 (ht.ext E)) ?_;rintro _ _ A1 rfl;have E:=xt E A1.2;refine I ?_;exact am (t:=6) (v:=.bool false) Z E (by unfold jW;rw[decide_eq_true cm];rw[decide_eq_false cw];first|rfl|simp) Z;refine I ?_;refine cl BR (oH e h ha12 hb12 (ht.ext E)) ?_;rintro _ _ A2 rfl;have E:=xt E A2.2;refine I ?_;exact am (t:=6) (v:=.bool false) Z E (by unfold jW;rw[decide_eq_false cm];first|rfl|simp) Z;omega
end Go.Proofs.YtlmihmlnpjkblaaGreatDoor
