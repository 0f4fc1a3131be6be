/- Part of the proof of a statement about an adjustment. -/
import Derived.Test.YtlmihmlnpjkblaaGreatDoorAj10ToAjNS
set_option linter.all false
namespace Go.Proofs.YtlmihmlnpjkblaaGreatDoor
variable {lb lbn:Array Value}{a b t c d:Int}{k sO pl g b1 b2 gn n lo i cp gf:Nat}{A:Option Addr}{w w0:World}
set_option maxRecDepth 100000
open Go Go.Eng Go.RowKit Tryz
attribute [local irreducible] wpListIn Code.wpIn Oper.wpIn Exit.then Exit.inBlock Exit.noGoto
set_option maxHeartbeats 40000000
def vN (p:N2):Value:=.agg #[S (nS p.1),S (nS p.2)]
def fv (g:Nat)(lb:Array Value):Value:=.func (.func g) #[] lb
def D3 (t0:N2)(f:Value)(W:World)(v:Value):Prop:=∃b1 b2,v=.func (.func 224) #[] #[pT b1,pT b2]/\ar W b1 191 #[S (nS t0.1),S (nS t0.2)]/\ar W b2 245 #[f]
def D3.ext {t0:N2}{f v:Value}{A B:World}(k:aO A B)(h:D3 t0 f A v):D3 t0 f B v:=by
 obtain⟨b1,b2,e,h1,h2⟩:=h
 exact⟨b1,b2,e,h1.ext k,h2.ext k⟩
def r5 (q:Bool)(t l:N2):Bool:=q&&(decide (t.2<=2)&&decide (t.2*2<=l.2+2))
section
variable {q:Bool}{t l:N2}
def Z1 (h:q=false):Value.bool q=.bool (r5 q t l):=by subst h;rfl
def Z2 (h:q=true)(h1:¬aQ ((t.2:Nat):Int) ((2:Nat):Int)<=0):Value.bool false=.bool (r5 q t l):=by
 rw[dh]at h1;subst h;unfold r5;rw[decide_eq_false U];rfl
def Z3 (h:q=true)(h1:aQ ((t.2:Nat):Int) ((2:Nat):Int)<=0):Value.bool (decide (aQ ((t.2*2:Nat):Int) ((l.2+2:Nat):Int)<=0))=.bool (r5 q t l):=by
 rw[dh]at h1;subst h;unfold r5;rw[decide_eq_true (show t.2<=2 by omega),Bool.true_and,Bool.true_and]
 congr 1;rw[decide_eq_decide,dh];omega
end
def wn (T:Nat->N2):Nat->N2
 |0=>(0,0)
 |k+1=>T k
def A3.last {T:Nat->N2}{m:Nat}(h:A3 T m)(hk:k<=m):r5 (decide (k≠0)) (T k) (wn T k)=decide (k=m):=by
 unfold r5
 by_cases e:k=m
 · subst e
   have E:=h.pos
   obtain⟨p,rfl⟩:∃p,k=p+1:=⟨k-1,by omega⟩
   have:=h.stop
   rw[decide_eq_true U,decide_eq_true this.1,decide_eq_true (show(T (p+1)).2*2<=(wn T (p+1)).2+2 from this.2),decide_eq_true Z];rfl
 · rw [decide_eq_false e]
   rcases h.go k U with h0|h0
   · rw[decide_eq_false U];rfl
   · cases k with
     |zero=>rfl
     | succ p=>
       have h1:¬((T (p+1)).2<=2/\(T (p+1)).2*2<=(wn T (p+1)).2+2):=h0
       by_cases h2:(T (p+1)).2<=2
       · rw[decide_eq_false (λe=>h1 ⟨h2,e⟩)];simp
       · rw[decide_eq_false h2];simp
def M4 {a b:Nat}{l m:List UInt8}(hl:l=nS a)(hm:m=nS b)(ha:Fi a)(hb:Fi b):CL 64 #[S l,S m] w (aH w λv _=>v=.int .i64 (aQ (a:Int) (b:Int))):=by
 subst hl hm
 exact nE (pu _ _ _) (qb2 (Value.int .i64) (Lc ha.z hb.z))
def r6 (hS:Sc sO)(ht:Tb w):CL 191 #[.agg #[.int .i64 pl,S (nS sO)],.int .i64 0] w (aH w λv _=>v=.agg #[S (nS 0),S (nS 0)]):=by
 have h:=iN (n:=0) (pl:=pl) hS dc (by rw[Nat.zero_mul];unfold Fi;decide) ht
 simp only[Nat.zero_mul]at h
 exact h
def vK {t0:N2}:
 CL 190 #[.agg #[S (nS t0.1),S (nS t0.2)],.func (.func g) #[] lb] w (aH w λv w'=>D3 t0 (fv g lb) w' v):=by
 refine aD func190 Z (I ?_);refine bx (λO W G=>?_);have E:=W.2;refine bx (v:=.func (.func g) #[] lb) (hx:=rfl) (λ_ H A0=>?_);have G:=be H.2 G;have E:=xt E H.2;refine aa (aK (v:=.nilFunc) Z ?_);refine I ?_;refine aa (aC (vf:=[]) (vc:=[pT w.heap.size,pT O.heap.size]) Z Z ?_);refine I ?_;exact am (t:=4) (v:=.func (.func 224) #[] #[pT w.heap.size,pT O.heap.size]) Z E ⟨_,_,rfl,G,A0⟩ Z
def Qy {q:Bool}{t l:N2}(h1:ar w b1 4 #[.bool q])(h2:ar w b2 191 #[S (nS l.1),S (nS l.2)])(ht2:Bk 99 t)(hl:Bk 99 l)(ht:Tb w):
 CL 221 #[.agg #[S (nS t.1),S (nS t.2)],pT b1,pT b2] w (aH w λv w'=>v=.bool (r5 q t l)):=by
 have H:=(ht2.fi dc).2;have f2:Fi (t.2*2):=by have:=ht2.2;unfold Fi;omega
 have O:Fi (l.2+2):=by have:=hl.2;unfold Fi;omega
 refine aD func221 Z (I ?_);refine bx (λ_ G _=>?_);have h1:=be G.2 h1;have h2:=be G.2 h2;have E:=G.2;refine I ?_;rcases qa4 q with cm|cm;by_cases cr:(aQ ((t.2:Nat):Int) ((2:Nat):Int))<=0;refine bQ 13 ?_;refine sf ?_;refine aX (V:=.int .i64 (aQ ((t.2:Nat):Int) ((2:Nat):Int))) (λ_ _ _ _=>?_) ?_;refine I ?_;refine clb xF (hc:=M4 Z xc H (ia (k:=1) dc dc)) (hk:=?_);rintro _ _ Ab rfl;have A2:=Ab.2;refine I ?_;exact fs ⟨A2,rfl⟩;refine sf ?_;refine aX (V:=S (nS (t.2*2))) (λ_ _ Ar _=>?_) ?_;refine I ?_;refine clb iz (hc:=gm Z xc H (ia (k:=1) dc dc) f2 (ht.ext (xt E Ar))) (hk:=?_);rintro _ _ Af rfl;have A1:=Af.2;refine I ?_;exact fs ⟨A1,rfl⟩;refine sf ?_;intro _ _ Aq _;have E:=xt E Aq.2;with_reducible refine iA Z ?_
 refine I ?_;refine cl mF (ko Z xc O (ht.ext E)) ?_;rintro _ _ W rfl;have E:=xt E W.2;refine I ?_;refine cl xF (M4 Z Z f2 O) ?_;rintro _ _ Ap rfl;have E:=xt E Ap.2;refine I ?_;exact am (t:=4) (v:=.bool (decide ((aQ ((t.2*2:Nat):Int) ((l.2+2:Nat):Int))<=0))) Z E (Z3 cm cr) Z;refine bQ 13 ?_;refine sf ?_;refine aX (V:=.int .i64 (aQ ((t.2:Nat):Int) ((2:Nat):Int))) (λ_ _ _ _=>?_) ?_;refine I ?_;refine clb xF (hc:=M4 Z xc H (ia (k:=1) dc dc)) (hk:=?_);rintro _ _ As rfl;have A0:=As.2;refine I ?_;exact fs ⟨A0,rfl⟩;refine sf ?_;intro _ _ Am _;have E:=xt E Am.2;with_reducible refine iA Z ?_
 refine I ?_;exact am (t:=4) (v:=.bool false) Z E (Z2 cm cr) Z;refine bQ 13 ?_;refine sf ?_;intro _ _ Ao _;have E:=xt E Ao.2;with_reducible refine iA Z ?_
 refine I ?_;exact am (t:=4) (v:=.bool false) Z E ((qb2 Value.bool cm).symm.trans (Z1 cm)) Z
def Qz {P:Program}{f:FuncId}{vs:List Value}{R:Ending->World->Prop}(h:Calls P f (vs.toArray++lb) w R):Calls P f (vs++lb.toList).toArray w R:=by rw[show(vs++lb.toList).toArray=vs.toArray++lb from Array.toList_inj.1 Rg];exact h
def D5 {T:Nat->N2}{m:Nat}{bs:List Nat}(E:aO w0 w)(h1:ar w0 b1 191 #[S (nS (T 0).1),S (nS (T 0).2)])(h2:ar w0 b2 245 #[fv gn lbn])(hbs:∀b∈bs,w0.heap.size<=b/\b<w.heap.size)(hen:Enters prog gn)(hm:m<100000)(hn:∀k<m,∀W,aO w0 W->CL gn (#[vN (T k),.int .i64 ((k+1:Nat):Int)]++lbn) W (aH W λv _=>v=vN (T (k+1)))):
 RR prog 224 [pT b1,pT b2] (λk=>[vN (T k)]) bs (λW=>aO w0 W) (m+1) w:=by
 intro l JT Jx W hW hJ0 hJx0 hM hY G;have E:=xt E hW;have zE:=bz E;have E1:=bt h1;have E9:=bt h2;have h1:=be E h1;have h2:ar W b2 245 #[.func (.func gn) #[] lbn]:=be E h2;have E5:=bz hW;obtain⟨hW0,_⟩:∃n,n=W.heap.size:=⟨_,rfl⟩;refine qH ?_;refine Eu func224 Z (I ?_);have FR:=bt h1;have wr:=bt h2;refine bQ 3 ?_;refine aA (λ_ _ Av _=>by have h1:=be Av h1;have G:=(hJ0 _).ext Av G;refine I ?_;exact aE) ?_;refine bY (λv C0=>∃b:Nat,v=pT b/\W.heap.size<=b/\ar C0 b 191 #[S [],S []]) (hs:=λ_ _ _ k ⟨b,e,l,h⟩=>⟨b,e,l,h.ext k⟩) (λ_ _ Ar _=>?_) ?_;have G:=(hJ0 _).ext Ar G;refine al bS (λ_ As Ay=>?_);have G:=(hJ0 _).ext As.2 G;have ny:=As.2;refine I ?_;exact fs ⟨ny,⟨_,rfl,(by have:=bz Ar;omega),Ay⟩⟩;refine aA (λ_ _ CB _=>by have G:=(hJ0 _).ext CB G;refine I ?_;exact aE) ?_;refine sf ?_;intro _ _ Ap od;have h1:=be Ap.2 h1;have h2:=be Ap.2 h2;have G:=(hJ0 _).ext Ap.2 G;have E:=xt E Ap.2;obtain⟨B2,D1,_,nm⟩:=(od 1 5 Z Z);refine SA nm (λ_ Af Cr=>?_);have h1:=pb Af h1;have h2:=pb Af h2;have G:=(hJ0 _).put Af U G;have E:=bi Af E;refine I ?_;refine b7 [(4,5),(7,16)] (λB0 e W=>∃k:Nat,∃Ao:Nat,(m+1-k=B0)/\(e 4=.int .i64 ((k+1:Nat):Int))/\(e 5=pT Ao)/\(hW0<=Ao)/\(aO w0 W)/\(ar W b1 191 #[S (nS ((T 0).1)),S (nS ((T 0).2))])/\(ar W b2 245 #[.func (.func gn) #[] lbn])/\(ar W Ao 191 #[S (nS ((T k).1)),S (nS ((T k).2))])/\(JT k W)) (m+1-0) ⟨0,B2,rfl,rfl,D1,U,E,h1,h2,Cr,G⟩ ?_
 rintro _ _ CG ⟨k,Ao,rfl,EW,ES,q2,H,h1,h2,O,q1⟩;have E7:=bt O;refine I ?_;refine aa (xR (l:=l) (vs:=[vN (T k)]) Z (av Z Z) (hY k CG q1) ?_);rintro _ _ Aw;obtain⟨q,rfl,Ax,Az⟩:=rJ Aw;show wpListIn _ _ _ _ _ _ _ _;refine I ?_;refine xA (q:=q) Z (λAq=>?_) (λAq=>?_);obtain⟨hJ,hC,hK⟩:=Ax Aq;have h1:=hC.blk (λh=>by have:=hbs _ h;omega) h1;have h2:=hC.blk (λh=>by have:=hbs _ h;omega) h2;have O:=hC.blk (λh=>by have:=hbs _ h;omega) O;have H:=hK H;have zC:=hC.size;have E6:=hM _ _ hJ;refine I ?_;refine aa (mg (vs:=[.agg #[S (nS ((T k).1)),S (nS ((T k).2))],.int .i64 ((k+1:Nat):Int)]) (lb:=lbn.toList) hen Z Z (Qz (hn k U _ H)) ?_);rintro _ _ A2 rfl;have h1:=be A2.2 h1;have h2:=be A2.2 h2;have O:=be A2.2 O;have hJ:=(hJ0 _).ext A2.2 hJ;have H:=xt H A2.2;refine SA O (λCY A1 Am=>?_);have h1:=pb A1 h1;have h2:=pb A1 h2;have hJ:=(hJ0 _).put A1 U hJ;have H:=bi A1 H;have E4:=gJ A1;refine I ?_;refine al bS (λ_ Ab B1=>?_);have h1:=be Ab.2 h1;have h2:=be Ab.2 h2;have Am:=be Ab.2 Am;have hJ:=(hJ0 _).ext Ab.2 hJ;have H:=xt H Ab.2;refine SA B1 (λ_ A0 D2=>?_);have h1:=pb A0 h1
 have h2:=pb A0 h2;have Am:=pb A0 Am;have hJ:=(hJ0 _).put A0 U hJ;have H:=bi A0 H;have E0:=gJ A0;refine I ?_;refine fO (I ?_);exact bF ⟨k+1,CY.heap.size,rfl,rfl,rfl,U,H,h1,h2,D2,hJ⟩;refine I ?_;exact sE Z λv=>⟨⟨v,rfl⟩,_,Az DP⟩
def QA {T:Nat->N2}{m:Nat}(h:A3 T m)(hk:k<=m):Bk 99 (wn T k):=by
 cases k with
 |zero=>exact⟨by simp[wn],by simp[wn]⟩
 |succ p=>exact(h.bd p U).mono dc
set_option maxRecDepth 100000 in
def D6 {T:Nat->N2}{m:Nat}(hR:A3 T m)(hS:Sc sO)(hB1:ar w b1 191 #[S (nS (T 0).1),S (nS (T 0).2)])(hB2:ar w b2 245 #[fv gn lbn])(hen:Enters prog gn)(hn:∀k<m,∀W,aO w W->CL gn (#[vN (T k),.int .i64 ((k+1:Nat):Int)]++lbn) W (aH W λv _=>v=vN (T (k+1))))(ht:Tb w):
 CL 189 #[.agg #[.int .i64 pl,S (nS sO)],.func (.func 224) #[] #[pT b1,pT b2]] w (aH w λv w'=>v=.agg #[S (nS ((wl T m).1)),S (nS ((wl T m).2))]):=by
 refine rI func189 Z (I ?_);refine bx (λCG cT S0=>?_);have H:=cT.2;refine al bS (λKY ed bb=>?_);have⟨S0,H⟩:=bo ed.2 S0 H;refine I ?_;have La:=ac3 KY
 refine I1 o7 7 (λe0 ls e W=>∃A2:Nat,∃A0:Nat,∃A1:Nat,(∀t,Gq [5,6,7,10,11,12,13] t=false->e t=e0 t)/\(aO w W)/\(KY.heap.size<=W.heap.size)/\(ls 0=true->e 10=.agg #[.int .i64 pl,S (nS sO)])/\(ls 1=true->e 11=.agg #[S (nS 0),S (nS 0)])/\(ls 2=true->e 12=.agg #[.int .i64 pl,S (nS sO)])/\(ls 3=true->e 13=.agg #[S (nS 0),S (nS 0)])/\(ls 4=true->e 5=pT A2)/\(ls 5=true->e 6=pT A0)/\(ls 6=true->e 7=pT A1)/\(ls 4=true->KY.heap.size<=A2)/\(ls 5=true->KY.heap.size<=A0)/\(ls 6=true->KY.heap.size<=A1)/\(ls 4=true->ls 5=true->A2≠A0)/\(ls 4=true->ls 6=true->A2≠A1)/\(ls 5=true->ls 6=true->A0≠A1)/\(ar W w.heap.size 189 #[.int .i64 pl,S (nS sO)])/\(ar W CG.heap.size 191 #[S [],S []])/\(ls 4=true->ar W A2 191 #[S [],S []])/\(ls 5=true->ar W A0 191 #[S [],S []])/\(ls 6=true->ar W A1 4 #[.bool false])) ⟨0,0,0,(λ_ _=>rfl),(xt H La),(bz La),(ff Z),(ff Z),(ff Z),(ff Z),(ff Z),(ff Z),(ff Z),(ff Z),(ff Z),(ff Z),(λh _=>ff Z h),(λh _=>ff Z h),(λh _=>ff Z h),(be La S0),(be La bb),(λh=>ff Z h),(λh=>ff Z h),(λh=>ff Z h)⟩ Hx Hx ?_ ?_;refine⟨λf0 b0 c9 dL fl fB _=>?_,?_⟩;obtain⟨A2,A0,A1,ad,H,H3,B0,Az,B1,nm,Ay,Aw,Ax,Av,ny,od,CB,C0,B2,Ar,As,Ao,Aq,Ap⟩:=dL
 obtain⟨f0,rfl⟩:=b6 ad;have h6:c9 1=false:=(bG fl (i:=0) (j:=1) Z fB);have fx:ar b0 w.heap.size 189 #[.int .i64 pl,S (nS sO)]:=Ar;have d4:ar b0 CG.heap.size 191 #[S [],S []]:=As;refine I ?_;exact⟨rfl,_,(ax _ _ _ _ _).symm,A2,A0,A1,(dl Z ad),H,U,(λ_=>rfl),Az,B1,nm,Ay,Aw,Ax,Av,ny,od,CB,C0,B2,(fx),(d4),(λcy=>Ao cy),(λeC=>Aq eC),(λeW=>Ap eW)⟩;refine⟨λa9 X0 ch fP _ _ cz=>?_,?_⟩;obtain⟨A2,A0,A1,WV,H,H3,B0,Az,B1,nm,Ay,Aw,Ax,Av,ny,od,CB,C0,B2,Ar,As,Ao,Aq,Ap⟩:=fP;obtain⟨a9,rfl⟩:=b6 WV;have dq:ch 0=true:=(cz 0 Z);have fS:a9 10=.agg #[.int .i64 pl,S (nS sO)]:=B0 dq;have P2:ar X0 w.heap.size 189 #[.int .i64 pl,S (nS sO)]:=Ar;have Lj:ar X0 CG.heap.size 191 #[S [],S []]:=As;refine cl nZ (r6 hS (ht.ext H)) ?_ (av fS (av Z Z));rintro _ _ L2 rfl;have⟨P2,Lj,H⟩:=ca L2.2 P2 Lj H;refine I ?_;exact⟨rfl,_,(ax _ _ _ _ _).symm,A2,A0,A1,(dl Z WV),H,U,B0,(λ_=>rfl),B1,nm,Ay,Aw,Ax,Av,ny,od,CB,C0,B2,(P2),(Lj),(λct=>(be L2.2 (Ao ct))),(λfT=>(be L2.2 (Aq fT))),(λcc=>(be L2.2 (Ap cc)))⟩;refine⟨λbq a0 _ cv _ _ _=>?_,?_⟩;obtain⟨A2,A0,A1,a5,H,H3,B0,Az,B1,nm,Ay,Aw,Ax,Av,ny,od,CB,C0,B2,Ar,As,Ao,Aq,Ap⟩:=cv;obtain⟨bq,rfl⟩:=b6 a5
 have ej:ar a0 w.heap.size 189 #[.int .i64 pl,S (nS sO)]:=Ar;have eB:ar a0 CG.heap.size 191 #[S [],S []]:=As;refine I ?_;exact⟨rfl,_,(ax _ _ _ _ _).symm,A2,A0,A1,(dl Z a5),H,U,B0,Az,(λ_=>rfl),nm,Ay,Aw,Ax,Av,ny,od,CB,C0,B2,(ej),(eB),(λea=>Ao ea),(λeq=>Aq eq),(λeD=>Ap eD)⟩;refine⟨λbW X2 a2 fC _ _ ac=>?_,?_⟩;obtain⟨A2,A0,A1,Wa,H,H3,B0,Az,B1,nm,Ay,Aw,Ax,Av,ny,od,CB,C0,B2,Ar,As,Ao,Aq,Ap⟩:=fC;obtain⟨bW,rfl⟩:=b6 Wa;have ga:a2 1=true:=(ac 1 Z);have cm:a2 2=true:=(ac 2 Z);have cf:bW 12=.agg #[.int .i64 pl,S (nS sO)]:=B1 cm;have Lk:ar X2 w.heap.size 189 #[.int .i64 pl,S (nS sO)]:=Ar;have Rm:ar X2 CG.heap.size 191 #[S [],S []]:=As;refine cl nZ (r6 hS (ht.ext H)) ?_ (av cf (av Z Z));rintro _ _ L4 rfl;have⟨Lk,Rm,H⟩:=ca L4.2 Lk Rm H;refine I ?_;exact⟨rfl,_,(ax _ _ _ _ _).symm,A2,A0,A1,(dl Z Wa),H,U,B0,Az,B1,(λ_=>rfl),Ay,Aw,Ax,Av,ny,od,CB,C0,B2,(Lk),(Rm),(λcb=>(be L4.2 (Ao cb))),(λf3=>(be L4.2 (Aq f3))),(λeQ=>(be L4.2 (Ap eQ)))⟩;refine⟨λbp W0 _ d5 _ _ _=>?_,?_⟩;obtain⟨A2,A0,A1,W3,H,H3,B0,Az,B1,nm,Ay,Aw,Ax,Av,ny,od,CB,C0,B2,Ar,As,Ao,Aq,Ap⟩:=d5;obtain⟨bp,rfl⟩:=b6 W3
 have Vm:ar W0 w.heap.size 189 #[.int .i64 pl,S (nS sO)]:=Ar;have Ne:ar W0 CG.heap.size 191 #[S [],S []]:=As;refine al bS (λ_ No d0=>?_);have⟨Vm,Ne,H⟩:=ca No.2 Vm Ne H;refine I ?_;exact⟨rfl,_,(ax _ _ _ _ _).symm,W0.heap.size,A0,A1,(dl Z W3),H,U,B0,Az,B1,nm,(λ_=>rfl),Aw,Ax,(λ_=>U),ny,od,(λ_ eX=>(by have:=bt (Aq eX);omega)),(λ_ e3=>(by have:=bt (Ap e3);omega)),B2,(Vm),(Ne),(λ_=>d0),(λarr=>(be No.2 (Aq arr))),(λeb=>(be No.2 (Ap eb)))⟩;refine⟨λet P1 _ d1 _ _ _=>?_,?_⟩;obtain⟨A2,A0,A1,a4,H,H3,B0,Az,B1,nm,Ay,Aw,Ax,Av,ny,od,CB,C0,B2,Ar,As,Ao,Aq,Ap⟩:=d1;obtain⟨et,rfl⟩:=b6 a4;have VW:ar P1 w.heap.size 189 #[.int .i64 pl,S (nS sO)]:=Ar;have P0:ar P1 CG.heap.size 191 #[S [],S []]:=As;refine al bS (λ_ T3 dd=>?_);have⟨VW,P0,H⟩:=ca T3.2 VW P0 H;refine I ?_;exact⟨rfl,_,(ax _ _ _ _ _).symm,A2,P1.heap.size,A1,(dl Z a4),H,U,B0,Az,B1,nm,Ay,(λ_=>rfl),Ax,Av,(λ_=>U),od,(λeS _=>(by have:=bt (Ao eS);omega)),C0,(λ_ fW=>(by have:=bt (Ap fW);omega)),(VW),(P0),(λd3=>(be T3.2 (Ao d3))),(λ_=>dd),(λfG=>(be T3.2 (Ap fG)))⟩;refine⟨λfN N0 _ fa _ _ _=>?_,?_⟩
 obtain⟨A2,A0,A1,bZ,H,H3,B0,Az,B1,nm,Ay,Aw,Ax,Av,ny,od,CB,C0,B2,Ar,As,Ao,Aq,Ap⟩:=fa;obtain⟨fN,rfl⟩:=b6 bZ;have Q0:ar N0 w.heap.size 189 #[.int .i64 pl,S (nS sO)]:=Ar;have W1:ar N0 CG.heap.size 191 #[S [],S []]:=As;refine al YQ (λ_ V2 eP=>?_);have⟨Q0,W1,H⟩:=ca V2.2 Q0 W1 H;refine I ?_;exact⟨rfl,_,(ax _ _ _ _ _).symm,A2,A0,N0.heap.size,(dl Z bZ),H,U,B0,Az,B1,nm,Ay,Aw,(λ_=>rfl),Av,ny,(λ_=>U),CB,(λeg _=>(by have:=bt (Ao eg);omega)),(λco _=>(by have:=bt (Aq co);omega)),(Q0),(W1),(λfQ=>(be V2.2 (Ao fQ))),(λce=>(be V2.2 (Aq ce))),(λ_=>eP)⟩;exact trivial;intro K2 L1 _ Am eG;obtain⟨A2,A0,A1,cq,H,H3,B0,Az,B1,nm,Ay,Aw,Ax,Av,ny,od,CB,C0,B2,Ar,As,Ao,Aq,Ap⟩:=eG;obtain⟨K2,rfl⟩:=b6 cq;have h0:=Av (Am 4 Z);have at8:=ny (Am 5 Z);have at9:=od (Am 6 Z);have h8:=CB (Am 4 Z) (Am 5 Z);have g2:=C0 (Am 4 Z) (Am 6 Z);have fz:=B2 (Am 5 Z) (Am 6 Z);have D2:ar L1 w.heap.size 189 #[.int .i64 pl,S (nS sO)]:=Ar;have D1:ar L1 CG.heap.size 191 #[S [],S []]:=As;have an:ar L1 A2 191 #[S [],S []]:=Ao (Am 4 Z);have g3:=bt an;have L3:ar L1 A0 191 #[S [],S []]:=Aq (Am 5 Z);have g0:=bt L3;have H4:ar L1 A1 4 #[.bool false]:=Ap (Am 6 Z);have gW:=bt H4
 have gr:K2 5=pT A2:=(Ay (Am 4 Z));have h7:K2 11=.agg #[S (nS 0),S (nS 0)]:=(Az (Am 1 Z));refine SA an (λ_ fb wr=>?_);have⟨D2,D1,L3,H4,H,_⟩:=Rf fb D2 D1 L3 H4 H;have cr:K2 6=pT A0:=(Aw (Am 5 Z));have gv:K2 13=.agg #[S (nS 0),S (nS 0)]:=(nm (Am 3 Z));refine SA L3 (λ_ e4 FR=>?_);have⟨D2,D1,wr,H4,H,_⟩:=Rf e4 D2 D1 wr H4 H;have fD:K2 7=pT A1:=(Ax (Am 6 Z));refine SO H4 (λT2 d6 Ix=>?_);have⟨D2,D1,wr,FR,H,_⟩:=Rf d6 D2 D1 wr FR H;refine I ?_;refine aa (aC (vf:=[]) (vc:=[pT A1,pT A0]) Z (av fD (av cr Z)) ?_);refine al Ns (λ_ bv fX=>?_);have⟨D2,D1,wr,FR,Ix,H⟩:=Jc bv.2 D2 D1 wr FR Ix H;refine SO fX (λLi f9 e5=>?_);have⟨D2,D1,wr,FR,Ix,H,_⟩:=Vw f9 D2 D1 wr FR Ix H;refine I ?_;have h5:=bt wr;have gs:=bt FR;have g1:=bt Ix
 refine Mb (M:=m+1) (enc:=λk=>[vN (T k)]) (bs:=[A2,A0,A1]) (Kq:=λW=>aO w W) (gf:=224) (lb:=[pT b1,pT b2]) (ps:=[16]) Z SH (D5 (T:=T) (m:=m) H hB1 hB2 ?hbs hen kd7 hn) ⟨λG E=>xt E G,λG hb E=>bi G E⟩ (λ_=>rfl) (λk W=>k<=m/\Li.heap.size<=W.heap.size/\(aO w W)/\(ar W A2 191 #[S (nS ((p0 T k).1)),S (nS ((p0 T k).2))])/\(ar W A0 191 #[S (nS ((wn T k).1)),S (nS ((wn T k).2))])/\(ar W A1 4 #[.bool (decide (k≠0))])/\(ar W w.heap.size 189 #[.int .i64 pl,S (nS sO)])/\(ar W CG.heap.size 191 #[S [],S []])/\(ar W T2.heap.size 262 #[.func (.func 221) #[] #[pT A1,pT A0]])) (λc k W=>c=.exit 0/\Li.heap.size<=W.heap.size/\(aO w W)/\(ar W A2 191 #[S (nS ((wl T m).1)),S (nS ((wl T m).2))])/\(ar W w.heap.size 189 #[.int .i64 pl,S (nS sO)])/\(ar W CG.heap.size 191 #[S [],S []])/\(ar W T2.heap.size 262 #[.func (.func 221) #[] #[pT A1,pT A0]])) (λk=>⟨λG ⟨q1,Cr,E,Ab,h1,h2,h3,h4,O⟩=>⟨q1,qa8 Cr (bz G),xt E G,be G Ab,be G h1,be G h2,be G h3,be G h4,be G O⟩,λG hb ⟨q1,Cr,E,Ab,h1,h2,h3,h4,O⟩=>⟨q1,(by rw[G.size];exact Cr),bi G E,pb G Ab,pb G h1,pb G h2,pb G h3,pb G h4,pb G O⟩⟩) (λc k=>⟨λG ⟨q1,Cr,E,Ab,h1,h2,h3⟩=>⟨q1,qa8 Cr (bz G),xt E G,be G Ab,be G h1,be G h2,be G h3⟩,λG hb ⟨q1,Cr,E,Ab,h1,h2,h3⟩=>⟨q1,(by rw[G.size];exact Cr),bi G E,pb G Ab,pb G h1,pb G h2,pb G h3⟩⟩) (λk W h=>by have:=h.1;omega) ?Ab (λe k e' W=>∃K3:Nat,e'=upd (ku e [16] [vN (T k)]) 9 (pT K3)/\Li.heap.size<=K3/\ar W K3 191 #[S (nS (T k).1),S (nS (T k).2)]/\(λk W=>k<=m/\Li.heap.size<=W.heap.size/\(aO w W)/\(ar W A2 191 #[S (nS ((p0 T k).1)),S (nS ((p0 T k).2))])/\(ar W A0 191 #[S (nS ((wn T k).1)),S (nS ((wn T k).2))])/\(ar W A1 4 #[.bool (decide (k≠0))])/\(ar W w.heap.size 189 #[.int .i64 pl,S (nS sO)])/\(ar W CG.heap.size 191 #[S [],S []])/\(ar W T2.heap.size 262 #[.func (.func 221) #[] #[pT A1,pT A0]])) k W) ?hA ?asn ?body ?stop
 case hbs=>
  intro b hb;simp only[List.mem_cons,List.not_mem_nil,or_false]at hb;rcases hb with rfl|rfl|rfl <;>constructor <;>omega
 case Ab=>
  exact⟨qa7 _,qa0 _,H,wr,FR,Ix,D2,D1,e5⟩
 case hA=>
  rintro k e' W b r ft hb hl ⟨K3,fR,a6,Af,q1,Cr,E,Ab,h1,h2,h3,h4,O⟩;have G:=dt W b (.loop ft);have H2:∀{c t cs},ar W c t cs->c≠b:=λh e=>by subst e;unfold ar at h;rw[hl]at h;cases h
  exact⟨K3,fR,a6,ab1 G (H2 Af) Af,q1,(by rw[G.size];exact Cr),bi G E,ab1 G (H2 Ab) Ab,ab1 G (H2 h1) h1,ab1 G (H2 h2) h2,ab1 G (H2 h3) h3,ab1 G (H2 h4) h4,ab1 G (H2 O) O⟩
 case asn=>
  rintro l k W K ⟨q1,Cr,E,Ab,h1,h2,h3,h4,O⟩ hK;have EW:=aa3 W;refine I ?_;refine al bS (λ_ E9 e6=>?_);have Ab:=be E9.2 Ab;have h1:=be E9.2 h1;have h2:=be E9.2 h2;have h3:=be E9.2 h3;have h4:=be E9.2 h4;have O:=be E9.2 O;have E:=xt E E9.2;have EW:=xt EW E9.2;refine SA e6 (λ_ E0 fu=>?_);have Ab:=pb E0 Ab;have h1:=pb E0 h1;have h2:=pb E0 h2;have h3:=pb E0 h3;have h4:=pb E0 h4;have O:=pb E0 O;have E:=bi E0 E;have gb:=gJ E0;have EW:=bi E0 EW;refine I ?_;exact hK _ _ EW ⟨_,rfl,U,fu,q1,(by have:=bz EW;omega),E,Ab,h1,h2,h3,h4,O⟩
 case body=>
  rintro l k e' W ⟨K3,rfl,a6,Af,q1,Cr,E,Ab,h1,h2,h3,h4,O⟩;have Kp:=eL.refl [A2,A0,A1] W;have zW:=bz E;have KC:=q1;have g4:=bt Af;have W2:=ae4 Ab;have a3:=ae4 h1;have a8:=ae4 h2;have fT1:Bk 99 (RG (p0 T k) (T k)):=hR.tot (k:=k+1) U;refine I ?_;refine clb Sx (hc:=Ht (fT1.fi dc).1 (fT1.fi dc).2 (ht.ext E)) (hk:=?_);rintro _ _ E6 rfl;have Ab:=be E6.2 Ab;have h1:=be E6.2 h1;have h2:=be E6.2 h2;have h3:=be E6.2 h3;have h4:=be E6.2 h4;have O:=be E6.2 O;have Af:=be E6.2 Af;have E:=xt E E6.2;have Kp:=ad9 Kp E6.2;refine SA Ab (λ_ G0 CY=>?_);have h1:=pb G0 h1;have h2:=pb G0 h2;have h3:=pb G0 h3;have h4:=pb G0 h4;have O:=pb G0 O;have Af:=pb G0 Af;have E:=bi G0 E;have Kp:=ae1 Kp G0 Bx;refine I ?_;refine aa (mg (vs:=[.agg #[S (nS ((T k).1)),S (nS ((T k).2))]]) (lb:=[pT A1,pT A0]) SG Z Z (cB (Qy h2 h1 ((hR.bd k KC).mono dc) (QA hR KC) (ht.ext E)) (hR.last KC)) ?_);rintro _ _ E4 rfl;have CY:=be E4.2 CY;have h1:=be E4.2 h1;have h2:=be E4.2 h2;have h3:=be E4.2 h3
  have h4:=be E4.2 h4;have O:=be E4.2 O;have Af:=be E4.2 Af;have E:=xt E E4.2;have Kp:=ad9 Kp E4.2;refine I ?_;by_cases ap2:k=m;refine I ?_;refine bQ 5 ?_;refine sf ?_;refine aX (V:=S (nS (((T k).2)+4))) (λ_ _ fc _=>?_) ?_;refine clb mF (hc:=ko Z Zt kb6 (ht.ext (xt E fc))) (hk:=?_);rintro _ _ er rfl;have cw:=er.2;refine I ?_;exact fs ⟨cw,rfl⟩;refine sf ?_;intro _ _ E5 _;have CY:=be E5.2 CY;have h1:=be E5.2 h1;have h2:=be E5.2 h2;have h3:=be E5.2 h3;have h4:=be E5.2 h4;have O:=be E5.2 O;have Af:=be E5.2 Af;have E:=xt E E5.2;have Kp:=ad9 Kp E5.2;refine clb mF (hc:=ko Z Z kb6 (ht.ext E)) (hk:=?_);rintro _ _ E1 rfl;have CY:=be E1.2 CY;have h1:=be E1.2 h1;have h2:=be E1.2 h2;have h3:=be E1.2 h3;have h4:=be E1.2 h4;have O:=be E1.2 O;have Af:=be E1.2 Af;have E:=xt E E1.2;have Kp:=ad9 Kp E1.2;refine I ?_;refine SO CY (λ_ GC fy=>?_);have h1:=pb GC h1;have h2:=pb GC h2;have h3:=pb GC h3;have h4:=pb GC h4;have O:=pb GC O;have Af:=pb GC Af;have E:=bi GC E
  have Kp:=ae1 Kp GC Bx;refine I ?_;exact⟨Kp.others DQ,rfl,(by have:=Kp.size;omega),E,(by subst ap2;exact fy),h3,h4,O⟩;refine I ?_;refine SA h1 (λ_ ES S9=>?_);have CY:=pb ES CY;have h2:=pb ES h2;have h3:=pb ES h3;have h4:=pb ES h4;have O:=pb ES O;have Af:=pb ES Af;have E:=bi ES E;have Kp:=ae1 Kp ES Bx;refine SO h2 (λ_ E7 dC=>?_);have CY:=pb E7 CY;have S9:=pb E7 S9;have h3:=pb E7 h3;have h4:=pb E7 h4;have O:=pb E7 O;have Af:=pb E7 Af;have E:=bi E7 E;have Kp:=ae1 Kp E7 Bx;refine I ?_;exact⟨Kp.others DQ,jh.of Kp,λ_=>E,U,(by have:=Kp.size;omega),E,CY,S9,(by rw[decide_eq_true U];exact dC),h3,h4,O⟩
 case stop=>
  rintro D c k W hD ⟨rfl,Cr,E,Ab,h1,h2,h3⟩ hK;have zW:=bz E;refine I ?_;refine SA h2 (λ_ KM cx=>?_);have Ab:=pb KM Ab;have h1:=pb KM h1;have h3:=pb KM h3;have hK:=ad3 KM (hK.ne h2) hK;have E:=bi KM E;refine I ?_;refine jM (v:=.agg #[S (nS ((wl T m).1)),S (nS ((wl T m).2))]) hK (ci  rfl ?_) ((dO _).low E U) Z;refine ai (t:=4) (cs:=[S (nS ((wl T m).1)),S (nS ((wl T m).2))]) (b:=CG.heap.size) (o:=0) jr Z fK ?_ ?_;exact Z;exact aa0 (cx.dfr hK) (i:=0) Z
def cP {f:FuncId}{a:Array Value}{p q:N2}(h:CL f a w (aH w λv _=>v=.agg #[S (nS p.1),S (nS p.2)]))(e:p=q):CL f a w (aH w λv _=>v=.agg #[S (nS q.1),S (nS q.2)]):=e▸h
def QB {a b:Nat}(h:b<a):0<aQ (a:Int) (b:Int):=by rw[eY U];decide
def QC {a b:Nat}(h:¬b<a):¬0<aQ (a:Int) (b:Int):=by have:=(dh (x:=(a:Int)) (y:=(b:Int))).2 U;omega
def QD {t x:N2}(hS:Sc sO)(hb1:ar w b1 189 #[.int .i64 pl,S (nS sO)])(hb2:ar w b2 191 #[S (nS x.1),S (nS x.2)])(htb:Bk 95 t)(hx:Bk 95 x)(h0:0<n)(hn:n<100000)(ht:Tb w):
 CL 225 #[.agg #[S (nS t.1),S (nS t.2)],.int .i64 n,pT b1,pT b2] w (aH w λv w'=>v=.agg #[S (nS ((Lh sO x n t).1)),S (nS ((Lh sO x n t).2))]):=by
 have Ap:=bt hb1;have Aq:=bt hb2;refine aD func225 Z (I ?_);refine bx (λnm W G=>?_);have⟨hb1,hb2⟩:=dN W.2 hb1 hb2;have E:=W.2;refine al bS (λ_ A2 H=>?_);have⟨hb1,hb2,G,E⟩:=fw A2.2 hb1 hb2 G E;refine I ?_;refine bQ 6 ?_;refine sf ?_;refine aX (V:=.agg #[S (nS ((nD sO t x).1)),S (nS ((nD sO t x).2))]) (λ_ _ Ab _=>?_) ?_;refine cl og (gR hS htb hx (ht.ext (xt E Ab))) ?_;rintro _ _ Ao rfl;have Am:=Ao.2;refine I ?_;exact fs ⟨Am,rfl⟩;refine sf ?_;intro _ _ Af _;have⟨hb1,hb2,G,H,E⟩:=kC Af.2 hb1 hb2 G H E;refine clb oe (hc:=lR (Le hS.pos htb hx) dc U U (ht.ext E)) (hk:=?_);rintro _ _ A1 rfl;have⟨hb1,hb2,G,H,E⟩:=kC A1.2 hb1 hb2 G H E;refine SA H (λ_ O A0=>?_);have⟨hb1,hb2,G⟩:=qm O hb1 hb2 G;have E:=bi O E;refine I ?_;refine aW (v:=.agg #[S (nS ((lO (nD sO t x) 1 n).1)),S (nS ((lO (nD sO t x) 1 n).2))]) (ci  rfl ?_) E Z;refine ai (t:=6) (cs:=[S (nS ((lO (nD sO t x) 1 n).1)),S (nS ((lO (nD sO t x) 1 n).2))]) (b:=nm.heap.size) (o:=0) jr Z fK ?_ ?_;exact Z;exact aa0 A0 (i:=0) Z
def M5 {b3 fr:Nat}{t x:N2}(hS:Sc sO)(hb1:ar w b1 189 #[.int .i64 pl,S (nS sO)])(hb2:ar w b2 191 #[S (nS x.1),S (nS x.2)])(hb3:ar w b3 3 #[.int .i64 fr])(htb:Bk 95 t)(hx:Bk 95 x)(h0:0<n)(hn:n<100000)(hf:fr<100000)(ht:Tb w):
 CL 192 #[.agg #[S (nS t.1),S (nS t.2)],.int .i64 n,pT b1,pT b2,pT b3] w (aH w λv w'=>v=.agg #[S (nS ((UI sO x fr n t).1)),S (nS ((UI sO x fr n t).2))]):=by
 have Ap:=bt hb1;have Aq:=bt hb2;have Ar:=bt hb3;refine aD func192 Z (I ?_);refine bx (λAo O G=>?_);have⟨hb1,hb2,hb3⟩:=vZ O.2 hb1 hb2 hb3;have E:=O.2;refine al bS (λ_ A0 H=>?_);have⟨hb1,hb2,hb3,G,E⟩:=kC A0.2 hb1 hb2 hb3 G E;refine I ?_;refine bQ 9 ?_;refine sf ?_;refine aX (V:=.agg #[S (nS ((nD sO t x).1)),S (nS ((nD sO t x).2))]) (λ_ _ Af _=>?_) ?_;refine cl og (gR hS htb hx (ht.ext (xt E Af))) ?_;rintro _ _ A2 rfl;have A1:=A2.2;refine I ?_;exact fs ⟨A1,rfl⟩;refine sf ?_;refine aA (λ_ _ _ _=>by refine aa (rm (a:=2) (b:=(n:Int)) (c:=((2*n:Nat):Int)) Z Z L7 U ?_);refine I ?_;exact aE) ?_;refine aA (λ_ _ _ _=>by refine aa (cG (a:=(fr:Int)) (b:=((2*n:Nat):Int)) (c:=((fr+2*n:Nat):Int)) Z Z L7 U ?_);refine I ?_;exact aE) ?_;refine sf ?_;intro _ _ Am _;have⟨hb1,hb2,hb3,G,H,E⟩:=Jc Am.2 hb1 hb2 hb3 G H E;refine clb oe (hc:=lR (Le hS.pos htb hx) dc U U (ht.ext E)) (hk:=?_);rintro _ _ Ab rfl;have⟨hb1,hb2,hb3,G,H,E⟩:=Jc Ab.2 hb1 hb2 hb3 G H E;refine SA H (λ_ W ny=>?_);have⟨hb1,hb2,hb3,G⟩:=pf4 W hb1 hb2 hb3 G;have E:=bi W E;refine I ?_;refine aW (v:=.agg #[S (nS ((lO (nD sO t x) 2 (fr+2*n)).1)),S (nS ((lO (nD sO t x) 2 (fr+2*n)).2))]) (ci  rfl ?_) E Z
 refine ai (t:=7) (cs:=[S (nS ((lO (nD sO t x) 2 (fr+2*n)).1)),S (nS ((lO (nD sO t x) 2 (fr+2*n)).2))]) (b:=Ao.heap.size) (o:=0) jr Z fK ?_ ?_;exact Z;exact aa0 ny (i:=0) Z
def Gh {S:Nat}:∀{f h:Nat} {x:N2} {p:N2×Nat},jX S f x h=some p->p.2<=h+f
 |0,_,_,_,e=>by simp[jX]at e
 | f+1,h,x,p,e=>by
   unfold jX at e
   split at e
   · have:=Gh e;omega
   · cases e;simp
set_option maxRecDepth 100000 in
def M6 {x r:N2}(hS:Sc sO)(he:yJ sO x=some r)(ht:Tb w):
 CL 194 #[.agg #[.int .i64 pl,S (nS sO)],.agg #[S (nS x.1),S (nS x.2)]] w (aH w λv w'=>v=.agg #[S (nS r.1),S (nS r.2)]):=by
 obtain⟨hx,p,s,Ax,hs,hq⟩:=FJ he;have P1:=Gh Ax;refine aD func194 Z (I ?_);refine bx (λAb KY E=>?_);have A2:=KY.2;refine bx (λAq K2 Ao=>?_);have⟨E,A2⟩:=bo K2.2 E A2;refine al bS (λIx E9 H=>?_);have⟨E,Ao,A2⟩:=ca E9.2 E Ao A2;refine I ?_;refine b7 [(5,5),(7,18)] (λAp e W=>∃f:Nat,∃y:N2,∃h:Nat,(f=Ap)/\(e 5=.int .i64 h)/\(jX sO f y h=some p)/\(Bk 95 y)/\(h+f<=200)/\(Ix.heap.size<=W.heap.size)/\(aO w W)/\(ar W w.heap.size 189 #[.int .i64 pl,S (nS sO)])/\(ar W Aq.heap.size 191 #[S [],S []])/\(ar W Ab.heap.size 191 #[S (nS y.1),S (nS y.2)])) (200) ⟨200,x,0,rfl,rfl,Ax,hx,U,(qa0 _),A2,E,H,Ao⟩ ?_;rintro _ _ _ ⟨f,y,h,rfl,Q0,Ay,hy,hb,S0,O,E,H,G⟩;by_cases hl:sO<y.2*2;obtain⟨g,rfl,B0⟩:=UF Ay hl;refine I ?_;refine bQ 5 ?_;refine sf ?_;refine aX (V:=S (nS (y.2*2))) (λ_ _ nm _=>?_) ?_;refine clb iz (hc:=gm Z xc (hy.fi dc).2 (ia (k:=1) dc dc) kc4 (ht.ext (xt O nm))) (hk:=?_);rintro _ _ Lk rfl;have Cr:=Lk.2;refine I ?_;exact fs ⟨Cr,rfl⟩;refine sf ?_;intro _ _ K3 _;have⟨E,H,G,O⟩:=fw K3.2 E H G O;refine clb xF (hc:=M4 Z Z kc4 hS.fi) (hk:=?_);rintro _ _ L3 rfl;have⟨E,H,G,O⟩:=fw L3.2 E H G O;have Rm:=QB hl;refine I ?_
 refine clb oe (hc:=lR (hy.mono dc) dc dc dc (ht.ext O)) (hk:=?_);rintro _ _ G0 rfl;have⟨E,H,G,O⟩:=fw G0.2 E H G O;refine SA G (λ_ ny Az=>?_);have⟨E,H,O,_⟩:=Re ny E H O;refine I ?_;refine aa (cG (a:=(h:Int)) (b:=1) (c:=((h+1:Nat):Int)) Z Z L7 U ?_);refine I ?_;exact bF ⟨g,lO y 1 2,h+1,rfl,rfl,B0,(Pv hy),U,U,O,E,H,Az⟩;have B2:=UG Ay hl;subst B2;have hm:=u4 hs;obtain⟨m,hR,hr⟩:=hm;refine I ?_;refine bQ 5 ?_;refine sf ?_;refine aX (V:=S (nS (y.2*2))) (λ_ _ od _=>?_) ?_;refine clb iz (hc:=gm Z xc (hy.fi dc).2 (ia (k:=1) dc dc) kc4 (ht.ext (xt O od))) (hk:=?_);rintro _ _ La rfl;have CY:=La.2;refine I ?_;exact fs ⟨CY,rfl⟩;refine sf ?_;intro _ _ KM _;have⟨E,H,G,O⟩:=fw KM.2 E H G O;refine clb xF (hc:=M4 Z Z kc4 hS.fi) (hk:=?_);rintro _ L1 H4 rfl;have⟨E,H,G,O⟩:=fw H4.2 E H G O;have P2:=QC hl;refine I ?_;refine bQ 7 ?_;refine sf ?_;refine aX (V:=.agg #[S (nS ((1*sO,1*sO).1)),S (nS ((1*sO,1*sO).2))]) (λ_ _ E5 _=>?_) ?_;refine clb nZ (hc:=iN (n:=1) hS dc ka9 (ht.ext (xt O E5))) (hk:=?_);rintro _ _ E1 rfl;have H3:=E1.2;refine I ?_;exact fs ⟨H3,rfl⟩
 refine aA (λ_ _ _ _=>by refine aa (aC (vf:=[]) (vc:=[pT w.heap.size,pT Ab.heap.size]) Z Z ?_);refine I ?_;exact aE) ?_;refine bY (λv Af=>D3 (1*sO,1*sO) (.func (.func 225) #[] #[pT w.heap.size,pT Ab.heap.size]) Af v) (hs:=λ_ _ _ k h=>h.ext k) (λ_ _ _ _=>?_) ?_;refine cl Cg vK ?_;rintro _ _ wr GC;have D1:=wr.2;refine I ?_;exact fs ⟨D1,GC⟩;refine aX (V:=.agg #[S (nS s.1),S (nS s.2)]) (λ_ _ Am EW=>?_) ?_;obtain⟨_,_,KC,Li,B1⟩:=(EW 4 23 Z Z);have⟨E,G⟩:=dN Am E G;refine clb Ce (hc:=cP (D6 hR hS Li B1 Sw (λk hk W e=>QD hS (E.ext e) (G.ext e) (hR.bd k U) hy U kd7 ((ht.ext (xt O Am)).ext e)) (ht.ext (xt O Am))) hr) (hk:=?_) (hv:=av Z (av KC Z));rintro _ _ CG rfl;have No:=CG.2;refine I ?_;exact fs ⟨No,rfl⟩;refine bY (λv Af=>∃b:Nat,v=pT b/\L1.heap.size<=b/\ar Af b 191 #[S [],S []]) (hs:=λ_ _ _ k ⟨b,e,l,h⟩=>⟨b,e,l,h.ext k⟩) (λ_ _ L4 _=>?_) ?_;refine al bS (λ_ Ne C0=>?_);have D2:=Ne.2;refine I ?_;exact fs ⟨D2,⟨_,rfl,(by have:=bz L4;omega),C0⟩⟩;refine sf ?_;intro _ _ FR CB;have⟨E,H,G,O⟩:=fw FR.2 E H G O;obtain⟨E0,_,_,H2⟩:=(CB 6 6 Z Z);refine SA H2 (λN0 Aw ES=>?_);have⟨E,H,G⟩:=qm Aw E H G;have O:=bi Aw O;refine I ?_
 refine b7 [(26,32)] (λAp e W=>∃i:Nat,∃a:N2,(h-i=Ap)/\(e 26=.int .i64 i)/\(i<=h)/\(H8 sO (h-i) a=some r)/\(N0.heap.size<=W.heap.size)/\(aO w W)/\(ar W w.heap.size 189 #[.int .i64 pl,S (nS sO)])/\(ar W Aq.heap.size 191 #[S [],S []])/\(ar W Ab.heap.size 191 #[S (nS y.1),S (nS y.2)])/\(ar W E0 191 #[S (nS a.1),S (nS a.2)])) (h-0) ⟨0,s,rfl,rfl,(qa7 _),hq,(qa0 _),O,E,H,G,ES⟩ ?_;rintro _ _ _ ⟨i,a,rfl,E7,hi,Ar,P0,A0,E,H,G,A1⟩;by_cases hl2:i<h;obtain⟨Av,E6⟩:=Zu Ar hl2;refine I ?_;refine cl og (gR hS Av Av (ht.ext A0)) ?_;rintro _ _ E4 rfl;have⟨E,H,G,A1,A0⟩:=kC E4.2 E H G A1 A0;refine SA A1 (λ_ Kp Lj=>?_);have⟨E,H,G,A0,_⟩:=Nj Kp E H G A0;refine I ?_;refine aa (cG (a:=(i:Int)) (b:=1) (c:=((i+1:Nat):Int)) E7 Z L7 U ?_);refine I ?_;exact bF ⟨i+1,nD sO a a,rfl,rfl,U,E6,U,A0,E,H,G,Lj⟩;obtain⟨rfl,_⟩:=Zv Ar hl2;refine I ?_;refine SA H (λ_ As L2=>?_);have⟨E,G,A1⟩:=qm As E G A1;have A0:=bi As A0;refine I ?_;refine aW (v:=.agg #[S (nS a.1),S (nS a.2)]) (ci  rfl ?_) A0 Z;refine ai (t:=4) (cs:=[S (nS a.1),S (nS a.2)]) (b:=Aq.heap.size) (o:=0) jr Z fK ?_ ?_;exact Z;exact aa0 L2 (i:=0) Z
def Vp:RQ.length=81:=by decide +kernel
def xx {a r:N2}(hS:Sc sO)(hr:m6 sO a=some r)(ht:Tb w):
 CL 195 #[.agg #[.int .i64 pl,S (nS sO)],.agg #[S (nS a.1),S (nS a.2)]] w (aH w λv w'=>v=.agg #[S (nS r.1),S (nS r.2)]):=by
 obtain⟨W,Aq,p2,x,y,Ar,Ay,hb,As⟩:=LU hr;have A0:=W.fi dc;refine aD func195 Z (I ?_);refine bx (λ_ Ab G=>?_);have E:=Ab.2;refine bx (λAo Af H=>?_);have⟨G,E⟩:=bo Af.2 G E;refine al bS (λ_ Ap O=>?_);have⟨G,H,E⟩:=ca Ap.2 G H E;refine I ?_;refine clb iz (hc:=gm Z Z A0.1 hS.fi (kaD W.1 hS.lt dc) (ht.ext E)) (hk:=?_);rintro _ _ Av rfl;have⟨G,H,O,E⟩:=fw Av.2 G H O E;refine clb IL (hc:=FP (kaD W.1 hS.lt dc) Aq Ar (ht.ext E)) (hk:=?_);rintro _ _ Am rfl;have⟨G,H,O,E⟩:=fw Am.2 G H O E;refine I ?_;refine clb iz (hc:=gm Z Z A0.2 hS.fi (kaD W.2 hS.lt dc) (ht.ext E)) (hk:=?_);rintro _ _ Aw rfl;have⟨G,H,O,E⟩:=fw Aw.2 G H O E;refine clb IL (hc:=FP (kaD W.2 hS.lt dc) p2 Ay (ht.ext E)) (hk:=?_);rintro _ _ A2 rfl;have⟨G,H,O,E⟩:=fw A2.2 G H O E;refine I ?_;refine clb mF (hc:=ko Z Ld (by have:=hb.2;unfold Fi;simp only at this;omega) (ht.ext E)) (hk:=?_);rintro _ _ Ax rfl;have⟨G,H,O,E⟩:=fw Ax.2 G H O E;refine I ?_;refine SA O (λ_ A1 nm=>?_);have⟨G,H⟩:=js A1 G H;have E:=bi A1 E;refine I ?_;refine aW (v:=.agg #[S (nS x),S (nS (y+1))]) (ci  rfl ?_) E (by rw[As]);refine ai (t:=4) (cs:=[S (nS x),S (nS (y+1))]) (b:=Ao.heap.size) (o:=0) jr Z fK ?_ ?_;exact Z;exact aa0 nm (i:=0) Z
def Yt (hp:pl<81)(ht:Tb w):
 CL 196 #[.agg #[.int .i64 pl,S (nS sO)]] w (aH w λv w'=>v=.agg #[S (nS ((wc pl,wc pl+1).1)),S (nS ((wc pl,wc pl+1).2))]):=by
 refine aD func196 Z (I ?_);refine bx (λA2 Ab G=>?_);have E:=Ab.2;refine al bS (λ_ A0 H=>?_);have⟨G,E⟩:=bo A0.2 G E;refine I ?_;refine aa (cG (a:=(pl:Int)) (b:=1) (c:=((pl+1:Nat):Int)) Z Z L7 U ?_);refine aa (mx (l:=RQ) (i:=0) (j:=pl+1) U9 Z (.inl ⟨rfl,rfl⟩) (.inr ⟨_,qb2 some Z⟩) U (by rw[Vp];omega) ?_);rw[show(RQ.take (pl+1)).drop 0=RQ.take (pl+1)from rfl];refine I ?_;refine clb mF (hc:=ko (LV hp) Ld (by have:=XV (k:=pl);unfold Fi;omega) (ht.ext E)) (hk:=?_);rintro _ _ W rfl;have⟨G,H,E⟩:=ca W.2 G H E;refine I ?_;refine SA H (λ_ O A1=>?_);have G:=pb O G;have E:=bi O E;refine I ?_;refine aW (v:=.agg #[S (RQ.take (pl+1)),S (nS (wc pl+1))]) (ci  rfl ?_) E (by exact qb2 (λl=>Value.agg #[S l,S (nS (wc pl+1))]) (LV hp));refine ai (t:=2) (cs:=[S (RQ.take (pl+1)),S (nS (wc pl+1))]) (b:=A2.heap.size) (o:=0) jr Z fK ?_ ?_;exact Z;exact aa0 A1 (i:=0) Z
def q01:(([48],[49]):R)=qR 0 1:=by decide +kernel
section
variable {l m l' m':List UInt8}
def vL (e1:(l,m)=qR a b)(e2:(l',m')=qR c d)(h1:Q9 a b)(h2:Q9 c d)(ht:Tb w):CL 26 #[.agg #[S l,S m],.agg #[S l',S m']] w (aH w λv _=>v=.int .i64 (aQ (a*d) (c*b))):=by
 rw[show l=(qR a b).1 from congrArg Prod.fst e1,show m=(qR a b).2 from congrArg Prod.snd e1,show l'=(qR c d).1 from congrArg Prod.fst e2,show m'=(qR c d).2 from congrArg Prod.snd e2]
 exact Br h1.2.1 h2.2.1 h1.fz.1 h1.fz.2 h2.fz.1 h2.fz.2 ht
def Yu (e1:(l,m)=qR a b)(e2:(l',m')=qR c d)(h1:Q9 a b)(h2:Q9 c d)(ht:Tb w):CL 117 #[.agg #[S l,S m],.agg #[S l',S m']] w (aH w λv _=>v=Qv (a*d-c*b) (b*d)):=by
 rw[show l=(qR a b).1 from congrArg Prod.fst e1,show m=(qR a b).2 from congrArg Prod.snd e1,show l'=(qR c d).1 from congrArg Prod.fst e2,show m'=(qR c d).2 from congrArg Prod.snd e2]
 exact PW h1 h2 ht
end
def Z4:Q9 0 1:=⟨by decide,by decide,by decide⟩
def Gj {a b:Nat}(hb:0<b):eh (a:Int) (b:Int)=((a/Nat.gcd a b:Nat):Int)/\dn (a:Int) (b:Int)=((b/Nat.gcd a b:Nat):Int):=by
 unfold eh dn
 rw[if_neg U,if_neg U]
 exact⟨rfl,rfl⟩
def BR {a b:Nat}(hS:Sc sO)(ha:a<10^90)(hb:b<10^90)(h0:0<b)(ht:Tb w):
 CL 188 #[.agg #[.int .i64 pl,S (nS sO)],.agg #[S (qR (a:Int) (b:Int)).1,S (qR (a:Int) (b:Int)).2]] w (aH w λv _=>v=.agg #[S (nS (qn sO a b).1),S (nS (qn sO a b).2)]):=by
 have G:0<Nat.gcd a b:=Nat.gcd_pos_of_pos_right _ h0
 have e1:a/Nat.gcd a b*Nat.gcd a b=a:=Nat.div_mul_cancel (Nat.gcd_dvd_left _ _)
 have e2:b/Nat.gcd a b*Nat.gcd a b=b:=Nat.div_mul_cancel (Nat.gcd_dvd_right _ _)
 have h1:=PY (S:=sO) (n:=a/Nat.gcd a b) (d:=b/Nat.gcd a b) G
 rw[e1,e2]at h1
 have E:a/Nat.gcd a b<10^90:=Nat.lt_of_le_of_lt (Nat.div_le_self _ _) ha
 have O:b/Nat.gcd a b<10^90:=Nat.lt_of_le_of_lt (Nat.div_le_self _ _) hb
 have H:0<b/Nat.gcd a b:=Nat.div_pos (Nat.le_of_dvd h0 (Nat.gcd_dvd_right _ _)) G
 rw[h1]
 unfold qR
 rw[(Gj h0).1,(Gj h0).2]
 exact PK hS (ia E dc) (ia O dc) H (kaD E hS.lt dc) ht
def Yv (x:R×R):Prop:=∃a b c d,x.1=qR a b/\x.2=qR c d/\Q9 a b/\Q9 c d/\a*d<=c*b
def j2 (l:List (R×R)):List Value:=l.flatMap λx=>[S x.1.1,S x.1.2,S x.2.1,S x.2.2]
def qx (l:List (R×R))(i:Nat):R×R:=l.getD i (([],[]),([],[]))
def vO:∀{l:List (R×R)} {i:Nat},i<l.length->(j2 l)[i*4]?=some (S (qx l i).1.1)/\(j2 l)[i*4+1]?=some (S (qx l i).1.2)/\(j2 l)[i*4+2]?=some (S (qx l i).2.1)/\(j2 l)[i*4+3]?=some (S (qx l i).2.2)
 |a::t,0,_=>by simp[j2,qx]
 | a::t,i+1,h=>by
   have ih:=vO (l:=t) (i:=i) kb5
   rw[show(i+1)*4=i*4+4 by omega,show i*4+4+1=i*4+1+4 by omega,show i*4+4+2=i*4+2+4 by omega,show i*4+4+3=i*4+3+4 by omega]
   simpa[j2,qx]using ih
def QE {l:List (R×R)}(h:Rw w lo A (j2 l))(hi:i<l.length):
 ∃b o,A=some ⟨b,o,none⟩/\∀j u,[S (qx l i).1.1,S (qx l i).1.2,S (qx l i).2.1,S (qx l i).2.2][j]?=some u->w.cell? ⟨b,o+i*4+j,none⟩=some u:=by
 obtain⟨h1,h2,h3,h4⟩:=vO hi
 obtain⟨b,o,hA,O⟩:=h.cells _ _ h1
 obtain⟨_,_,hA2,E⟩:=h.cells _ _ h2
 obtain⟨_,_,hA3,G⟩:=h.cells _ _ h3
 obtain⟨_,_,hA4,H⟩:=h.cells _ _ h4
 rw[hA]at hA2 hA3 hA4;cases hA2;cases hA3;cases hA4
 refine⟨b,o,hA,λj u hu=>?_⟩
 match j,hu with
 |0,hu=>simp at hu;subst hu;simpa using O
 |1,hu=>simp at hu;subst hu;simpa[Nat.add_assoc]using E
 |2,hu=>simp at hu;subst hu;simpa[Nat.add_assoc]using G
 |3,hu=>simp at hu;subst hu;simpa[Nat.add_assoc]using H
def Gk {l:List (R×R)}(h:i<l.length):qx l i∈l:=by unfold qx;simp[h]
def Yw {l m:List UInt8}(e:(l,m)=qR a b)(h:Q9 a b):bN (l,m)=true:=e▸h.ok
def m9 :
 CL 249 #[.bool true] w (aH w λv w'=>v=.tuple #[]):=by
 refine aD func249 Z (I ?_);exact Ij (nG Z) (aa3 _) Z
def r7 {x:R×R}(hx:Yv x)(ht:Tb w):
 CL 252 #[.agg #[S x.1.1,S x.1.2,S x.2.1,S x.2.2]] w (aH w λv w'=>v=.bool true):=by
 obtain⟨a,b,c,d,e1,e2,q1,q2,A0⟩:=hx;refine aD func252 Z (I ?_);refine bx (λ_ A1 G=>?_);have E:=A1.2;refine I ?_;refine cl tz (cB (eE _ _ _ (ht.ext E)) (Yw e1 q1)) ?_;rintro _ _ H rfl;have⟨G,E⟩:=bo H.2 G E;refine I ?_;refine cl tz (cB (eE _ _ _ (ht.ext E)) (Yw e2 q2)) ?_;rintro _ _ W rfl;have⟨G,E⟩:=bo W.2 G E;refine I ?_;refine cl o6 (vL e1 e2 q1 q2 (ht.ext E)) ?_;rintro _ _ O rfl;have E:=xt E O.2;refine I ?_;exact am (t:=2) (v:=.bool (decide ((aQ (a*d) (c*b))<=0))) Z E (qb2 Value.bool (qa1 (dh.2 A0))) Z
def D7 {x:R×R}(hx:Yv x)(ht:Tb w):
 CL 251 #[.agg #[S x.1.1,S x.1.2,S x.2.1,S x.2.2]] w (aH w λv w'=>v=.bool false):=by
 refine aD func251 Z (I ?_);refine bx (λ_ H O=>?_);have E:=H.2;refine I ?_;refine aa (aN (cs:=[S x.1.1,S x.1.2,S x.2.1,S x.2.2]) (b:=w.heap.size) (o:=0) fL Z ef Z (aa0 O (i:=0) Z) ?_);refine cl IG (r7 hx (ht.ext E)) ?_;rintro _ _ G rfl;have E:=xt E G.2;refine I ?_;exact am (t:=2) (v:=.bool false) Z E Z Z
def D8 {x:R×R}(hx:Yv x)(ht:Tb w):
 CL 254 #[.agg #[S x.1.1,S x.1.2,S x.2.1,S x.2.2]] w (aH w λv w'=>v=.bool false):=by
 refine aD func254 Z (I ?_);refine bx (λ_ H O=>?_);have E:=H.2;refine I ?_;refine aa (aN (cs:=[S x.1.1,S x.1.2,S x.2.1,S x.2.2]) (b:=w.heap.size) (o:=0) fL Z ef Z (aa0 O (i:=0) Z) ?_);refine cl IG (r7 hx (ht.ext E)) ?_;rintro _ _ G rfl;have E:=xt E G.2;refine I ?_;exact am (t:=2) (v:=.bool false) Z E Z Z
def M7 {l:List (R×R)}(hr:Rw w lo A (j2 l))(hn:l.length=n)(hb:n<=1000)(hg:Enters prog g)(hf:∀i<n,∀W,aO w W->CL g #[.agg #[S (qx l i).1.1,S (qx l i).1.2,S (qx l i).2.1,S (qx l i).2.2]] W (aH W λv _=>v=.bool false)):
 CL 269 #[.slice A n cp,.func (.func g) #[] #[]] w (aH w λv w'=>v=.int .i64 (-1)):=by
 refine aD func269 Z (I ?_);have G:=aa3 w;refine b7 [(4,5),(8,18)] (λA1 e W=>∃i:Nat,(n-i=A1)/\(e 8=.int .i64 i)/\(i<=n)/\(aO w W)) (n-0) ⟨0,rfl,rfl,(qa7 _),G⟩ ?_;rintro _ _ _ ⟨i,rfl,O,hi,E⟩;by_cases hl:i<n;obtain⟨bk,o,hA,H⟩:=QE (hr.ext E) (i:=i) U;refine I ?_;refine aa (aB (i:=i) (oo:=o+i*4) VQ ef Z hA Z U Z ?_);refine aa (aN (cs:=[S (qx l i).1.1,S (qx l i).1.2,S (qx l i).2.1,S (qx l i).2.2]) (b:=bk) (o:=o+i*4) fL Z ef Z H ?_);refine aa (mg (vs:=[.agg #[S (qx l i).1.1,S (qx l i).1.2,S (qx l i).2.1,S (qx l i).2.2]]) (lb:=[]) hg Z Z (hf i U _ E) ?_);rintro _ _ A0 rfl;have E:=xt E A0.2;refine I ?_;refine aa (cG (a:=(i:Int)) (b:=1) (c:=((i+1:Nat):Int)) O Z L7 U ?_);refine I ?_;exact bF ⟨i+1,rfl,rfl,U,E⟩;refine I ?_;exact am (t:=4) (v:=.int .i64 (-1)) Z E Z Z
def r9 {l:List (R×R)}(hr:Rw w lo A (j2 l))(hn:l.length=n)(hb:n<=1000)(hg:Enters prog g)(hf:∀i<n,∀W,aO w W->CL g #[.agg #[S (qx l i).1.1,S (qx l i).1.2,S (qx l i).2.1,S (qx l i).2.2]] W (aH W λv _=>v=.bool false)):
 CL 250 #[.slice A n cp,.func (.func g) #[] #[]] w (aH w λv w'=>v=.bool false):=by
 refine aD func250 Z (I ?_);refine cl SK (M7 (hr.ext (aa3 _)) hn hb hg (λi hi W e=>hf i hi W (xt (aa3 _) e))) ?_;rintro _ _ G rfl;have E:=G.2;refine I ?_;exact am (t:=4) (v:=.bool false) Z E Z Z
def BU {lb:List Value}{l:List (R×R)}{x:R×R}(hg:Enters prog gf)(hr:Rw w lo A (j2 l))(hn:l.length=n)(hb:n<=1000)(hv:∀x∈l,Yv x)(hc:∀W,aO w W->CL gf lb.toArray W (aH W λv _=>v=.agg #[S x.1.1,S x.1.2,S x.2.1,S x.2.2]))(ht:Tb w):
 CL 229 #[.func (.func gf) #[] lb.toArray,.slice A n cp] w (aH w λv w'=>v=.tuple #[.agg #[S x.1.1,S x.1.2,S x.2.1,S x.2.2],.int .i64 0]):=by
 refine l9 func229 Z (I ?_);refine al Vc (λO Af H=>?_);have E:=Af.2;refine al l5 (λ_ Aq G=>?_);have⟨H,E⟩:=bo Aq.2 H E;refine I ?_;refine aa (aC (vf:=[]) (vc:=[pT w.heap.size,pT O.heap.size]) Z Z ?_);refine aa (hH (lb:=[pT w.heap.size,pT O.heap.size]) Z ?_);refine I ?_;refine clb II (hc:=r9 (hr.ext E) hn hb SE (λi hi W e=>D7 (hv _ (Gk U)) ((ht.ext E).ext e))) (hk:=?_);rintro _ _ Ap rfl;have⟨H,G,E⟩:=ca Ap.2 H G E;refine I ?_;refine cl Cl m9 ?_;rintro _ _ Ao rfl;have⟨H,G,E⟩:=ca Ao.2 H G E;refine I ?_;refine aa (mg (f:=gf) (lb:=lb) (vs:=[]) hg Z Z (hc _ E) ?_);rintro _ _ Ab rfl;have⟨H,G,E⟩:=ca Ab.2 H G E;refine SA H (λ_ A1 A0=>?_);have G:=pb A1 G;have E:=bi A1 E;refine SO G (λ_ A2 Am=>?_);have A0:=pb A2 A0;have E:=bi A2 E;refine I ?_;refine mU (b1:=w.heap.size) (b2:=O.heap.size) (v:=.tuple #[.agg #[S x.1.1,S x.1.2,S x.2.1,S x.2.2],.int .i64 0]) SC (λ_ _=>Kj) E (c8 (r1:=.cell 4 144) (r2:=.cell 5 36) Z ?_ ?_) Z;refine ai (t:=4) (cs:=[S x.1.1,S x.1.2,S x.2.1,S x.2.2]) (b:=w.heap.size) (o:=0) fL Z ef ?_ ?_;exact Z;exact aa0 A0 (i:=0) Z;refine bH (t:=5) (b:=O.heap.size) (o:=0) BY Z ?_ ?_;exact Z;exact ab6 Am Z
def BV {lb:List Value}{l:List (R×R)}{x:R}(hg:Enters prog gf)(hr:Rw w lo A (j2 l))(hn:l.length=n)(hb:n<=1000)(hv:∀x∈l,Yv x)(hc:∀W,aO w W->CL gf lb.toArray W (aH W λv _=>v=.agg #[S x.1,S x.2]))(ht:Tb w):
 CL 232 #[.func (.func gf) #[] lb.toArray,.slice A n cp] w (aH w λv w'=>v=.tuple #[.agg #[S x.1,S x.2],.int .i64 0]):=by
 refine l9 func232 Z (I ?_);refine al aU (λO Af H=>?_);have E:=Af.2;refine al l5 (λ_ Aq G=>?_);have⟨H,E⟩:=bo Aq.2 H E;refine I ?_;refine aa (aC (vf:=[]) (vc:=[pT w.heap.size,pT O.heap.size]) Z Z ?_);refine aa (hH (lb:=[pT w.heap.size,pT O.heap.size]) Z ?_);refine I ?_;refine clb II (hc:=r9 (hr.ext E) hn hb SJ (λi hi W e=>D8 (hv _ (Gk U)) ((ht.ext E).ext e))) (hk:=?_);rintro _ _ Ap rfl;have⟨H,G,E⟩:=ca Ap.2 H G E;refine I ?_;refine cl Cl m9 ?_;rintro _ _ Ao rfl;have⟨H,G,E⟩:=ca Ao.2 H G E;refine I ?_;refine aa (mg (f:=gf) (lb:=lb) (vs:=[]) hg Z Z (hc _ E) ?_);rintro _ _ Ab rfl;have⟨H,G,E⟩:=ca Ab.2 H G E;refine SA H (λ_ A1 A0=>?_);have G:=pb A1 G;have E:=bi A1 E;refine SO G (λ_ A2 Am=>?_);have A0:=pb A2 A0;have E:=bi A2 E;refine I ?_;refine mU (b1:=w.heap.size) (b2:=O.heap.size) (v:=.tuple #[.agg #[S x.1,S x.2],.int .i64 0]) SI (λ_ _=>Kk) E (c8 (r1:=.cell 4 33) (r2:=.cell 5 36) Z ?_ ?_) Z;refine ai (t:=4) (cs:=[S x.1,S x.2]) (b:=w.heap.size) (o:=0) iW Z b8 ?_ ?_;exact Z;exact aa0 A0 (i:=0) Z;refine bH (t:=5) (b:=O.heap.size) (o:=0) BY Z ?_ ?_;exact Z;exact ab6 Am Z
def zj {l m:List UInt8}:
 CL 231 #[.agg #[S l,S m],.int .i64 0] w (aH w λv w'=>v=.agg #[S l,S m]):=by
 refine aD func231 Z (I ?_);refine bx (λA2 Ab G=>?_);have E:=Ab.2;refine al aU (λ_ A0 H=>?_);have⟨G,E⟩:=bo A0.2 G E;refine I ?_;refine cl Cl m9 ?_;rintro _ _ W rfl;have⟨G,H,E⟩:=ca W.2 G H E;refine I ?_;refine SA H (λ_ O A1=>?_);have G:=pb O G;have E:=bi O E;refine I ?_;refine aW (v:=.agg #[S l,S m]) (ci  rfl ?_) E Z;refine ai (t:=4) (cs:=[S l,S m]) (b:=A2.heap.size) (o:=0) iW Z b8 ?_ ?_;exact Z;exact aa0 A1 (i:=0) Z
def zk (a b t:Int):Int:=a*t/b
def zp (a b t:Int):Int:=if a*t%b=0 then a*t/b else a*t/b+1
def tp (hb:0<b):eh a b*t/dn a b=a*t/b/\(eh a b*t%dn a b=0↔a*t%b=0):=by
 have h1:=Bl (n:=a) hb
 have h2:=yS (n:=a) hb
 have E:=lS (n:=a) hb
 generalize eh a b=p at *
 generalize dn a b=q at *
 generalize ((Int.gcd a b:Nat):Int)=g at *
 subst h1 h2
 rw[show p*g*t=p*t*g by grind]
 refine⟨(Int.mul_ediv_mul_of_pos_left _ _ E).symm,?_⟩
 rw[Int.mul_comm (p*t) g,Int.mul_comm q g,Int.mul_emod_mul_of_pos _ _ E]
 constructor
 · intro h;rw[h,Int.mul_zero]
 · intro h;rcases Int.mul_eq_zero.1 h with h|h;omega;exact h
def Yx (hb:0<b):vn (eh a b) (dn a b) t false=zk a b t:=by
 unfold vn zk;rw[if_neg (λe=>absurd e.1 dc),(tp hb).1]
def Yy (hb:0<b):vn (eh a b) (dn a b) t true=zp a b t:=by
 unfold vn zp
 rw[(tp hb).1]
 by_cases h:a*t%b=0
 · rw[if_pos h,if_neg (λe=>e.2 (dU.2 ((tp hb).2.2 h)))]
 · rw[if_neg h,if_pos ⟨rfl,λe=>h ((tp hb).2.1 (dU.1 e))⟩]
def aL (pl:Nat):Int:=((10^pl:Nat):Int)
def lX (pl:Nat):0<aL pl:=by unfold aL;have:=Nat.pow_pos (n:=pl) (show 0<10 by decide);omega
def Vq (h:pl<=30):aL pl<=10^30:=by
 unfold aL
 have h1:(10:Nat)^pl<=10^30:=Nat.pow_le_pow_right dc h
 have h2:(((10:Nat)^30:Nat):Int)=(10:Int)^30:=by decide
 omega
def BW (h:Q9 a b)(hp:pl<=30):(eh a b*aL pl).natAbs<10^199:=by
 have h1:=h.red.1
 have h2:(aL pl).natAbs<=10^30:=by have:=Vq hp;have:=lX pl;omega
 rw[Int.natAbs_mul]
 have h3:(eh a b).natAbs*(aL pl).natAbs<=10^90*10^30:=qb9 U h2
 have h4:10^90*10^30<10^199:=by decide
 omega
def vR {l m:List UInt8}(e:(l,m)=qR a b)(h:Q9 a b)(hp:pl<=30)(ht:Tb w):CL 100 #[.agg #[S l,S m],.int .i64 pl] w (aH w λv _=>v=Qv (zk a b (aL pl)) (aL pl)):=by
 rw[show l=(qR a b).1 from congrArg Prod.fst e,show m=(qR a b).2 from congrArg Prod.snd e]
 exact nE (LP h.ok (Bm h.2.1 h.fz.1) (Bn h.2.1 h.fz.2) hp (BW h hp) ht) (qb2 (λz=>Qv z (aL pl)) (Yx h.2.1))
def D9 {l m:List UInt8}(e:(l,m)=qR a b)(h:Q9 a b)(hp:pl<=30)(ht:Tb w):CL 101 #[.agg #[S l,S m],.int .i64 pl] w (aH w λv _=>v=Qv (zp a b (aL pl)) (aL pl)):=by
 rw[show l=(qR a b).1 from congrArg Prod.fst e,show m=(qR a b).2 from congrArg Prod.snd e]
 exact nE (UW h.ok (Bm h.2.1 h.fz.1) (Bn h.2.1 h.fz.2) hp (BW h hp) ht) (qb2 (λz=>Qv z (aL pl)) (Yy h.2.1))
def HS {x:R×R}(e1:x.1=qR a b)(e2:x.2=qR c d)(q1:Q9 a b)(q2:Q9 c d)(hb1:ar w b1 144 #[S x.1.1,S x.1.2,S x.2.1,S x.2.2])(hb2:ar w b2 3 #[.int .i64 pl])(hp:pl<=30)(ht:Tb w):
 CL 230 #[pT b1,pT b2] w (aH w λv w'=>v=IV (zk a b (aL pl)) (aL pl) (zp c d (aL pl)) (aL pl)):=by
 have As:=bt hb1;have Av:=bt hb2;refine aD func230 Z (I ?_);refine al Vc (λ_ O G=>?_);have⟨hb1,hb2⟩:=dN O.2 hb1 hb2;have E:=O.2;refine I ?_;refine bQ 13 ?_;refine sf ?_;refine aX (V:=.tuple #[QV (zk a b (aL pl)) (aL pl),.int .i64 0]) (λ_ _ W _=>?_) ?_;refine cl Cj (vR e1 q1 hp (ht.ext (xt E W))) ?_;rintro _ _ Af rfl;have A0:=Af.2;refine I ?_;exact fs ⟨A0,rfl⟩;refine sf ?_;refine aX (V:=QV (zk a b (aL pl)) (aL pl)) (λ_ _ _ _=>?_) ?_;refine cl Ci zj ?_;rintro _ _ Ab rfl;have Ao:=Ab.2;refine I ?_;exact fs ⟨Ao,rfl⟩;refine sf ?_;refine aX (V:=.tuple #[QV (zp c d (aL pl)) (aL pl),.int .i64 0]) (λ_ _ Ar _=>?_) ?_;refine cl Ck (D9 e2 q2 hp (ht.ext (xt E Ar))) ?_;rintro _ _ Am rfl;have A2:=Am.2;refine I ?_;exact fs ⟨A2,rfl⟩;refine sf ?_;intro _ _ Aq _;have⟨hb1,hb2,G,E⟩:=fw Aq.2 hb1 hb2 G E;refine cl Ci zj ?_;rintro _ _ A1 rfl;have⟨hb1,hb2,G,E⟩:=fw A1.2 hb1 hb2 G E;refine aa (bX (vs:=[(0,QV (zk a b (aL pl)) (aL pl)),(1,QV (zp c d (aL pl)) (aL pl))]) (cells:=#[S ((qR (zk a b (aL pl)) (aL pl)).1),S ((qR (zk a b (aL pl)) (aL pl)).2),S ((qR (zp c d (aL pl)) (aL pl)).1),S ((qR (zp c d (aL pl)) (aL pl)).2)]) (pl:=[(0,2),(2,2)]) fL Vc Hx Z Hx ?_);refine SA G (λ_ H Ap=>?_)
 have⟨hb1,hb2⟩:=js H hb1 hb2;have E:=bi H E;refine I ?_;refine aW (v:=IV (zk a b (aL pl)) (aL pl) (zp c d (aL pl)) (aL pl)) (ci  rfl ?_) E Z;refine ai (t:=2) (cs:=[S ((qR (zk a b (aL pl)) (aL pl)).1),S ((qR (zk a b (aL pl)) (aL pl)).2),S ((qR (zp c d (aL pl)) (aL pl)).1),S ((qR (zp c d (aL pl)) (aL pl)).2)]) (b:=w.heap.size) (o:=0) fL Z ef ?_ ?_;exact Z;exact aa0 Ap (i:=0) Z
def vT {x:R×R}(e1:x.1=qR a b)(e2:x.2=qR c d)(q1:Q9 a b)(q2:Q9 c d)(hle:a*d<=c*b)(hp:pl<=30)(ht:Tb w):
 CL 200 #[.agg #[S x.1.1,S x.1.2,S x.2.1,S x.2.2],.int .i64 pl] w (aH w λv w'=>v=.tuple #[IV (zk a b (aL pl)) (aL pl) (zp c d (aL pl)) (aL pl),.int .i64 0]):=by
 refine aD func200 Z (I ?_);refine bx (λA1 Am G=>?_);have E:=Am.2;refine bx (λAp Ar H=>?_);have⟨G,E⟩:=bo Ar.2 G E;refine al Vc (λ_ Aq O=>?_);have⟨G,H,E⟩:=ca Aq.2 G H E;refine I ?_;refine aa (aC (vf:=[]) (vc:=[pT w.heap.size,pT A1.heap.size]) Z Z ?_);refine aa (aN (cs:=[S x.1.1,S x.1.2,S x.2.1,S x.2.2]) (b:=w.heap.size) (o:=0) fL Z ef Z (aa0 G (i:=0) Z) ?_);refine BS (λ_ Ab _ Af=>?_);have⟨G,H,O,E⟩:=fw Ab G H O E;refine clb Su (hc:=BU (l:=[x]) (x:=(qR (zk a b (aL pl)) (aL pl),qR (zp c d (aL pl)) (aL pl))) Sy (aa7 Af) Z Rg (λy hy=>by rw[List.mem_singleton.1 hy];exact⟨a,b,c,d,e1,e2,q1,q2,hle⟩) (λW e=>HS e1 e2 q1 q2 (G.ext e) (H.ext e) hp ((ht.ext E).ext e)) (ht.ext E)) (hk:=?_);rintro _ _ Ao rfl;have⟨G,H,O,E⟩:=fw Ao.2 G H O E;refine I ?_;refine SA O (λ_ A0 A2=>?_);have⟨G,H⟩:=js A0 G H;have E:=bi A0 E;refine I ?_;refine aW (v:=.tuple #[IV (zk a b (aL pl)) (aL pl) (zp c d (aL pl)) (aL pl),.int .i64 0]) (c8 (r1:=.cell 4 144) (r2:=.tmp 5) Z ?_ ?_) E Z;refine ai (t:=4) (cs:=[S ((qR (zk a b (aL pl)) (aL pl)).1),S ((qR (zk a b (aL pl)) (aL pl)).2),S ((qR (zp c d (aL pl)) (aL pl)).1),S ((qR (zp c d (aL pl)) (aL pl)).2)]) (b:=Ap.heap.size) (o:=0) fL Z ef ?_ ?_
 exact Z;exact aa0 A2 (i:=0) Z;exact aM (t:=5) RM _
def HT {x:R×R}(e1:x.1=qR a b)(e2:x.2=qR c d)(q1:Q9 a b)(q2:Q9 c d)(hb1:ar w b1 144 #[S x.1.1,S x.1.2,S x.2.1,S x.2.2])(ht:Tb w):
 CL 233 #[pT b1] w (aH w λv w'=>v=QV (c*b-a*d) (d*b)):=by
 have A2:=bt hb1;refine aD func233 Z (I ?_);refine al aU (λ_ H G=>?_);have hb1:=be H.2 hb1;have E:=H.2;refine I ?_;refine cl En (Yu e2 e1 q2 q1 (ht.ext E)) ?_;rintro _ _ W rfl;have⟨hb1,G,E⟩:=ca W.2 hb1 G E;refine I ?_;refine cl Ci zj ?_;rintro _ _ A0 rfl;have⟨hb1,G,E⟩:=ca A0.2 hb1 G E;refine SA G (λ_ O A1=>?_);have hb1:=pb O hb1;have E:=bi O E;refine I ?_;refine aW (v:=QV (c*b-a*d) (d*b)) (ci  rfl ?_) E Z;refine ai (t:=1) (cs:=[S ((qR (c*b-a*d) (d*b)).1),S ((qR (c*b-a*d) (d*b)).2)]) (b:=w.heap.size) (o:=0) iW Z b8 ?_ ?_;exact Z;exact aa0 A1 (i:=0) Z
def vU {x:R×R}(e1:x.1=qR a b)(e2:x.2=qR c d)(q1:Q9 a b)(q2:Q9 c d)(hle:a*d<=c*b)(ht:Tb w):
 CL 203 #[.agg #[S x.1.1,S x.1.2,S x.2.1,S x.2.2]] w (aH w λv w'=>v=.tuple #[QV (c*b-a*d) (d*b),.int .i64 0]):=by
 refine aD func203 Z (I ?_);refine bx (λA0 A1 G=>?_);have E:=A1.2;refine al aU (λ_ Af H=>?_);have⟨G,E⟩:=bo Af.2 G E;refine I ?_;refine aa (aC (vf:=[]) (vc:=[pT w.heap.size]) Z Z ?_);refine aa (aN (cs:=[S x.1.1,S x.1.2,S x.2.1,S x.2.2]) (b:=w.heap.size) (o:=0) fL Z ef Z (aa0 G (i:=0) Z) ?_);refine BS (λ_ A2 _ Ao=>?_);have⟨G,H,E⟩:=ca A2 G H E;refine clb Sz (hc:=BV (l:=[x]) (x:=qR (c*b-a*d) (d*b)) SB (aa7 Ao) Z Rg (λy hy=>by rw[List.mem_singleton.1 hy];exact⟨a,b,c,d,e1,e2,q1,q2,hle⟩) (λW e=>HT e1 e2 q1 q2 (G.ext e) ((ht.ext E).ext e)) (ht.ext E)) (hk:=?_);rintro _ _ Am rfl;have⟨G,H,E⟩:=ca Am.2 G H E;refine I ?_;refine SA H (λ_ O Ab=>?_);have G:=pb O G;have E:=bi O E;refine I ?_;refine aW (v:=.tuple #[QV (c*b-a*d) (d*b),.int .i64 0]) (c8 (r1:=.cell 2 33) (r2:=.tmp 3) Z ?_ ?_) E Z;refine ai (t:=2) (cs:=[S ((qR (c*b-a*d) (d*b)).1),S ((qR (c*b-a*d) (d*b)).2)]) (b:=A0.heap.size) (o:=0) iW Z b8 ?_ ?_;exact Z;exact aa0 Ab (i:=0) Z;exact aM (t:=3) RM _
def yP (S n d:Nat):N2:=lO (qn S n d) 1 2
def zm (S:Nat)(y:N2):Nat->N2->N2->Option (N2×N2)
 |0,u,b=>some (u,b)
 |1,u,b=>if yH b=true then some (u,lO b 1 2)else none
 |a+2,u,b=>if yH u=true/\yH b=true then zm S y a (nD S u y) (lO b (a+2) 2)else none
def M8 (S pl:Nat)(y:N2)(fr:Nat)(s e:N2):Option (N2×N2):=
 if fr%2=1 then(if yH s=true then(m6 S y).bind λu=>(m6 S (wc pl,wc pl+1)).bind λc=>if yH u=true/\yH c=true then some (nD S s u,nD S e c)else none else none)else some (s,e)
def Yz (S pl n d fr:Nat):Option (Int×Int):=
 if n<10^90/\d<10^90/\0<d/\yH (qn S n d)=true/\yH (yP S n d)=true then
  (yI (UI S (yP S n d) fr) (1*S,1*S)).bind λs=>(yJ S (yP S n d)).bind λe=>(M8 S pl (yP S n d) fr s e).bind λp=>(zm S (yP S n d) fr p.1 p.2).bind λq=>
  if yH q.1=true/\yH q.2=true/\0<q.2.1/\0<q.2.2 then some (BZ (1*S,1*S) (wk S q.1 q.2))else none
 else none
def QF {S d fr:Nat}{r:Int×Int}(h:Yz S pl n d fr=some r):n<10^90/\d<10^90/\0<d/\Bk 95 (qn S n d)/\Bk 95 (yP S n d)/\∃s e p q,
 yI (UI S (yP S n d) fr) (1*S,1*S)=some s/\yJ S (yP S n d)=some e/\M8 S pl (yP S n d) fr s e=some p/\zm S (yP S n d) fr p.1 p.2=some q/\Bk 95 q.1/\Bk 95 q.2/\0<q.2.1/\0<q.2.2/\r=BZ (1*S,1*S) (wk S q.1 q.2):=by
 unfold Yz at h
 split at h
 · rename_i h1
   refine⟨h1.1,h1.2.1,h1.2.2.1,kaC h1.2.2.2.1,kaC h1.2.2.2.2,?_⟩
   cases hs:yI (UI S (yP S n d) fr) (1*S,1*S)with
   |none=>rw[hs]at h;cases h
   | some s=>
     rw[hs,Option.bind_some]at h
     cases he:yJ S (yP S n d)with
     |none=>rw[he]at h;cases h
     | some e=>
       rw[he,Option.bind_some]at h
       cases hp:M8 S pl (yP S n d) fr s e with
       |none=>rw[hp]at h;cases h
       | some p=>
         rw[hp,Option.bind_some]at h
         cases hq:zm S (yP S n d) fr p.1 p.2 with
         |none=>rw[hq]at h;cases h
         | some q=>
           rw[hq,Option.bind_some]at h
           split at h
           · rename_i h2;cases h;exact⟨s,e,p,q,rfl,rfl,hp,hq,kaC h2.1,kaC h2.2.1,h2.2.2.1,h2.2.2.2,rfl⟩
           · cases h
 · cases h
def R0 {S a:Nat}{y u b:N2}{q:N2×N2}(h0:0<a)(h:zm S y a u b=some q):Bk 95 b:=by
 match a,h0,h with
 |1,_,h=>unfold zm at h;split at h;rename_i h1;exact kaC h1;cases h
 |a+2,_,h=>unfold zm at h;split at h;rename_i h1;exact kaC h1.2;cases h
def R1 {S a:Nat}{y u b:N2}{q:N2×N2}(h0:1<a)(h:zm S y a u b=some q):Bk 95 u:=by
 match a,h0,h with
 |a+2,_,h=>unfold zm at h;split at h;rename_i h1;exact kaC h1.1;cases h
def Vr (S:Nat)(y:N2)(a:Int)(u b:N2)(q:N2×N2):Prop:=(0<=a/\zm S y a.toNat u b=some q)\/(a=-1/\(u,b)=q)
def Gl {S:Nat}{y u b:N2}{q:N2×N2}(h:Vr S y a u b q)(h0:0<a):∃n:Nat,a=(n:Int)/\0<n/\zm S y n u b=some q:=by
 rcases h with h|h
 · exact⟨a.toNat,by omega,by omega,h.2⟩
 · omega
def Gm {S:Nat}{y u b:N2}{q:N2×N2}(h:Vr S y a u b q)(h0:¬0<a):q=(u,b):=by
 rcases h with h|h
 · have e:a.toNat=0:=J
   rw[e]at h
   have:=h.2
   unfold zm at this
   cases this;rfl
 · exact h.2.symm
def R2 {S:Nat}{y u b:N2}{q:N2×N2}(h0:1<n)(h:zm S y n u b=some q):Vr S y ((n:Int)-2) (nD S u y) (lO b n 2) q:=by
 left
 obtain⟨k,rfl⟩:∃k,n=k+2:=⟨n-2,by omega⟩
 refine⟨by omega,?_⟩
 rw[show(((k+2:Nat):Int)-2).toNat=k by omega]
 unfold zm at h
 split at h
 · exact h
 · cases h
def R3 {S:Nat}{y u b:N2}{q:N2×N2}(h0:0<n)(h1:¬1<n)(h:zm S y n u b=some q):Vr S y ((n:Int)-2) u (lO b n 2) q:=by
 right
 have e:n=1:=J
 subst e
 refine⟨by omega,?_⟩
 unfold zm at h
 split at h
 · cases h;rfl
 · cases h
def R4 {S:Nat}{y u b:N2}{q:N2×N2}(h:zm S y n u b=some q):Vr S y (n:Int) u b q:=Or.inl ⟨by omega,by simpa using h⟩
def QG {S fr:Nat}{y s e:N2}{p:N2×N2}(h:M8 S pl y fr s e=some p):(fr%2=1/\∃u c,Bk 95 s/\m6 S y=some u/\m6 S (wc pl,wc pl+1)=some c/\Bk 95 u/\Bk 95 c/\p=(nD S s u,nD S e c))\/(¬fr%2=1/\p=(s,e)):=by
 unfold M8 at h
 split at h
 · rename_i ho
   left
   refine⟨ho,?_⟩
   split at h
   · rename_i hs
     cases hu:m6 S y with
     |none=>rw[hu]at h;cases h
     | some u=>
       rw[hu,Option.bind_some]at h
       cases hc:m6 S (wc pl,wc pl+1)with
       |none=>rw[hc]at h;cases h
       | some c=>
         rw[hc,Option.bind_some]at h
         split at h
         · rename_i h2;cases h;exact⟨u,c,kaC hs,rfl,rfl,kaC h2.1,kaC h2.2,rfl⟩
         · cases h
   · cases h
 · rename_i ho;cases h;exact Or.inr ⟨ho,rfl⟩
def M9 {d fr:Nat}{s e1:N2}{q:N2×N2}(hS:Sc sO)(hp:pl<81)(h1:0<fr)(h20:fr<=20)(hn:n<10^90)(hd:d<10^90)(hd0:0<d)(hof:Bk 95 (qn sO n d))(hy:Bk 95 (yP sO n d))(hs:yI (UI sO (yP sO n d) fr) (1*sO,1*sO)=some s)(he:yJ sO (yP sO n d)=some e1){u c:N2}(hsb:Bk 95 s)(hu:m6 sO (yP sO n d)=some u)(hc:m6 sO (wc pl,wc pl+1)=some c)(hub:Bk 95 u)(hcb:Bk 95 c)(ho:fr%2=1)(hq:zm sO (yP sO n d) fr (nD sO s u) (nD sO e1 c)=some q)(hq1:Bk 95 q.1)(hq2:Bk 95 q.2)(hm1:0<q.2.1)(hm2:0<q.2.2)(ht:Tb w):
 CL 151 #[.agg #[.int .i64 pl,S (nS sO)],QV ((n:Nat):Int) ((d:Nat):Int),.int .i64 fr] w (aH w λv w'=>v=.agg #[S (ae ((BZ (1*sO,1*sO) (wk sO q.1 q.2)).1)),S (ae ((BZ (1*sO,1*sO) (wk sO q.1 q.2)).2))]):=by
 have G0:=UH he;obtain⟨m,hR,hr⟩:=u4 hs;have K2:=Lf (a:=q.1) (b:=q.2) hS hm1 hq1;have h1S:Bk 199 (1*sO,1*sO):=by have:=hS.lt;exact⟨by simp only;omega,by simp only;omega⟩
 refine aD func151 Z (I ?_);refine bx (λL1 T3 E=>?_);have O:=T3.2;refine bx (λAw KC H=>?_);have⟨E,O⟩:=bo KC.2 E O;refine bx (λD2 La G=>?_);have⟨E,H,O⟩:=ca La.2 E H O;refine al bS (λW3 FR A1=>?_);have⟨E,H,G,O⟩:=fw FR.2 E H G O;refine I ?_;refine bQ 6 ?_;refine sf ?_;refine aX (V:=.agg #[S (nS ((qn sO n d).1)),S (nS ((qn sO n d).2))]) (λ_ _ No _=>?_) ?_;refine cl ID (BR (a:=(n)) (b:=(d)) hS hn hd hd0 (ht.ext (xt O No))) ?_;rintro _ _ H3 rfl;have H4:=H3.2;refine I ?_;exact fs ⟨H4,rfl⟩;refine aX (V:=.agg #[S (nS ((lO (qn sO n d) 1 2).1)),S (nS ((lO (qn sO n d) 1 2).2))]) (λ_ _ bp _=>?_) ?_;refine clb oe (hc:=lR (hof.mono dc) dc dc dc (ht.ext (xt O bp))) (hk:=?_);rintro _ _ T2 rfl;have L3:=T2.2;refine I ?_;exact fs ⟨L3,rfl⟩;refine bY (λv As=>∃b:Nat,v=pT b/\W3.heap.size<=b/\ar As b 191 #[S [],S []]) (hs:=λ_ _ _ k ⟨b,e,l,h⟩=>⟨b,e,l,h.ext k⟩) (λ_ _ bZ _=>?_) ?_;refine al bS (λ_ ac a5=>?_);have Ix:=ac.2;refine I ?_;exact fs ⟨Ix,⟨_,rfl,(by have:=bz bZ;omega),a5⟩⟩;refine sf ?_;intro _ _ ES an;have⟨E,H,G,A1,O⟩:=kC ES.2 E H G A1 O;obtain⟨B2,cb,_,E5⟩:=(an 5 7 Z Z);have cm:=bt E5;refine SA E5 (λX0 KY A0=>?_);have⟨E,H,G,A1,O,_⟩:=Rf KY E H G A1 O;refine I ?_
 refine bQ 7 ?_;refine sf ?_;refine aX (V:=.agg #[S (nS ((1*sO,1*sO).1)),S (nS ((1*sO,1*sO).2))]) (λ_ _ a9 _=>?_) ?_;refine clb nZ (hc:=iN (n:=1) hS dc ka9 (ht.ext (xt O a9))) (hk:=?_);rintro _ _ a0 rfl;have Q0:=a0.2;refine I ?_;exact fs ⟨Q0,rfl⟩;refine aA (λ_ _ _ _=>by refine aa (aC (vf:=[]) (vc:=[pT w.heap.size,pT B2,pT Aw.heap.size]) Z (av Z (av cb (av Z Z))) ?_);refine I ?_;exact aE) ?_;refine bY (λv As=>D3 (1*sO,1*sO) (.func (.func 192) #[] #[pT w.heap.size,pT B2,pT Aw.heap.size]) As v) (hs:=λ_ _ _ k h=>h.ext k) (λ_ _ _ _=>?_) ?_;refine cl Cg vK ?_;rintro _ _ Lk W1;have Wa:=Lk.2;refine I ?_;exact fs ⟨Wa,W1⟩;refine aX (V:=.agg #[S (nS s.1),S (nS s.2)]) (λ_ _ Ax a6=>?_) ?_;obtain⟨_,_,E9,Lj,Li⟩:=(a6 4 20 Z Z);have⟨E,G,A0⟩:=vZ Ax E G A0;refine clb Ce (hc:=cP (D6 hR hS Lj Li IU (λk hk W e=>M5 hS (E.ext e) (A0.ext e) (G.ext e) (hR.bd k U) hy U kd7 U ((ht.ext (xt O Ax)).ext e)) (ht.ext (xt O Ax))) hr) (hk:=?_) (hv:=av Z (av E9 Z));rintro _ _ K3 rfl;have a3:=K3.2;refine I ?_;exact fs ⟨a3,rfl⟩
 refine bY (λv As=>∃b:Nat,v=pT b/\X0.heap.size<=b/\ar As b 191 #[S [],S []]) (hs:=λ_ _ _ k ⟨b,e,l,h⟩=>⟨b,e,l,h.ext k⟩) (λ_ _ Vm _=>?_) ?_;refine al bS (λ_ P2 Kp=>?_);have P0:=P2.2;refine I ?_;exact fs ⟨P0,⟨_,rfl,(by have:=bz Vm;omega),Kp⟩⟩;refine sf ?_;intro _ _ L4 VW;have⟨E,H,G,A1,A0,O⟩:=Jc L4.2 E H G A1 A0 O;obtain⟨S0,_,_,CG⟩:=(VW 6 8 Z Z);have co:=bt CG;refine SA CG (λ_ L2 Ao=>?_);have⟨E,H,G,A1,A0,O,_⟩:=Vw L2 E H G A1 A0 O;refine I ?_;refine cl IC (M6 hS he (ht.ext O)) ?_;rintro _ KM E4 rfl;have⟨E,H,G,A1,A0⟩:=kD E4.2 E H G A1 A0;have⟨Ao,O⟩:=bo E4.2 Ao O;refine al bS (λ_ C0 bW=>?_);have⟨E,H,G,A1,A0⟩:=kD C0.2 E H G A1 A0;have⟨Ao,O⟩:=bo C0.2 Ao O;refine SA bW (λ_ Cr Aq=>?_);have⟨E,H,G,A1,A0⟩:=sG Cr E H G A1 A0;have⟨Ao,O,_⟩:=j3 Cr Ao O;refine I ?_;refine aa (mu (a:=(fr:Int)) (b:=2) (c:=(fr:Int)%2) Z Z U U Z ?_);refine I ?_;refine bQ 12 ?_;refine sf ?_;refine aX (V:=.agg #[S (nS u.1),S (nS u.2)]) (λ_ _ a4 _=>?_) ?_;refine cl IJ (xx hS hu (ht.ext (xt O a4))) ?_;rintro _ _ GC rfl;have c9:=GC.2;refine I ?_;exact fs ⟨c9,rfl⟩;refine aX (V:=.agg #[S (nS ((nD sO s u).1)),S (nS ((nD sO s u).2))]) (λ_ _ bq _=>?_) ?_;refine cl og (gR hS hsb hub (ht.ext (xt O bq))) ?_
 rintro _ _ nm rfl;have N0:=nm.2;refine I ?_;exact fs ⟨N0,rfl⟩;refine sf ?_;refine aX (V:=.agg #[S (nS ((wc pl,wc pl+1).1)),S (nS ((wc pl,wc pl+1).2))]) (λ_ _ bb _=>?_) ?_;refine cl SF (Yt hp (ht.ext (xt O bb))) ?_;rintro _ _ a2 rfl;have Ne:=a2.2;refine I ?_;exact fs ⟨Ne,rfl⟩;refine aX (V:=.agg #[S (nS c.1),S (nS c.2)]) (λ_ _ ad _=>?_) ?_;refine cl IJ (xx hS hc (ht.ext (xt O ad))) ?_;rintro _ _ V2 rfl;have cT:=V2.2;refine I ?_;exact fs ⟨cT,rfl⟩;refine sf ?_;intro _ _ ny _;have⟨E,H,G,A1,A0⟩:=kD ny.2 E H G A1 A0;have⟨Ao,Aq,O⟩:=ca ny.2 Ao Aq O;refine cl og (gR hS G0 hcb (ht.ext O)) ?_;rintro _ _ od rfl;have⟨E,H,G,A1,A0⟩:=kD od.2 E H G A1 A0;have⟨Ao,Aq,O⟩:=ca od.2 Ao Aq O;refine SA Ao (λ_ B1 Az=>?_);have⟨E,H,G,A1,A0⟩:=sG B1 E H G A1 A0;have Aq:=pb B1 Aq;have O:=bi B1 O;refine SA Aq (λH2 B0 W0=>?_);have⟨E,H,G,A1,A0⟩:=sG B0 E H G A1 A0;have Az:=pb B0 Az;have O:=bi B0 O;refine I ?_
 refine b7 [(10,10),(42,55)] (λX2 e W=>∃aq:Int,∃Af:N2,∃Am:N2,((aq+2).toNat=X2)/\(e 10=.int .i64 aq)/\(Vr sO (lO (qn sO n d) 1 2) aq Af Am q)/\(aq<=(fr:Int))/\(H2.heap.size<=W.heap.size)/\(aO w W)/\(ar W w.heap.size 189 #[.int .i64 pl,S (nS sO)])/\(ar W L1.heap.size 33 #[S ((qR ((n:Nat):Int) ((d:Nat):Int)).1),S ((qR ((n:Nat):Int) ((d:Nat):Int)).2)])/\(ar W Aw.heap.size 3 #[.int .i64 fr])/\(ar W D2.heap.size 191 #[S [],S []])/\(ar W B2 191 #[S (nS ((lO (qn sO n d) 1 2).1)),S (nS ((lO (qn sO n d) 1 2).2))])/\(ar W KM.heap.size 191 #[S (nS Am.1),S (nS Am.2)])/\(ar W S0 191 #[S (nS Af.1),S (nS Af.2)])) (((fr:Int)+2).toNat) ⟨(fr:Int),nD sO s u,nD sO e1 c,rfl,rfl,(R4 hq),(Int.le_refl _),(qa0 _),O,E,H,G,A1,A0,W0,Az⟩ ?_;rintro _ _ _ ⟨aq,Af,Am,rfl,cq,E6,cf,ce,A2,E,H,G,A1,A0,Ap,Ab⟩;by_cases hl:0<aq;obtain⟨a,rfl,CB,Av⟩:=Gl E6 hl;have a8:=R0 CB Av;have ch:a<=fr:=J
 refine I ?_;refine clb oe (hc:=lR (a8.mono dc) U dc dc (ht.ext A2)) (hk:=?_);rintro _ _ E1 rfl;have⟨E,H,G,A1,A0⟩:=kD E1.2 E H G A1 A0;have⟨Ap,Ab,A2⟩:=ca E1.2 Ap Ab A2;refine SA Ap (λ_ D1 Ar=>?_);have⟨E,H,G,A1,A0⟩:=sG D1 E H G A1 A0;have⟨Ab,A2,_⟩:=j3 D1 Ab A2;refine I ?_;by_cases ap7:1<((a:Nat):Int);refine I ?_;refine clb og (hc:=gR hS (R1 U Av) hy (ht.ext A2)) (hk:=?_);rintro _ _ CY rfl;have⟨E,H,G,A1,A0⟩:=kD CY.2 E H G A1 A0;have⟨Ar,Ab,A2⟩:=ca CY.2 Ar Ab A2;refine SA Ab (λ_ wr EW=>?_);have⟨E,H,G,A1,A0⟩:=sG wr E H G A1 A0;have⟨Ar,A2,_⟩:=j3 wr Ar A2;refine I ?_;refine qk (I ?_);exact bF ⟨((a:Nat):Int)-2,nD sO Af (lO (qn sO n d) 1 2),lO Am a 2,rfl,rfl,(R2 U Av),U,U,A2,E,H,G,A1,A0,Ar,EW⟩;refine I ?_;refine qk (I ?_);exact bF ⟨((a:Nat):Int)-2,Af,lO Am a 2,rfl,rfl,(R3 CB U Av),U,U,A2,E,H,G,A1,A0,Ar,Ab⟩;have S9:=Gm E6 hl;subst S9;refine I ?_;refine bQ 7 ?_;refine sf ?_;refine aX (V:=.agg #[S (nS ((1*sO,1*sO).1)),S (nS ((1*sO,1*sO).2))]) (λ_ _ b0 _=>?_) ?_;refine clb nZ (hc:=iN (n:=1) hS dc ka9 (ht.ext (xt A2 b0))) (hk:=?_);rintro _ _ bv rfl;have cc:=bv.2;refine I ?_;exact fs ⟨cc,rfl⟩;refine sf ?_
 refine aX (V:=.agg #[S (nS ((wk sO Af Am).1)),S (nS ((wk sO Af Am).2))]) (λ_ _ W2 _=>?_) ?_;refine clb IB (hc:=xg hS hq1 (hq2.mono dc) hm1 hm2 (ht.ext (xt A2 W2))) (hk:=?_);rintro _ _ WV rfl;have Rm:=WV.2;refine I ?_;exact fs ⟨Rm,rfl⟩;refine sf ?_;intro _ _ E0 _;have⟨E,H,G,A1,A0⟩:=kD E0.2 E H G A1 A0;have⟨Ap,Ab,A2⟩:=ca E0.2 Ap Ab A2;refine clb IH (hc:=vl h1S (K2.mono dc) (ht.ext A2)) (hk:=?_);rintro _ _ E7 rfl;have⟨E,H,G,A1,A0⟩:=kD E7.2 E H G A1 A0;have⟨Ap,Ab,A2⟩:=ca E7.2 Ap Ab A2;refine SA A1 (λ_ Ay P1=>?_);have⟨E,H,G,A0,Ap⟩:=sG Ay E H G A0 Ap;have Ab:=pb Ay Ab;have A2:=bi Ay A2;refine I ?_;refine aW (v:=.agg #[S (ae ((BZ (1*sO,1*sO) (wk sO Af Am)).1)),S (ae ((BZ (1*sO,1*sO) (wk sO Af Am)).2))]) (ci  rfl ?_) A2 Z;refine ai (t:=6) (cs:=[S (ae ((BZ (1*sO,1*sO) (wk sO Af Am)).1)),S (ae ((BZ (1*sO,1*sO) (wk sO Af Am)).2))]) (b:=D2.heap.size) (o:=0) jr Z fK ?_ ?_;exact Z;exact aa0 P1 (i:=0) Z
def Na {d fr:Nat}{s e1:N2}{q:N2×N2}(hS:Sc sO)(hp:pl<81)(h1:0<fr)(h20:fr<=20)(hn:n<10^90)(hd:d<10^90)(hd0:0<d)(hof:Bk 95 (qn sO n d))(hy:Bk 95 (yP sO n d))(hs:yI (UI sO (yP sO n d) fr) (1*sO,1*sO)=some s)(he:yJ sO (yP sO n d)=some e1)(ho:¬fr%2=1)(hq:zm sO (yP sO n d) fr s e1=some q)(hq1:Bk 95 q.1)(hq2:Bk 95 q.2)(hm1:0<q.2.1)(hm2:0<q.2.2)(ht:Tb w):
 CL 151 #[.agg #[.int .i64 pl,S (nS sO)],QV ((n:Nat):Int) ((d:Nat):Int),.int .i64 fr] w (aH w λv w'=>v=.agg #[S (ae ((BZ (1*sO,1*sO) (wk sO q.1 q.2)).1)),S (ae ((BZ (1*sO,1*sO) (wk sO q.1 q.2)).2))]):=by
 obtain⟨m,hR,hr⟩:=u4 hs;have GC:=Lf (a:=q.1) (b:=q.2) hS hm1 hq1;have h1S:Bk 199 (1*sO,1*sO):=by have:=hS.lt;exact⟨by simp only;omega,by simp only;omega⟩
 refine aD func151 Z (I ?_);refine bx (λES W1 E=>?_);have A1:=W1.2;refine bx (λAw Li H=>?_);have⟨E,A1⟩:=bo Li.2 E A1;refine bx (λC0 KY G=>?_);have⟨E,H,A1⟩:=ca KY.2 E H A1;refine al bS (λV2 E1 A0=>?_);have⟨E,H,G,A1⟩:=fw E1.2 E H G A1;refine I ?_;refine bQ 6 ?_;refine sf ?_;refine aX (V:=.agg #[S (nS ((qn sO n d).1)),S (nS ((qn sO n d).2))]) (λ_ _ Ix _=>?_) ?_;refine cl ID (BR (a:=(n)) (b:=(d)) hS hn hd hd0 (ht.ext (xt A1 Ix))) ?_;rintro _ _ WV rfl;have E4:=WV.2;refine I ?_;exact fs ⟨E4,rfl⟩;refine aX (V:=.agg #[S (nS ((lO (qn sO n d) 1 2).1)),S (nS ((lO (qn sO n d) 1 2).2))]) (λ_ _ Rm _=>?_) ?_;refine clb oe (hc:=lR (hof.mono dc) dc dc dc (ht.ext (xt A1 Rm))) (hk:=?_);rintro _ _ L1 rfl;have a2:=L1.2;refine I ?_;exact fs ⟨a2,rfl⟩;refine bY (λv Ar=>∃b:Nat,v=pT b/\V2.heap.size<=b/\ar Ar b 191 #[S [],S []]) (hs:=λ_ _ _ k ⟨b,e,l,h⟩=>⟨b,e,l,h.ext k⟩) (λ_ _ W0 _=>?_) ?_;refine al bS (λ_ E5 L2=>?_);have a3:=E5.2;refine I ?_;exact fs ⟨a3,⟨_,rfl,(by have:=bz W0;omega),L2⟩⟩;refine sf ?_;intro _ _ Lj H4;have⟨E,H,G,A0,A1⟩:=kC Lj.2 E H G A0 A1;obtain⟨ny,La,_,Ay⟩:=(H4 5 7 Z Z);have a8:=bt Ay;refine SA Ay (λX0 Lk O=>?_);have⟨E,H,G,A0,A1,_⟩:=Rf Lk E H G A0 A1;refine I ?_
 refine bQ 7 ?_;refine sf ?_;refine aX (V:=.agg #[S (nS ((1*sO,1*sO).1)),S (nS ((1*sO,1*sO).2))]) (λ_ _ a4 _=>?_) ?_;refine clb nZ (hc:=iN (n:=1) hS dc ka9 (ht.ext (xt A1 a4))) (hk:=?_);rintro _ _ G0 rfl;have E6:=G0.2;refine I ?_;exact fs ⟨E6,rfl⟩;refine aA (λ_ _ _ _=>by refine aa (aC (vf:=[]) (vc:=[pT w.heap.size,pT ny,pT Aw.heap.size]) Z (av Z (av La (av Z Z))) ?_);refine I ?_;exact aE) ?_;refine bY (λv Ar=>D3 (1*sO,1*sO) (.func (.func 192) #[] #[pT w.heap.size,pT ny,pT Aw.heap.size]) Ar v) (hs:=λ_ _ _ k h=>h.ext k) (λ_ _ _ _=>?_) ?_;refine cl Cg vK ?_;rintro _ _ E7 P0;have Wa:=E7.2;refine I ?_;exact fs ⟨Wa,P0⟩;refine aX (V:=.agg #[S (nS s.1),S (nS s.2)]) (λ_ _ od X2=>?_) ?_;obtain⟨_,_,Kp,S0,a0⟩:=(X2 4 20 Z Z);have⟨E,G,O⟩:=vZ od E G O;refine clb Ce (hc:=cP (D6 hR hS S0 a0 IU (λk hk W e=>M5 hS (E.ext e) (O.ext e) (G.ext e) (hR.bd k U) hy U kd7 U ((ht.ext (xt A1 od)).ext e)) (ht.ext (xt A1 od))) hr) (hk:=?_) (hv:=av Z (av Kp Z));rintro _ _ S9 rfl;have L3:=S9.2;refine I ?_;exact fs ⟨L3,rfl⟩
 refine bY (λv Ar=>∃b:Nat,v=pT b/\X0.heap.size<=b/\ar Ar b 191 #[S [],S []]) (hs:=λ_ _ _ k ⟨b,e,l,h⟩=>⟨b,e,l,h.ext k⟩) (λ_ _ No _=>?_) ?_;refine al bS (λ_ K3 L4=>?_);have K2:=K3.2;refine I ?_;exact fs ⟨K2,⟨_,rfl,(by have:=bz No;omega),L4⟩⟩;refine sf ?_;intro _ _ H3 KC;have⟨E,H,G,A0,O,A1⟩:=Jc H3.2 E H G A0 O A1;obtain⟨Q0,_,_,D1⟩:=(KC 6 8 Z Z);have a9:=bt D1;refine SA D1 (λ_ Vm Ap=>?_);have⟨E,H,G,A0,O,A1,_⟩:=Vw Vm E H G A0 O A1;refine I ?_;refine cl IC (M6 hS he (ht.ext A1)) ?_;rintro _ KM CB rfl;have⟨E,H,G,A0,O⟩:=kD CB.2 E H G A0 O;have⟨Ap,A1⟩:=bo CB.2 Ap A1;refine al bS (λ_ B2 H2=>?_);have⟨E,H,G,A0,O⟩:=kD B2.2 E H G A0 O;have⟨Ap,A1⟩:=bo B2.2 Ap A1;refine SA H2 (λT2 B0 EW=>?_);have⟨E,H,G,A0,O⟩:=sG B0 E H G A0 O;have⟨Ap,A1,_⟩:=j3 B0 Ap A1;refine I ?_;refine aa (mu (a:=(fr:Int)) (b:=2) (c:=(fr:Int)%2) Z Z U U Z ?_);refine I ?_;refine I ?_
 refine b7 [(10,10),(42,55)] (λP2 e W=>∃aq:Int,∃Af:N2,∃Am:N2,((aq+2).toNat=P2)/\(e 10=.int .i64 aq)/\(Vr sO (lO (qn sO n d) 1 2) aq Af Am q)/\(aq<=(fr:Int))/\(T2.heap.size<=W.heap.size)/\(aO w W)/\(ar W w.heap.size 189 #[.int .i64 pl,S (nS sO)])/\(ar W ES.heap.size 33 #[S ((qR ((n:Nat):Int) ((d:Nat):Int)).1),S ((qR ((n:Nat):Int) ((d:Nat):Int)).2)])/\(ar W Aw.heap.size 3 #[.int .i64 fr])/\(ar W C0.heap.size 191 #[S [],S []])/\(ar W ny 191 #[S (nS ((lO (qn sO n d) 1 2).1)),S (nS ((lO (qn sO n d) 1 2).2))])/\(ar W KM.heap.size 191 #[S (nS Am.1),S (nS Am.2)])/\(ar W Q0 191 #[S (nS Af.1),S (nS Af.2)])) (((fr:Int)+2).toNat) ⟨(fr:Int),s,e1,rfl,rfl,(R4 hq),(Int.le_refl _),(qa0 _),A1,E,H,G,A0,O,EW,Ap⟩ ?_;rintro _ _ _ ⟨aq,Af,Am,rfl,ac,E0,a5,ad,A2,E,H,G,A0,O,Ao,Ab⟩;by_cases hl:0<aq;obtain⟨a,rfl,Ax,As⟩:=Gl E0 hl;have T3:=R0 Ax As;have a6:a<=fr:=J
 refine I ?_;refine clb oe (hc:=lR (T3.mono dc) U dc dc (ht.ext A2)) (hk:=?_);rintro _ _ D2 rfl;have⟨E,H,G,A0,O⟩:=kD D2.2 E H G A0 O;have⟨Ao,Ab,A2⟩:=ca D2.2 Ao Ab A2;refine SA Ao (λ_ Az Aq=>?_);have⟨E,H,G,A0,O⟩:=sG Az E H G A0 O;have⟨Ab,A2,_⟩:=j3 Az Ab A2;refine I ?_;by_cases apk:1<((a:Nat):Int);refine I ?_;refine clb og (hc:=gR hS (R1 U As) hy (ht.ext A2)) (hk:=?_);rintro _ _ B1 rfl;have⟨E,H,G,A0,O⟩:=kD B1.2 E H G A0 O;have⟨Aq,Ab,A2⟩:=ca B1.2 Aq Ab A2;refine SA Ab (λ_ CY VW=>?_);have⟨E,H,G,A0,O⟩:=sG CY E H G A0 O;have⟨Aq,A2,_⟩:=j3 CY Aq A2;refine I ?_;refine qk (I ?_);exact bF ⟨((a:Nat):Int)-2,nD sO Af (lO (qn sO n d) 1 2),lO Am a 2,rfl,rfl,(R2 U As),U,U,A2,E,H,G,A0,O,Aq,VW⟩;refine I ?_;refine qk (I ?_);exact bF ⟨((a:Nat):Int)-2,Af,lO Am a 2,rfl,rfl,(R3 Ax U As),U,U,A2,E,H,G,A0,O,Aq,Ab⟩;have Ne:=Gm E0 hl;subst Ne;refine I ?_;refine bQ 7 ?_;refine sf ?_;refine aX (V:=.agg #[S (nS ((1*sO,1*sO).1)),S (nS ((1*sO,1*sO).2))]) (λ_ _ E9 _=>?_) ?_;refine clb nZ (hc:=iN (n:=1) hS dc ka9 (ht.ext (xt A2 E9))) (hk:=?_);rintro _ _ W3 rfl;have N0:=W3.2;refine I ?_;exact fs ⟨N0,rfl⟩;refine sf ?_
 refine aX (V:=.agg #[S (nS ((wk sO Af Am).1)),S (nS ((wk sO Af Am).2))]) (λ_ _ nm _=>?_) ?_;refine clb IB (hc:=xg hS hq1 (hq2.mono dc) hm1 hm2 (ht.ext (xt A2 nm))) (hk:=?_);rintro _ _ W2 rfl;have P1:=W2.2;refine I ?_;exact fs ⟨P1,rfl⟩;refine sf ?_;intro _ _ CG _;have⟨E,H,G,A0,O⟩:=kD CG.2 E H G A0 O;have⟨Ao,Ab,A2⟩:=ca CG.2 Ao Ab A2;refine clb IH (hc:=vl h1S (GC.mono dc) (ht.ext A2)) (hk:=?_);rintro _ _ Cr rfl;have⟨E,H,G,A0,O⟩:=kD Cr.2 E H G A0 O;have⟨Ao,Ab,A2⟩:=ca Cr.2 Ao Ab A2;refine SA A0 (λ_ Av FR=>?_);have⟨E,H,G,O,Ao⟩:=sG Av E H G O Ao;have Ab:=pb Av Ab;have A2:=bi Av A2;refine I ?_;refine aW (v:=.agg #[S (ae ((BZ (1*sO,1*sO) (wk sO Af Am)).1)),S (ae ((BZ (1*sO,1*sO) (wk sO Af Am)).2))]) (ci  rfl ?_) A2 Z;refine ai (t:=6) (cs:=[S (ae ((BZ (1*sO,1*sO) (wk sO Af Am)).1)),S (ae ((BZ (1*sO,1*sO) (wk sO Af Am)).2))]) (b:=C0.heap.size) (o:=0) jr Z fK ?_ ?_;exact Z;exact aa0 FR (i:=0) Z
def QH {d fr:Nat}{r:Int×Int}(hS:Sc sO)(hp:pl<81)(h1:0<fr)(h20:fr<=20)(hh:Yz sO pl n d fr=some r)(ht:Tb w):
 CL 151 #[.agg #[.int .i64 pl,S (nS sO)],QV ((n:Nat):Int) ((d:Nat):Int),.int .i64 fr] w (aH w λv _=>v=.agg #[S (ae r.1),S (ae r.2)]):=by
 obtain⟨W,hd,A1,G,hy,s,_,p,q,hs,A0,Ab,hq,O,H,E,A2,rfl⟩:=QF hh
 rcases QG Ab with⟨ho,u,c,hsb,hu,hc,hub,hcb,rfl⟩|⟨ho,rfl⟩
 · exact M9 hS hp h1 h20 W hd A1 G hy hs A0 hsb hu hc hub hcb ho hq O H E A2 ht
 · exact Na hS hp h1 h20 W hd A1 G hy hs A0 ho hq O H E A2 ht
def BX (h:n<10^12):(bw n).length<=12:=by
 unfold bw;split
 · simp
 · rw[cN];exact(bf 10 U n 12).2 h
def QI {l m:List UInt8}(e:(l,m)=qR a b)(h:Q9 a b)(ha:a.natAbs<10^12):(((body l).length:Nat):Int)<=12:=by
 rw[show l=ae (eh a b)from congrArg Prod.fst e,gL]
 have:=BX (Nat.lt_of_le_of_lt (DK h.2.1) ha)
 omega
def QJ {l m:List UInt8}(e:(l,m)=qR a b)(h:Q9 a b)(hb:b<10^12):((m.length:Nat):Int)<=12:=by
 rw[show m=ae (dn a b)from congrArg Prod.snd e]
 have h1:=oO (n:=a) h.2.1
 have h2:=LW (n:=a) h.2.1
 unfold ae
 rw[if_neg U]
 have:=BX (n:=(dn a b).natAbs) U
 omega
def lY (pl:Nat)(a b la lb ha hb:Int):Bool:=decide ((pl:Int)<=12)&&(decide (0<=aQ (a*lb) (la*b))&&decide (aQ (a*hb) (ha*b)<=0))
def oQ {l m:List UInt8}(e:(l,m)=qR a b)(h:Q9 a b)(ha:a.natAbs<10^12)(hb:b<10^12)(ht:Tb w):
 CL 228 #[.agg #[S l,S m]] w (aH w λv w'=>v=.bool true):=by
 have h1:=QI e h ha;have h2:=QJ e h hb;refine aD func228 Z (I ?_);refine bx (λ_ W G=>?_);have E:=W.2;refine I ?_;refine cl tz (cB (eE _ _ _ (ht.ext E)) (Yw e h)) ?_;rintro _ _ H rfl;have⟨G,E⟩:=bo H.2 G E;refine I ?_;refine cl Iw (x9 _ _) ?_;rintro _ _ O rfl;have⟨G,E⟩:=bo O.2 G E;refine I ?_;refine aa (dE (l:=body l) U9 Z ?_);refine I ?_;refine aa (dE (l:=m) U9 Z ?_);refine I ?_;exact am (t:=2) (v:=.bool (decide ((((m).length:Nat):Int)<=12))) Z E (qb2 Value.bool (qa1 h2)) Z
def vV {l m l1 m1 l2 m2 l3 m3 l4 m4:List UInt8}{fu:Value}{la lb ha hb:Int}(e:(l,m)=qR a b)(h:Q9 a b)(ha12:a.natAbs<10^12)(hb12:b<10^12)(e1:(l1,m1)=qR la lb)(q1:Q9 la lb)(e2:(l2,m2)=qR ha hb)(q2:Q9 ha hb)(hu:fu.cells=#[fu])(ht:Tb w):
 CL 199 #[.agg #[S l1,S m1,S l2,S m2,S l3,S m3,S l4,S m4,fu],.agg #[S l,S m],.int .i64 pl] w (aH w λv w'=>v=.bool (lY pl a b la lb ha hb)):=by
 refine aD func199 Z (I ?_);refine bx (λ_ Ab G=>?_);have E:=Ab.2;refine bx (λ_ Am H=>?_);have⟨G,E⟩:=bo Am.2 G E;refine I ?_;by_cases cx:0<=(pl:Int);by_cases cm:(pl:Int)<=12;by_cases cw:0<=(aQ (a*lb) (la*b));refine I ?_;refine cl Ch (oQ e h ha12 hb12 (ht.ext E)) ?_;rintro _ _ A2 rfl;have⟨G,H,E⟩:=ca A2.2 G H E;refine I ?_;refine cl o6 (vL e e1 h q1 (ht.ext E)) ?_;rintro _ _ O rfl;have⟨G,H,E⟩:=ca O.2 G H E;refine I ?_;refine cl o6 (vL e e2 h q2 (ht.ext E)) ?_;rintro _ _ A1 rfl;have E:=xt E A1.2;refine I ?_;exact am (t:=6) (v:=.bool (decide ((aQ (a*hb) (ha*b))<=0))) Z E (by unfold lY;rw[decide_eq_true cm];rw[decide_eq_true cw];first|rfl|simp) Z;refine I ?_;refine cl Ch (oQ e h ha12 hb12 (ht.ext E)) ?_;rintro _ _ Af rfl;have⟨G,H,E⟩:=ca Af.2 G H E;refine I ?_;refine cl o6 (vL e e1 h q1 (ht.ext E)) ?_;rintro _ _ W rfl;have E:=xt E W.2;refine I ?_;exact am (t:=6) (v:=.bool false) Z E (by unfold lY;rw[decide_eq_true cm];rw[decide_eq_false cw];first|rfl|simp) Z;refine I ?_;refine cl Ch (oQ e h ha12 hb12 (ht.ext E)) ?_;rintro _ _ A0 rfl;have E:=xt E A0.2;refine I ?_;exact am (t:=6) (v:=.bool false) Z E (by unfold lY;rw[decide_eq_false cm];first|rfl|simp) Z;omega
end Go.Proofs.YtlmihmlnpjkblaaGreatDoor
