/- Part of the proof of a statement about an adjustment. -/
import Derived.Test.YtlmihmlnpjkblaaGreatDoorLin13ToLa2G
set_option linter.all false
namespace Go.Proofs.YtlmihmlnpjkblaaGreatDoor
open Go Go.Eng Go.RowKit Tryz
variable {a u s d:Int}{lb:List Value}{b n N D N' D' lo lo' i k C CY CB lo2 lo3 CX lo4 gf b2 pl sO:Nat}{H G F:Nat->Value}{A Y B X:Option Addr}{v:Value}{W W' w w':World}
section
def qv (a:R):Rat:=(ai a.1:Rat)/(ai a.2:Rat)
def Pg {a:R}(h:bN a=true):Int.gcd (ai a.1) (ai a.2)=1:=by
 have h1:=js h
 have h2:=gF h
 simp only[bN,Bool.and_eq_true,decide_eq_true_eq]at h
 have h3:=h.2
 unfold bT bj at h3
 rw[h1,h2,Bool.and_self,if_pos Z]at h3
 split at h3
 · have h4:ae ((Int.gcd (ai a.1) (ai a.2):Nat):Int)=ae 1:=by
    have:ae 1=[49]:=by decide +kernel
    rw[this];exact qb5 h3
   have:=mU h4
   omega
 · cases h3
def mL {b:Int}(h:(a:Rat)=b):a=b:=by simpa using h
def dU (h:a≠0):(a:Rat)≠0:=λe=>h (mL (by simpa using e))
def hH {a:R}(h:bN a=true):(ai a.2:Rat)≠0:=dU (by have:=c7 h;omega)
def uQ {a:R}(h:bN a=true)(hs:s≠0)(hq:qv a=(u:Rat)/(s:Rat)):ai a.1*s=u*ai a.2:=by
 have h1:=hH h
 have h2:=dU hs
 unfold qv at hq
 refine mL ?_
 rw[Rat.intCast_mul,Rat.intCast_mul]
 grind
def uS {b c:Int}(h:a∣b*c)(hg:Int.gcd a c=1):a∣b:=by
 have h1:a.natAbs∣b.natAbs*c.natAbs:=by rw[<-Int.natAbs_mul];exact Int.natAbs_dvd_natAbs.2 h
 exact Int.natAbs_dvd_natAbs.1 (Nat.Coprime.dvd_of_dvd_mul_right (show Nat.Coprime a.natAbs c.natAbs from hg) h1)
def Pi {a:R}(h:bN a=true)(hs:s≠0)(hq:qv a=(u:Rat)/(s:Rat)):ai a.1∣u/\ai a.2∣s:=by
 have hc:=uQ h hs hq
 have E:=Pg h
 constructor
 · exact uS (c:=ai a.2) ⟨s,by rw[<-hc]⟩ E
 · exact uS (c:=ai a.1) ⟨u,by rw[Int.mul_comm,hc,Int.mul_comm]⟩ (by rw[Int.gcd_comm];exact E)
def kZ {b:Int}(hb:b≠0)(h:a∣b):a.natAbs<=b.natAbs:=Nat.le_of_dvd U (Int.natAbs_dvd_natAbs.2 h)
def Uy {a:R}(h:bN a=true)(hs:s≠0)(hq:qv a=(u:Rat)/(s:Rat)):(ai a.1).natAbs<=u.natAbs:=by
 by_cases hu:u=0
 · have:=uQ h hs hq
   subst hu
   have E:ai a.1*s=0:=by rw[this];simp
   rcases Int.mul_eq_zero.1 E with e|e
   · rw[e];simp
   · exact absurd e hs
 · exact kZ hu (Pi h hs hq).1
def Uz {a:R}(h:bN a=true)(hs:s≠0)(hq:qv a=(u:Rat)/(s:Rat)):(ai a.2).natAbs<=s.natAbs:=kZ hs (Pi h hs hq).2
def uT {a b:R}(ha:bN a=true)(hb:bN b=true)(h:qv a=qv b):a=b:=by
 have E:=c7 ha
 have pb:=c7 hb
 have h1:=Pi ha (u:=ai b.1) (s:=ai b.2) U h
 have h2:=Pi hb (u:=ai a.1) (s:=ai a.2) U h.symm
 have e2:ai a.2=ai b.2:=Int.dvd_antisymm U U h1.2 h2.2
 have hc:=uQ ha (u:=ai b.1) (s:=ai b.2) U h
 rw[e2]at hc
 have e1:ai a.1=ai b.1:=Int.eq_of_mul_eq_mul_right U hc
 exact Prod.ext (tV (js ha) (js hb) e1) (tV (gF ha) (gF hb) e2)
def mM:qv z0=0:=by
 unfold qv z0;rw[show ai [48]=0 by decide +kernel];simp;grind
def Rq:qv o1=1:=by
 unfold qv o1;rw[show ai [49]=1 by decide +kernel];simp;grind
def Pj {a:R}(h:bN a=true):qv a=0↔a=z0:=
 ⟨λe=>uT h uk (by rw[e];exact mM.symm),λe=>by rw[e];exact mM⟩
def uW {n:Int}(hd:d≠0){q:R}(h:il n d=some q):qv q=(n:Rat)/(d:Rat):=by
 unfold il at h
 rw[if_neg hd]at h
 cases h
 unfold qv
 rw[aG,aG]
 unfold ei dm
 have O:0<Int.gcd n d:=Int.gcd_pos_of_ne_zero_right _ hd
 obtain⟨g,hgg⟩:∃g:Nat,Int.gcd n d=g:=⟨_,rfl⟩
 rw[hgg]at O ⊢
 obtain⟨x,hx⟩:(g:Int)∣n:=by rw[<-hgg];exact Int.gcd_dvd_left ..
 obtain⟨y,hy⟩:(g:Int)∣d:=by rw[<-hgg];exact Int.gcd_dvd_right ..
 have E:(g:Int)≠0:=J
 have A0:y≠0:=λe=>hd (by rw[hy,e];simp)
 have q1:=dU E
 have A1:=dU A0
 by_cases hs:d<0
 · rw[if_pos hs,if_pos hs,hx,hy,<-Int.mul_neg,<-Int.mul_neg,Int.mul_ediv_cancel_left _ E,Int.mul_ediv_cancel_left _ E]
   rw[Rat.intCast_mul,Rat.intCast_mul,Rat.intCast_neg,Rat.intCast_neg]
   grind
 · rw[if_neg hs,if_neg hs,hx,hy,Int.mul_ediv_cancel_left _ E,Int.mul_ediv_cancel_left _ E]
   rw[Rat.intCast_mul,Rat.intCast_mul]
   grind
def pZ {n:Int}(hd:d≠0)(h1:fits n=true)(h2:fits d=true):∃q,im n d=some q/\bN q=true/\qv q=(n:Rat)/(d:Rat):=by
 unfold im
 rw[h1,h2,Bool.and_self,if_pos Z]
 cases h:il n d with
 |none=>unfold il at h;rw[if_neg hd]at h;cases h
 |some q=>exact⟨q,rfl,uw h1 h2 h,uW hd h⟩
def Hi {n:Int}{q:R}(h:im n d=some q):fits n=true/\fits d=true:=by
 unfold im at h
 cases h1:fits n <;>cases h2:fits d <;>simp[h1,h2]at h ⊢
def dZ:Nat:=10^200
def gI {n:Int}(h:n.natAbs<=b)(hb:b<dZ):fits n=true:=by unfold fits;exact qa1 (Nat.lt_of_le_of_lt h hb)
structure Bq (a:R)(x:Rat)(N D:Nat):Prop where
 ok:bN a=true
 eq:qv a=x
 num:(ai a.1).natAbs<=N
 den:(ai a.2).natAbs<=D
def Bq.of {a:R}(h:bN a=true)(hs:s≠0)(hq:qv a=(u:Rat)/(s:Rat))(hu:u.natAbs<=N)(hd:s.natAbs<=D):Bq a ((u:Rat)/(s:Rat)) N D:=
 ⟨h,hq,qa8 (Uy h hs hq) hu,qa8 (Uz h hs hq) hd⟩
def p0 {a b:R}{x y:Rat}(ha:Bq a x N D)(hb:Bq b y N' D')(h1:N*N'<dZ)(h2:D*D'<dZ):∃q,gj a b=some q/\bN q=true/\qv q=x*y:=by
 have E:=c7 ha.ok
 have p2:=c7 hb.ok
 obtain⟨q,e,ok,hv⟩:=pZ (n:=ai a.1*ai b.1) (d:=ai a.2*ai b.2) (Int.ne_of_gt (Int.mul_pos E p2))
  (gI (b:=N*N') (by rw[Int.natAbs_mul];exact qb9 ha.num hb.num) h1) (gI (b:=D*D') DQ h2)
 refine⟨q,by unfold gj;rw[ha.ok,hb.ok,Bool.and_self,if_pos Z];exact e,ok,?_⟩
 rw[hv,<-ha.eq,<-hb.eq,Rat.intCast_mul,Rat.intCast_mul]
 unfold qv
 have q1:=hH ha.ok
 have O:=hH hb.ok
 grind
def AW {a b:R}{x y:Rat}(ha:Bq a x N D)(hb:Bq b y N' D')(h0:y≠0)(h1:N*D'<dZ)(h2:D*N'<dZ):∃q,mF a b=some q/\bN q=true/\qv q=x/y:=by
 have O:=c7 ha.ok
 have q1:=hH ha.ok
 have A1:=hH hb.ok
 have E:ai b.1≠0:=λe=>h0 (by rw[<-hb.eq];unfold qv;rw[e];simp;grind)
 have A0:=dU E
 obtain⟨q,e,ok,hv⟩:=pZ (n:=ai a.1*ai b.2) (d:=ai a.2*ai b.1) (λe=>by rcases Int.mul_eq_zero.1 e with e|e <;>omega)
  (gI (b:=N*D') (by rw[Int.natAbs_mul];exact qb9 ha.num hb.den) h1) (gI (b:=D*N') (by rw[Int.natAbs_mul];exact qb9 ha.den hb.num) h2)
 refine⟨q,by unfold mF;rw[ha.ok,hb.ok,Bool.and_self,if_pos Z];exact e,ok,?_⟩
 rw[hv,<-ha.eq,<-hb.eq,Rat.intCast_mul,Rat.intCast_mul]
 unfold qv
 grind
def uX {a b:R}{x y:Rat}(ha:Bq a x N D)(hb:Bq b y N' D')(h1:N*D'+N'*D<dZ)(h2:D*D'<dZ):∃q,dE a b=some q/\bN q=true/\qv q=x-y:=by
 have E:=c7 ha.ok
 have p2:=c7 hb.ok
 have f1:(ai a.1*ai b.2).natAbs<=N*D':=by rw[Int.natAbs_mul];exact qb9 ha.num hb.den
 have f2:(ai b.1*ai a.2).natAbs<=N'*D:=by rw[Int.natAbs_mul];exact qb9 hb.num ha.den
 obtain⟨q,e,ok,hv⟩:=pZ (n:=ai a.1*ai b.2-ai b.1*ai a.2) (d:=ai a.2*ai b.2) (Int.ne_of_gt (Int.mul_pos E p2))
  (gI (b:=N*D'+N'*D) U h1) (gI (b:=D*D') DQ h2)
 refine⟨q,by unfold dE;rw[ha.ok,hb.ok,Bool.and_self,if_pos Z,gI f1 U,gI f2 U,Bool.and_self,if_pos Z];exact e,ok,?_⟩
 rw[hv,<-ha.eq,<-hb.eq,Rat.intCast_mul,Rat.intCast_sub,Rat.intCast_mul,Rat.intCast_mul]
 unfold qv
 have q1:=hH ha.ok
 have O:=hH hb.ok
 grind
def Ll {a b:R}{x y:Rat}(ha:Bq a x N D)(hb:Bq b y N' D')(h1:N*D'+N'*D<dZ)(h2:D*D'<dZ):∃q,jR a b=some q/\bN q=true/\qv q=x+y:=by
 have E:=c7 ha.ok
 have p2:=c7 hb.ok
 have f1:(ai a.1*ai b.2).natAbs<=N*D':=by rw[Int.natAbs_mul];exact qb9 ha.num hb.den
 have f2:(ai b.1*ai a.2).natAbs<=N'*D:=by rw[Int.natAbs_mul];exact qb9 hb.num ha.den
 obtain⟨q,e,ok,hv⟩:=pZ (n:=ai a.1*ai b.2+ai b.1*ai a.2) (d:=ai a.2*ai b.2) (Int.ne_of_gt (Int.mul_pos E p2))
  (gI (b:=N*D'+N'*D) U h1) (gI (b:=D*D') DQ h2)
 refine⟨q,by unfold jR;rw[ha.ok,hb.ok,Bool.and_self,if_pos Z,gI f1 U,gI f2 U,Bool.and_self,if_pos Z];exact e,ok,?_⟩
 rw[hv,<-ha.eq,<-hb.eq,Rat.intCast_mul,Rat.intCast_add,Rat.intCast_mul,Rat.intCast_mul]
 unfold qv
 have q1:=hH ha.ok
 have O:=hH hb.ok
 grind
end
section
attribute [local irreducible] wpListIn Code.wpIn Oper.wpIn Exit.then Exit.inBlock Exit.noGoto
set_option maxHeartbeats 40000000
section
variable {P:Program}{r:Option Nat}{e:Nat->Value}{ds:List Deferred}{Q:Exit->Act->World->Prop}{K:Act->World->Prop}
variable {d ty:Nat}{pos:String}{af:Array Edge}{g:Option (Nat×Bool)}{u:Value}{x y:Operand}{t t':TypeId}
def Xu {k:IntKind}{b m:Int}{ats:Array TypeId}(hx:ev N e x=.int k a)(hy:ev N e y=.int k b)(hm:(if b<a then b else a)=m)(hk:K (act N (upd e d (.int k m)) ds) w):
 Oper.wpIn (Fw r) n P ⟨some d,.call {callee:=.builtin .min,args:=#[x,y],argTypes:=ats},ty,pos,af,g⟩ (act N e ds) w K Q:=
 cW (v:=.int k m) (w':=w) Z (by subst hm;simp[execOp,resolve,invoke,builtin,Builtin.min_,hx,hy,Builtin.min2,List.foldlM]) Hx
end
structure Yz (W:World)(A:Option Addr)(n:Nat)(H:Nat->Value)(L:Rows):Prop where
 cell:∀{i},i<n->A=some ⟨aO A,cL A,none⟩/\W.cell? ⟨aO A,cL A+i,none⟩=some (.slice (sA (H i)) (L i).length (sC (H i)))
 elem:∀{i k},i<n->k<(L i).length->sA (H i)=some ⟨aO (sA (H i)),cL (sA (H i)),none⟩/\∀j u,[S (ap (L i) k).1,S (ap (L i) k).2][j]?=some u->W.cell? ⟨aO (sA (H i)),cL (sA (H i))+k*2+j,none⟩=some u
def Yz.ext {L:Rows}(k:aN W W')(h:Yz W A n H L):Yz W' A n H L:=
 ⟨λhi=>⟨(h.cell hi).1,k.cell (h.cell hi).2⟩,λhi hk=>⟨(h.elem hi hk).1,λj u hu=>k.cell ((h.elem hi hk).2 j u hu)⟩⟩
def Mt.z {L:Rows}(h:Mt W lo A n H L):Yz W A n H L:=⟨λhi=>h.cell hi,λhi hk=>h.elem hi hk⟩
def YA (n:Nat)(L:Rows):Prop:=n<=9/\∀i,i<n->(L i).length<=9/\∀k,k<(L i).length->C9 (ap (L i) k)
def YA.bd {L:Rows}(h:YA n L):Bd n L:=⟨by have:=h.1;omega,λi hi=>⟨by have:=(h.2 i hi).1;omega,(h.2 i hi).2⟩⟩
def Xv (l:List R):Prop:=l.length<=9/\∀k,k<l.length->C9 (ap l k)
def Xv.bd {l:List R}(h:Xv l):Z8 l:=⟨by have:=h.1;omega,h.2⟩
def AX (lo:Nat)(w:World)(v:Value)(l:List R):Prop:=∃P cp,v=.slice P l.length cp/\l.length<=cp/\Rw w lo P (ag l)
def AY {l:List R}(h:w.ownsRow lo 33 2 v l.length (ag l))(hl:lo'<=lo):AX lo' w v l:=⟨sA v,sC v,dr h,kj h,(ek h).mono hl⟩
def Lm {o:Option R}(ho:o.isSome=true)(h:∀q,o=some q->bN q=true):bN (rN o,rD o)=true:=by
 cases o with
 |none=>cases ho
 |some q=>exact h q Z
def Ln {n d:List UInt8}(hn:isInt n=true)(hd:isInt d=true)(h0:ai d≠0):(qS n d).isSome=true:=by
 unfold qS;rw[hn,hd,Bool.and_self,if_pos Z];unfold il;rw[if_neg h0];rfl
def iI (h:-1000<=a/\a<=1000):fits a=true:=by
 unfold fits
 have h2:a.natAbs<=1000:=J
 have h3:(1000:Nat)<10^200:=by decide +kernel
 first|(exact qa1 U)|(simp;omega)
def UA {b:Int}(ha:-1000<=a/\a<=1000)(hb:-1000<=b/\b<=1000)(h0:b≠0):bN (rN (qS (ae a) (ae b)),rD (qS (ae a) (ae b)))=true:=
 Lm (Ln (bu (iI ha)) (bu (iI hb)) (by rw[aG];exact h0)) (λq hq=>Oy hq)
def sU {l:List R}{f:Nat->R}(hl:l.length=i)(h:∀j,j<i->ap l j=f j):∀j,j<i+1->ap (l++[f i]) j=f j:=λj E=>by
 by_cases e:j<i
 · rw[jY U];exact h j e
 · rw[kW U,show j=i by omega,hl,Nat.sub_self];rfl
def bM (a b:Int):R:=(rN (qS (ae a) (ae b)),rD (qS (ae a) (ae b)))
def SmR (q:R):Prop:=bN q=true/\(-8<=ai q.1/\ai q.1<=8)/\ai q.2<=3
def SmR.len {q:R}(h:SmR q):C9 q:=sM h.1
def Lo {P:R->Prop}{l:List R}{q:R}(hl:l.length=k)(h:∀j,j<k->P (ap l j))(hq:P q):∀j,j<k+1->P (ap (l++[q]) j):=λj E=>by
 by_cases e:j<l.length
 · rw[jY e];exact h j U
 · rw[kW e,show j-l.length=0 by omega];exact hq
set_option maxRecDepth 100000
def Lp (a:R)(w:World)(ht:Tb w):
 CL 76 #[.agg #[S ((a).1),S ((a).2)]] w (aH w λv w'=>v=.bool (!bN a)):=by
 refine aC func76 Z (I ?_);refine bx (λ_ O _=>?_);have E:=O.2;refine I ?_;refine cl tj (eE _ _ _ (ht.ext E)) ?_;rintro _ _ A0 rfl;have E:=xt E A0.2;refine I ?_;exact am (t:=2) (v:=.bool (!(bN a))) Z E Z Z
def UB (ys:List R)(h:ys.all bN=true):decide (em (λk=> !bN (ap ys k)) ys.length 0<ys.length)=false:=by
 have h1:=E3 ys
 rw[h]at h1
 cases e:decide (em (λk=>!bN (ap ys k)) ys.length 0<ys.length)with
 |false=>rfl
 |true=>rw[e]at h1;cases h1
def iJ {L V:Rows}{ys:List R}(hM:Mt w lo A ys.length H L)(hB:Bd ys.length L)(hy:Rw w lo2 Y (ag ys))(hV:Mt w lo3 B ys.length G V)(hB3:Bd ys.length V)(hcb:ys.length<=CB)(hv:vM ys.length L=true)(hv3:vM ys.length V=true)(hVl:(V 0).length=ys.length)(hLl:(L 0).length<=ys.length)(hyo:ys.all bN=true)(hp:pR ys.length V=some true)(ht:Tb w):
 CL 32 #[.agg #[.slice A ys.length C,.slice Y ys.length CY,.slice B ys.length CB]] w (aH w λv w'=>v=.bool true):=by
 have Ap:=(jc hv).1;have Aq:=(jc hv).2.1;refine aC func32 Z (I ?_);refine bx (λ_ Am O=>?_);have E:=Am.2;refine I ?_;refine cl tg (no (Y:=.bool true) (val_ok (hM.ext E) hB (ht.ext E)) (qb2 Value.bool hv)) ?_;rintro _ _ Af rfl;have⟨O,E⟩:=bw Af.2 O E;refine I ?_;refine cl tg (no (Y:=.bool true) (val_ok (hV.ext E) hB3 (ht.ext E)) (qb2 Value.bool hv3)) ?_;rintro _ _ Ab rfl;have⟨O,E⟩:=bw Ab.2 O E;have A0:=aa6 (hV.ext E) (i:=0) U;refine I ?_;refine eI A0 ?_ (i:=0);have A2:=aa6 (hM.ext E) (i:=0) U;refine I ?_;refine eI A2 ?_ (i:=0);refine I ?_;refine clb VV (hc:=no (Y:=.bool false) (Kv (lb:=[]) (p:=λk=>!bN (ap ys k)) (hy.ext E) SJ (λi W hi hE=>Lp _ _ (ht.ext (xt E hE))) U) (qb2 Value.bool (UB ys hyo))) (hk:=?_);rintro _ _ Ao rfl;have⟨O,E⟩:=bw Ao.2 O E;refine I ?_;refine cl YG (no (Y:=.tuple #[.bool true,.int .i64 0]) (Pb (hV.ext E) hB3 hcb (ht.ext E)) (qb2 G5 hp)) ?_;rintro _ _ A1 rfl;have E:=xt E A1.2;refine I ?_;exact am (t:=2) (v:=.bool (decide (0=0))) Z E Z Z
def wS {l l':List R}(h:l.length=l'.length)(e:∀k,k<l.length->ap l k=ap l' k):l=l':=List.ext_getElem h λk h1 h2=>by have:=e k h1;rwa [eu h1,eu h2]at this
def Lq {L:Rows}{xs:List R}(hM:Mt w lo A n H L)(hl:∀i,i<n->0<(L i).length)(hxl:xs.length=n)(hx:∀i,i<n->ap xs i=ap (L i) 0)(hn:n<=8):
 CL 94 #[.slice A n C] w (aH w λv w'=>AX w.heap.size w' v xs):=by
 refine aC func94 Z (I ?_);have Ap:World.ownsRow w w.heap.size 33 2 (.slice none 0 0) 0 (ag []):=bO;have Ar:=aa0 w;refine ck [(2,2),(4,4),(7,17)] (λAq e W=>∃i:Nat,∃A0:List R,∃O:Value,(n-i=Aq)/\(e 7=.int .i64 i)/\(e 2=O)/\(i<=n)/\(A0.length=i)/\(∀j,j<i->ap A0 j=ap (L j) 0)/\(w.heap.size<=W.heap.size)/\(aN w W)/\(W.ownsRow w.heap.size 33 2 O A0.length (ag A0))) (n-0) ⟨0,[],.slice none 0 0,rfl,rfl,rfl,(qa7 _),rfl,(λj _=>by omega),(qa0 _),Ar,Ap⟩ ?_;rintro _ _ _ ⟨i,A0,O,rfl,B0,Ab,hi_i,hal_ac,A2,Ay,E,A1⟩;by_cases hli:i<n;have Az:=hl i hli;have Aw:=aa6 (hM.ext E) (i:=(i)) U;refine I ?_;refine eI Aw (I ?_);refine aa (aY (v:=O) Ab ?_);have Ax:=ac5 (hM.ext E) (i:=(i)) (k:=0) U U;refine I ?_;refine jv Ax ?_ (i:=0);refine I ?_;refine BS (λ_ Am _ Av=>?_);have A1:=ab Am A1;have E:=xt E Am;refine AP A1 (ab0 Av) (λAo _ As Af _=>?_);have E:=bB A1 U U E Af;have od:=Af.size;refine aa (aJ (v:=Ao) Z ?_);refine I ?_;refine gR (I ?_);exact bJ ⟨i+1,A0++[ap (L i) 0],Ao,rfl,rfl,rfl,U,q4,(sU (f:=λj=>ap (L j) 0) hal_ac A2),U,E,(aP As zd (du _ _))⟩;refine I ?_;refine aa (aY (v:=O) Ab ?_)
 refine aa (aJ (v:=O) Z ?_);refine I ?_;exact am (t:=2) (v:=O) Z E (by have e:A0=xs:=wS U (λk _=>by rw[A2 k U,hx k U]);subst e;exact(AY A1 U)) Z
set_option maxRecDepth 100000 in
def AZ {L V:Rows}{ys:List R}(hM:Mt w lo A ys.length H L)(hB:Bd ys.length L)(hy:Rw w lo2 Y (ag ys))(hV:Mt w lo3 B ys.length G V)(hB3:Bd ys.length V)(hcb:ys.length<=CB)(hv:vM ys.length L=true){K:Rows}(hX:Mt w lo4 X k F K)(hB4:Bd k K){P:Rows}{rs:List R}(eP:dM ys.length L k K=some P)(hBP:Bd ys.length P)(hPl:∀i,i<ys.length->0<(P i).length)(hrl:rs.length=ys.length)(hr:∀i,i<ys.length->dE (ap ys i) (ap (P i) 0)=some (ap rs i))(ht:Tb w):
 CL 60 #[.agg #[.slice A ys.length C,.slice Y ys.length CY,.slice B ys.length CB],.slice X k CX] w (aH w λv w'=>AX w.heap.size w' v rs):=by
 have bY:=(jc hv).2.1;refine aC func60 Z (I ?_);refine bx (λES P0 Ar=>?_);have Aq:=P0.2;refine I ?_;refine cl lh (jA (hM.ext Aq) hB (hX.ext Aq) hB4 eP (ht.ext Aq)) ?_;rintro _ Am T2 ⟨EW,T3,E9,rfl,W1,L4⟩;have⟨Ar,Aq⟩:=bw T2.2 Ar Aq;have Av:=ab6 L4;refine I ?_;have No:World.ownsRow Am Am.heap.size 33 2 (.slice none 0 0) 0 (ag []):=bO;refine ck [(4,6),(13,34)] (λLa e W=>∃i:Nat,∃A2:List R,∃A1:Value,(ys.length-i=La)/\(e 13=.int .i64 i)/\(e 4=A1)/\(i<=ys.length)/\(A2.length=i)/\(∀j,j<i->ap A2 j=ap rs j)/\(Am.heap.size<=W.heap.size)/\((A1).ownBlock≠some w.heap.size)/\(aN w W)/\(ar W w.heap.size 82 #[.slice A ys.length C,.slice Y ys.length CY,.slice B ys.length CB])/\(oG W ES.heap.size Am.heap.size EW ys.length E9 P)/\(W.ownsRow Am.heap.size 33 2 A1 A2.length (ag A2))) (ys.length-0) ⟨0,[],.slice none 0 0,rfl,rfl,rfl,(qa7 _),rfl,(λj _=>by omega),(qa0 _),(λe=>by cases e),Aq,Ar,Av,No⟩ ?_;rintro _ _ Cr ⟨i,A2,A1,rfl,a0,FR,hi_i,hal_ac,GC,cb,E6,E,Ar,Av,H2⟩;by_cases hli:i<ys.length;have a4:=hPl i hli;have H3:=aa6 (Av).mt (i:=(i)) U;refine I ?_;refine eI H3 (I ?_);have As:=ac3 Cr
 refine xK 15 (λls e W=>∃O:Nat,(aN w W)/\(Cr.heap.size<=W.heap.size)/\(ls 14=true->e 32=.slice (some ⟨O,0,none⟩) 1 1)/\(ls 14=true->Cr.heap.size<=O/\O<W.heap.size)/\(ar W w.heap.size 82 #[.slice A ys.length C,.slice Y ys.length CY,.slice B ys.length CB])/\(oG W ES.heap.size Am.heap.size EW ys.length E9 P)/\(W.ownsRow Am.heap.size 33 2 A1 A2.length (ag A2))/\(ls 14=true->(World.ownsRow W O 33 2 (.slice (some ⟨O,0,none⟩) 1 1) 1 [S ((ap rs i).1),S ((ap rs i).2)]))) ⟨0,(xt E As),(bz As),(ff Z),(ff Z),(be As Ar),(aa7 As Av),(ab As H2),(λh=>ff Z h)⟩ ?_;refine dk (λcc a3 VW _ b0 bd _=>by refine aa (aY (v:=A1) FR ?_);refine I ?_;exact aK) ?_;refine sf ?_;refine dk (λVm X0 bq _ Ne V0 _=>by obtain⟨_,_,_,_,_,Ab,_⟩:=Ne;refine I ?_;exact aK) ?_;refine sf ?_;refine dk (λbp cT W2 _ S9 a5 _=>by obtain⟨_,E,_⟩:=S9;have K3:=aV (hy.ext E) (k:=(i)) U;refine I ?_;refine jv K3 ?_;refine I ?_;exact aK) ?_;refine dk (λa8 cV Wa _ Lj W3 _=>by obtain⟨_,E,_⟩:=Lj;have bZ:=aV (hy.ext E) (k:=(i)) U;refine I ?_;exact aK) ?_;refine sf ?_;refine dk (λbb a2 WV _ L1 X2 _=>by obtain⟨_,_,_,_,_,_,A0,_⟩:=L1;have KM:=ac5 (A0).mt (i:=(i)) (k:=0) U U;refine I ?_;refine jv KM ?_ (i:=0);refine I ?_;exact aK) ?_
 refine dk (λbW c9 ad _ KC a6 _=>by obtain⟨_,_,_,_,_,_,A0,_⟩:=KC;have W0:=ac5 (A0).mt (i:=(i)) (k:=0) U U;refine I ?_;exact aK) ?_;refine I8 (V:=.tuple #[.agg #[S ((ap rs i).1),S ((ap rs i).2)],.int .i64 0]) (λ_ _ _ P2 E7 P1 _=>?_) ?_;obtain⟨O,E,CG,Ao,Ap,Ab,A0,Af,Aw⟩:=P2;have B1:=Ab;have E5:=A0;have wr:=Af;refine cl Ea (J1 (ap ys i) (ap (P i) 0) _ (ht.ext E)) ?_;rintro _ _ Ax hv;have B1:=be Ax.2 B1;have E5:=aa7 Ax.2 E5;have wr:=ab Ax.2 wr;have E:=xt E Ax.2;rw[hr i hli]at hv;subst hv;refine I ?_;exact fs ⟨rfl,O,E,U,Ao,(λx=>by have:=Ap x;omega),B1,E5,wr,(λQ0=>ff (aT E7 (i:=13) (j:=14) Z (aT E7 (i:=10) (j:=13) Z P1)) Q0)⟩;refine sf ?_;refine I8 (V:=.agg #[S ((ap rs i).1),S ((ap rs i).2)]) (λ_ _ _ Lk N0 Kp _=>?_) ?_;obtain⟨O,E,CG,Ao,Ap,Ab,A0,Af,Aw⟩:=Lk;have ny:=Ab;have C0:=A0;have D2:=Af;refine cl qB kY ?_;rintro _ _ od rfl;have ny:=be od.2 ny;have C0:=aa7 od.2 C0;have D2:=ab od.2 D2;have E:=xt E od.2;refine I ?_;exact fs ⟨rfl,O,E,U,Ao,(λx=>by have:=Ap x;omega),ny,C0,D2,(λH4=>ff (aT N0 (i:=13) (j:=14) Z Kp) H4)⟩;refine gE (λ_ Ix _ S0 _ _ _=>?_) ?_;obtain⟨O,E,CG,Ao,Ap,Ab,A0,Af,Aw⟩:=S0;have B0:=Ab;have E1:=A0;have E4:=Af;refine BS (λ_ nm _ Rm=>?_)
 have B0:=be nm B0;have E1:=aa7 nm E1;have E4:=ab nm E4;have E:=xt E nm;refine I ?_;exact fs ⟨Ix.heap.size,E,U,(λ_=>rfl),(λ_=>⟨by omega,by omega⟩),B0,E1,E4,(λ_=>Rm)⟩;refine sf ?_;rintro K2 _ _ D1 ⟨O,E,CG,Ao,Ap,Ab,A0,Af,Aw⟩;have a9:=bz E;have ac:=Ap (D1 14 Z);have Ay:=Ab;have E0:=A0;have B2:=Af;have KY:=Aw (D1 14 Z);have bv:K2 32=.slice (some ⟨O,0,none⟩) 1 (1):=(Ao (D1 14 Z));refine AP B2 (ab0 KY) (λG0 _ L3 Az Li=>?_);have L2:=aS Li E6 (bt Ay);have Ay:=aa3 Az (λe=>E6 e.symm) Ay;have E0:=oG.gr Az (λg e=>by have:=aR B2 _ e;omega) E0;have E:=bB B2 U U E Az;have an:=Az.size;refine aa (aJ (v:=G0) Z ?_);refine I ?_;refine gR (I ?_);exact bJ ⟨i+1,A2++[ap rs i],G0,rfl,rfl,rfl,U,q4,(sU (f:=λj=>ap rs j) hal_ac GC),U,L2,E,Ay,E0,(aP L3 zd (du _ _))⟩;refine I ?_;refine aa (aY (v:=A1) FR ?_);refine aa (aJ (v:=A1) Z ?_);refine I ?_;exact am (t:=4) (v:=A1) Z E (by have e:A2=rs:=wS U (λk _=>GC k U);subst e;exact(AY H2 U)) Z
def oN (n:Nat)(o:Option Rows):Nat:=if o.isSome then n else 0
def oR (o:Option Rows):Rows:=o.getD pI
def oV (o:Option (List R×Bool)):List R:=(o.map (·.1)).getD []
def oB (o:Option (List R×Bool)):Bool:=(o.map (·.2)).getD false
def nj.get {o:Option Rows}(h:nj lo w n o v):
 ∃A C H,v=.tuple #[.slice A (oN n o) C,.int .i64 (Vk o.isSome)]/\Mt w lo A (oN n o) H (oR o):=by
 cases o with
 | none=>
   obtain⟨A,C,H,e,_,m⟩:=@AI lo w pI
   cases e;cases h
   exact⟨none,0,H,rfl,m⟩
 |some K=>obtain⟨u,rfl,A,C,H,rfl,_,m⟩:=h;exact⟨A,C,H,rfl,m⟩
def Xl.get {o:Option (List R×Bool)}(h:Xl lo w o v):
 ∃P cp,v=.tuple #[.slice P (oV o).length cp,.bool (oB o),.int .i64 (Vk o.isSome)]/\Rw w lo P (ag (oV o)):=by
 cases o with
 |none=>cases h;exact⟨none,0,rfl,Rw.nil w lo⟩
 |some x=>obtain⟨x,q⟩:=x;exact h
def Lr {m:Nat}{L:Rows}(h:gk n m L)(hn:n<=1000000)(hm:m<=1000000):Bd n L:=⟨hn,λi hi=>⟨by rw[(h i hi).1];exact hm,λk hk=>sM ((h i hi).2 k (by rw[<-(h i hi).1];exact hk))⟩⟩
def yC {L:Rows}:Bd 0 L:=⟨by omega,λi hi=>by omega⟩
def Hj {l:List R}:ap (l.drop n) k=ap l (n+k):=by unfold ap;simp[List.getD,List.getElem?_drop]
def Pk {n:Nat}{L:Rows}:Bd (oN n (eY n L)) (oR (eY n L)):=by
 cases e:eY n L with
 |none=>exact yC
 | some K=>
   unfold eY at e
   split at e
   · rename_i hs
     obtain⟨hv,E⟩:=nH hs
     have hb:=m8 hv
     rw[<-E]at hb
     cases he:elim n (n+n) n (jX n L)with
     |none=>rw[he]at e;cases e
     | some s=>
       rw[he]at e
       simp only[Option.bind_some,yp]at e
       split at e
       · cases e
       · cases e
         have ho:=(pM hb U he).1
         have O:=hv.2.1
         exact Lr (n:=n) (m:=n) (λi hi=>⟨by simp[oR,(ho i hi).1],λk _=>by simp only[oR,Option.getD_some];rw[Hj];exact(ho i hi).2 (n+k) U⟩) U U
   · cases e
def FA {a:List R}{B:Rows}:∀{f j:Nat} {l l':List R},lX a B f j l=some l'->(∀k,k<l.length->bN (ap l k)=true)->l'.length=l.length+f/\∀k,k<l'.length->bN (ap l' k)=true
 |0,_,_,_,h,hl=>by cases h;exact⟨rfl,hl⟩
 | f +1,j,l,l',h,hl=>by
   unfold lX at h
   cases h1:kT a B j a.length 0 z0 with
   |none=>rw[h1]at h;cases h
   | some s=>
     rw[h1]at h
     have:=FA h (λk hk=>Lo (P:=λq=>bN q=true) (k:=l.length) Z hl (Fa Vj h1) k (by simpa using hk))
     exact⟨by rw[this.1];simp;omega,this.2⟩
def FB {L B:Rows}{p:Nat}:∀{f i:Nat} {K K':Rows},pH L B p f i K=some K'->(∀x,x<i->(K x).length=p/\∀k,k<p->bN (ap (K x) k)=true)->gk (i+f) p K'
 |0,_,_,_,h,hl=>by cases h;exact hl
 | f + 1,i,K,K',h,hl=>by
   unfold pH at h
   cases h1:lX (L i) B p 0 []with
   |none=>rw[h1]at h;cases h
   | some l=>
     rw[h1]at h
     have hr:=FA h1 (λk hk=>by simp at hk)
     have:=FB h (λx hx=>by
      by_cases e:x=i
      · subst e;rw[aX];exact⟨by simpa using hr.1,λk hk=>hr.2 k (by rw[hr.1];simpa using hk)⟩
      · rw[bc _ _ e];exact hl x U)
     rwa [show i+1+f=i+(f+1)by omega]at this
def Pm {n m:Nat}{L B:Rows}:Bd (oN n (dM n L m B)) (oR (dM n L m B)):=by
 cases e:dM n L m B with
 |none=>exact yC
 | some K=>
   unfold dM at e
   split at e
   · rename_i hs
     have h1:=jc hs.1
     have h2:=jc hs.2.1
     have:=FB (show pH L B (B 0).length n 0 pI=some K from e) (λx _=>by omega)
     rw[Nat.zero_add]at this
     have a:=h1.2.1
     have b:=h2.2.2.2.1
     exact Lr (n:=n) this U U
   · cases e
def Xw {n:Nat}{L:Rows}:Bd (if vM n L=true then(L 0).length else 0) (λj=>l8 L n j):=by
 split
 · rename_i h
   have hv:=jc h
   have a:=hv.2.1
   have b:=hv.2.2.2.1
   exact Lr (m:=n) (λi hi=>⟨pF _ _ _,λk hk=>by rw[uB _ _ hk];exact(hv.ok k hk).2 i hi⟩) U U
 · exact yC
section
variable {m:Nat}{L K:Rows}{xs:List R}
def Hk (hM:Mt w lo A n H L)(hN:Mt w lo2 B n G L)(hB:Bd n L):CL 17 #[.slice A n C,.slice B n D] w (aH w λv w'=>v=.bool true):=by
 have h:=OK (C:=C) (D:=D) hM hN hB
 have e:decide (kq n L n L)=true:=qa1 ⟨rfl,λ_ _=>rfl⟩
 rwa [e]at h
def wT (hx:Rw w lo A (ag xs))(hy:Rw w lo2 B (ag xs))(hn:xs.length<=1000000):CL 16 #[.slice A xs.length C,.slice B xs.length D] w (aH w λv w'=>v=.bool true):=by
 have h:=yo (C:=C) (D:=D) hx hy hn
 rwa [decide_eq_true Z]at h
end
def lV (W:World)(hi:Nat)(v:Value):Prop:=∃A C H n L,v=.slice A n C/\n<=C/\YA n L/\oG W 0 hi A n H L
structure Hl (W:World)(hi:Nat)(A:Option Addr)(vs:List Value):Prop where
 rw:pP W 0 hi A vs
 good:∀i,i<vs.length->lV W hi (vs.getD i .nilIface)
section
variable {hi hi':Nat}{vs:List Value}
def lV.ext (k:aN W W')(h:lV W hi v):lV W' hi v:=by obtain⟨A,C,H,n,L,e,c,f,m⟩:=h;exact⟨A,C,H,n,L,e,c,f,m.ext k⟩
def lV.put (k:dP W W' b)(hb:b<0\/hi<=b)(h:lV W hi v):lV W' hi v:=by obtain⟨A,C,H,n,L,e,c,f,m⟩:=h;exact⟨A,C,H,n,L,e,c,f,m.put k hb⟩
def lV.up (hh:hi<=hi')(h:lV W hi v):lV W hi' v:=by
 obtain⟨A,C,H,n,L,e,c,f,m⟩:=h
 exact⟨A,C,H,n,L,e,c,f,⟨m.mt,λE h=>qb1 (m.o E h) hh,λi hi E h=>qb1 (m.r i hi E h) hh⟩⟩
def Hl.ext (k:aN W W')(h:Hl W hi A vs):Hl W' hi A vs:=⟨h.rw.ext k,λi hi=>(h.good i hi).ext k⟩
def Hl.put (k:dP W W' b)(hb:b<0\/hi<=b)(h:Hl W hi A vs):Hl W' hi A vs:=⟨h.rw.put k hb,λi hi=>(h.good i hi).put k hb⟩
def lV.of {L:Rows}(h:dI lo W v n L)(hf:YA n L):lV W W.heap.size v:=by
 obtain⟨A,C,H,e,c,m⟩:=h;exact⟨A,C,H,n,L,e,c,hf,ab6 (m.mono (qa7 _))⟩
end
def dI.get {L:Rows}(h:dI lo w v n L):∃A C H,v=.slice A n C/\n<=C/\Mt w lo A n H L:=h
def gG {m:Nat}{L B K:Rows}(e:dM n L m B=some K):Bd n K:=by
 have h:=@Pm n m L B
 rw[e]at h;exact h
def p7 {L K:Rows}(e:eY n L=some K):Bd n K:=by
 have h:=@Pk n L
 rw[e]at h;exact h
def Du {L:Rows}(hv:vM n L=true)(hl:(L 0).length=k):Bd k (λj=>l8 L n j):=by
 have h:=@Xw n L
 rw[if_pos hv,hl]at h;exact h
def fe {L:Rows}(h:vM n L=true):Bd n L:=by
 have hv:=jc h
 have ok:=VM.ok hv
 have E:=hv.2.2.2.1
 exact⟨by have:=hv.2.1;omega,λi hi=>⟨by rw[(ok i hi).1];omega,λk hk=>sM ((ok i hi).2 k (by rw[<-(ok i hi).1];exact hk))⟩⟩
structure Pn (m k:Nat)(L V:Rows)(ys:List R)(W B G C D X P:Rows)(rs xs:List R)(Q S:Rows):Prop where
 eW:eY m V=some W
 eB:dM k (λj=>l8 L m j) m W=some B
 eG:dM k B m L=some G
 eC:eY k G=some C
 eD:dM k B m (cg ys)=some D
 eX:dM k C k D=some X
 eP:dM m L k X=some P
 hPl:∀i,i<m->0<(P i).length
 hrl:rs.length=m
 hr:∀i,i<m->dE (ap ys i) (ap (P i) 0)=some (ap rs i)
 hvr:vM m (cg rs)=true
 eQ:dM 1 (λj=>l8 (cg rs) m j) m W=some Q
 eS:dM 1 Q m (cg rs)=some S
 hXl:∀i,i<k->0<(X i).length
 hxl:xs.length=k
 hx:∀i,i<k->ap xs i=ap (X i) 0
 hSl:0<(S 0).length
def mN (lo:Nat)(w:World)(v:Value)(k:Nat)(xs:List R)(C:Rows)(chi:R)(fr:Int):Prop:=∃A cp B D H,v=.agg #[.slice A xs.length cp,.slice B k D,S chi.1,S chi.2,.int .i64 fr]/\xs.length<=cp/\Rw w lo A (ag xs)/\k<=D/\Mt w lo B k H C
def Po {L V:Rows}{ys:List R}(hM:Mt w lo A ys.length H L)(hB:Bd ys.length L)(hy:Rw w lo2 Y (ag ys))(hV:Mt w lo3 B ys.length G V)(hB3:Bd ys.length V)(hcb:ys.length<=CB){W0 B0 G0 C0 D0 X0 P0 Q0 S0:Rows}{rs xs:List R}(hv:vM ys.length L=true)(hk:(L 0).length=k)(hvl:vM ys.length (cg ys)=true)(e:Pn ys.length k L V ys W0 B0 G0 C0 D0 X0 P0 rs xs Q0 S0)(ht:Tb w):
 CL 41 #[.agg #[.slice A ys.length C,.slice Y ys.length CY,.slice B ys.length CB]] w (aH w λv w'=>mN w.heap.size w' v k xs C0 (ap (S0 0) 0) (((ys.length:Nat):Int)-(k:Int))):=by
 have e5:=(jc hv).1;have cp:=(jc hv).2.1;have ct:=(jc hv).2.2.2.1;have e6:=e.hSl;have cz:=e.hrl;have et:=e.hxl;refine aC func41 Z (I ?_);refine bx (λES Ne O=>?_);have E:=Ne.2;refine al dw (λFR P1 A0=>?_);have⟨O,E⟩:=bw P1.2 O E;refine I ?_;refine bP 7 ?_;refine sf ?_;refine b8 (fun(v:Value) (W:World)=>∃A C H,v=Value.slice A ys.length C/\ys.length<=C/\Mt W FR.heap.size A ys.length H (cg ys)) (hs:=λ_ _ _ k h=>by obtain⟨A,C,H,e,c,r⟩:=h;exact⟨A,C,H,e,c,r.ext k⟩) (λ_ _ E9 _=>?_) ?_;refine clb xx (hc:=lL (hy.ext (xt E E9)) U) (hk:=?_);rintro _ _ K3 ⟨ce,bZ,ch,rfl,b0,a9⟩;have a4:=ab6 a9;refine I ?_;exact fs ⟨K3.2,⟨_,_,_,rfl,b0,((a4).mt).mono (by have:=bz E9;omega)⟩⟩;refine sf ?_;intro WV Kp VW W1;have⟨O,A0,E⟩:=cD VW.2 O A0 E;have S9:∃A C H,WV 17=Value.slice A ys.length C/\ys.length<=C/\Mt Kp FR.heap.size A ys.length H (cg ys):=(W1 6 17 Z Z);(with_reducible obtain⟨_,_,_,_,_,H3⟩:=S9);have Am:=ab6 H3;refine I ?_;refine cl xz (yx (hV.ext E) hB3 e.eW (ht.ext E)) ?_;rintro _ _ E6 ⟨dd,cw,d4,rfl,cq,KC⟩;have⟨O,A0⟩:=gu E6.2 O A0;have Am:=aa7 E6.2 Am;have E:=xt E E6.2;have A2:=ab6 KC;refine I ?_;refine cl Cd (uN (k:=k) (hM.ext E) hB hv hk (ht.ext E)) ?_
 rintro _ _ E0 ⟨d6,ea,eg,rfl,bb,ac⟩;have⟨O,A0⟩:=gu E0.2 O A0;have Am:=aa7 E0.2 Am;have A2:=aa7 E0.2 A2;have E:=xt E E0.2;have a3:=ab6 ac;refine I ?_;refine cl lh (jA (a3).mt (Du hv hk) (A2).mt (p7 e.eW) e.eB (ht.ext E)) ?_;rintro _ _ E4 ⟨f9,er,ed,rfl,cb,Rm⟩;have⟨O,A0⟩:=gu E4.2 O A0;have Am:=aa7 E4.2 Am;have A2:=aa7 E4.2 A2;have E:=xt E E4.2;have Ar:=ab6 Rm;refine I ?_;refine cl lh (jA (Ar).mt (gG e.eB) (hM.ext E) hB e.eG (ht.ext E)) ?_;rintro _ _ As ⟨d1,dq,d3,rfl,f0,bW⟩;have⟨O,A0⟩:=gu As.2 O A0;have Am:=aa7 As.2 Am;have A2:=aa7 As.2 A2;have Ar:=aa7 As.2 Ar;have E:=xt E As.2;have W3:=ab6 bW;refine cl xz (yx (W3).mt (gG e.eG) e.eC (ht.ext E)) ?_;rintro _ _ B1 ⟨Ay,Av,eq,rfl,a6,a5⟩;have⟨O,A0⟩:=gu B1.2 O A0;have Am:=aa7 B1.2 Am;have A2:=aa7 B1.2 A2;have Ar:=aa7 B1.2 Ar;have E:=xt E B1.2;have A1:=ab6 a5;refine I ?_;refine cl lh (jA (Ar).mt (gG e.eB) (Am).mt (fe hvl) e.eD (ht.ext E)) ?_;rintro _ _ D2 ⟨cv,fD,ask,rfl,eb,H4⟩;have⟨O,A0⟩:=gu D2.2 O A0;have A2:=aa7 D2.2 A2;have A1:=aa7 D2.2 A1;have E:=xt E D2.2;have ad:=ab6 H4;refine cl lh (jA (A1).mt (p7 e.eC) (ad).mt (gG e.eD) e.eX (ht.ext E)) ?_;rintro _ _ Cr ⟨cr,cc,cx,rfl,ej,X2⟩
 have⟨O,A0⟩:=gu Cr.2 O A0;have A2:=aa7 Cr.2 A2;have A1:=aa7 Cr.2 A1;have E:=xt E Cr.2;have Ab:=ab6 X2;refine I ?_;(try refine aa (aM (cs:=[.slice A ys.length C,.slice Y ys.length CY,.slice B ys.length CB]) (b:=w.heap.size) (o:=0) nz Z nM Z (aa1 O (i:=0) Z) ?_));refine I ?_;refine cl IH (AZ (hM.ext E) hB (hy.ext E) (hV.ext E) hB3 hcb hv (Ab).mt (gG e.eX) e.eP (gG e.eP) e.hPl e.hrl e.hr (ht.ext E)) ?_;rintro _ _ Ax ⟨cf,fG,rfl,bv,W2⟩;have⟨O,A0⟩:=gu Ax.2 O A0;have A2:=aa7 Ax.2 A2;have A1:=aa7 Ax.2 A1;have Ab:=aa7 Ax.2 Ab;have E:=xt E Ax.2;have a8:=ab9 W2;refine clb xx (hc:=Xs (m:=ys.length) (lL (a8).rw U) e.hrl) (hk:=?_);rintro _ _ Az ⟨bp,d5,cV,rfl,cT,Vm⟩;have⟨O,A0⟩:=gu Az.2 O A0;have A2:=aa7 Az.2 A2;have A1:=aa7 Az.2 A1;have Ab:=aa7 Az.2 Ab;have E:=xt E Az.2;have Aq:=ab6 Vm;refine I ?_;refine cl Cd (uN (k:=1) (Aq).mt (fe e.hvr) e.hvr Z (ht.ext E)) ?_;rintro _ _ Ap ⟨fC,cy,co,rfl,d0,N0⟩;have⟨O,A0⟩:=gu Ap.2 O A0;have A2:=aa7 Ap.2 A2;have A1:=aa7 Ap.2 A1;have Ab:=aa7 Ap.2 Ab;have Aq:=aa7 Ap.2 Aq;have E:=xt E Ap.2;have KY:=ab6 N0;refine I ?_;refine cl lh (jA (KY).mt (Du e.hvr Z) (A2).mt (p7 e.eW) e.eQ (ht.ext E)) ?_
 rintro _ _ CG ⟨fN,bd,cm,rfl,f3,Lj⟩;have⟨O,A0⟩:=gu CG.2 O A0;have A1:=aa7 CG.2 A1;have Ab:=aa7 CG.2 Ab;have Aq:=aa7 CG.2 Aq;have E:=xt E CG.2;have nm:=ab6 Lj;refine I ?_;refine cl lh (jA (nm).mt (gG e.eQ) (Aq).mt (fe e.hvr) e.eS (ht.ext E)) ?_;rintro _ EW E1 ⟨fB,bq,f4,rfl,c9,Wa⟩;have⟨O,A0⟩:=gu E1.2 O A0;have A1:=aa7 E1.2 A1;have Ab:=aa7 E1.2 Ab;have E:=xt E E1.2;have Af:=ab6 Wa;refine I ?_;refine bP 13 ?_;refine sf ?_;refine b8 (fun(v:Value) (W:World)=>∃A Ao,v=Value.slice A xs.length Ao/\xs.length<=Ao/\Rw W EW.heap.size A (ag xs)) (hs:=λ_ _ _ k h=>by obtain⟨A,Ao,e,c,r⟩:=h;exact⟨A,Ao,e,c,r.ext k⟩) (λ_ _ ny _=>?_) ?_;have Ab:=aa7 ny Ab;refine clb SK (hc:=Lq (Ab).mt e.hXl e.hxl e.hx U) (hk:=?_);rintro _ _ bY ⟨e4,dC,rfl,K2,KM⟩;have L4:=ab9 KM;refine I ?_;exact fs ⟨bY.2,⟨_,_,rfl,K2,((L4).rw).mono (by have:=bz ny;omega)⟩⟩;refine sf ?_;refine aB (λ_ _ wr _=>by have Af:=aa7 wr Af;have GC:=aa6 (Af).mt (i:=0) U;refine I ?_;refine eI GC ?_ (i:=0);refine I ?_;exact aK) ?_;refine aB (λ_ _ Ix _=>by have Af:=aa7 Ix Af;have dL:=aa6 (Af).mt (i:=0) U;refine I ?_;exact aK) ?_
 refine aB (λ_ _ L3 _=>by have Af:=aa7 L3 Af;have Li:=ac5 (Af).mt (i:=0) (k:=0) U U;refine I ?_;refine jv Li ?_ (i:=0);refine I ?_;exact aK) ?_;refine aB (λ_ _ Lk _=>by have Af:=aa7 Lk Af;have e3:=ac5 (Af).mt (i:=0) (k:=0) U U;refine I ?_;exact aK) ?_;refine aB (λ_ _ L2 _=>by have O:=be L2 O;(try refine aa (aM (cs:=[.slice A ys.length C,.slice Y ys.length CY,.slice B ys.length CB]) (b:=w.heap.size) (o:=0) nz Z nM Z (aa1 O (i:=0) Z) ?_));refine I ?_;exact aK) ?_;refine a7 (V:=.int .i64 ((ys.length:Nat):Int)) (λ_ _ _ _=>?_) ?_;refine cl xA pX ?_;rintro _ _ a0 rfl;refine I ?_;exact fs ⟨a0.2,rfl⟩;refine aB (λ_ _ T3 _=>by have O:=be T3 O;(try refine aa (aM (cs:=[.slice A ys.length C,.slice Y ys.length CY,.slice B ys.length CB]) (b:=w.heap.size) (o:=0) nz Z nM Z (aa1 O (i:=0) Z) ?_));refine I ?_;exact aK) ?_;refine a7 (V:=.int .i64 k) (λ_ _ od _=>?_) ?_;refine clb SL (hc:=no (Y:=.int .i64 k) (Le (hM.ext (xt E od)) U) (by rw[hk])) (hk:=?_);rintro _ _ T2 rfl;refine I ?_;exact fs ⟨T2.2,rfl⟩;refine aB (λ_ _ _ _=>by refine qF ?_;refine I ?_;exact aK) ?_;refine sf ?_;intro No P2 E7 a2;have⟨O,A0⟩:=gu E7.2 O A0;have A1:=aa7 E7.2 A1
 have E:=xt E E7.2;have V0:∃A Ao,No 46=Value.slice A xs.length Ao/\xs.length<=Ao/\Rw P2 EW.heap.size A (ag xs):=(a2 1 46 Z Z);(with_reducible obtain⟨Aw,B2,H2,an,L1⟩:=V0);have E5:=ab9 L1;refine aa (b7 (vs:=[(0,.slice Aw xs.length B2),(1,.slice Ay k Av),(2,.agg #[S ((ap (S0 0) 0).1),S ((ap (S0 0) 0).2)]),(3,.int .i64 (((ys.length:Nat):Int)-(k:Int)))]) (cells:=#[.slice Aw xs.length B2,.slice Ay k Av,S ((ap (S0 0) 0).1),S ((ap (S0 0) 0).2),.int .i64 (((ys.length:Nat):Int)-(k:Int))]) (pl:=[(0,1),(1,1),(2,2),(4,1)]) j5 dw q0 (db (by exact H2) (db Z (db Z (db Z Z)))) q0 ?_);refine aa (bo (b:=ES.heap.size) (o:=0) (vs:=[.slice Aw xs.length B2,.slice Ay k Av,S ((ap (S0 0) 0).1),S ((ap (S0 0) 0).2),.int .i64 (((ys.length:Nat):Int)-(k:Int))]) df Z Z zl A0 (qa3 Z) (λ_ D1 La=>?_));have O:=pb D1 O;have A1:=ad0 D1 U A1;have E5:=ac1 D1 U E5;have E:=bA D1 E;refine I ?_;refine ba (v:=.agg #[.slice Aw xs.length B2,.slice Ay k Av,S ((ap (S0 0) 0).1),S ((ap (S0 0) 0).2),.int .i64 (((ys.length:Nat):Int)-(k:Int))]) (cC  rfl ?_) E ⟨_,_,_,_,_,rfl,an,((E5).rw).mono U,a6,((A1).mt).mono U⟩
 refine ak (t:=2) (cs:=[.slice Aw xs.length B2,.slice Ay k Av,S ((ap (S0 0) 0).1),S ((ap (S0 0) 0).2),.int .i64 (((ys.length:Nat):Int)-(k:Int))]) (b:=ES.heap.size) (o:=0) j5 Z df ?_ ?_;exact Z;exact aa1 La (i:=0) Z
def Ls {L V:Rows}{ys:List R}(hM:Mt w lo A ys.length H L)(hB:Bd ys.length L)(hy:Rw w lo2 Y (ag ys))(hV:Mt w lo3 B ys.length G V)(hB3:Bd ys.length V)(hcb:ys.length<=CB){a:Addr}{W0 B0 G0:Rows}(hv:vM ys.length L=true)(hk:(L 0).length=k)(hvl:vM ys.length (cg ys)=true)(hE:Er w a)(eW:eY ys.length V=some W0)(eB:dM k (λj=>l8 L ys.length j) ys.length W0=some B0)(eG:dM k B0 ys.length L=some G0)(eC:eY k G0=none)(ht:Tb w):
 CL 41 #[.agg #[.slice A ys.length C,.slice Y ys.length CY,.slice B ys.length CB]] w (fo (pE a) w):=by
 have H4:=(jc hv).1;have EW:=(jc hv).2.1;refine iW func41 Z (I ?_);refine bx (λ_ Ar O=>?_);have E:=Ar.2;refine al dw (λny od _=>?_);have⟨O,E⟩:=bw od.2 O E;refine I ?_;refine bP 7 ?_;refine sf ?_;refine b8 (fun(v:Value) (W:World)=>∃A C H,v=Value.slice A ys.length C/\ys.length<=C/\Mt W ny.heap.size A ys.length H (cg ys)) (hs:=λ_ _ _ k h=>by obtain⟨A,C,H,e,c,r⟩:=h;exact⟨A,C,H,e,c,r.ext k⟩) (λ_ _ A1 _=>?_) ?_;refine clb xx (hc:=lL (hy.ext (xt E A1)) U) (hk:=?_);rintro _ _ Ao ⟨ES,KY,K3,rfl,E1,As⟩;have D2:=ab6 As;refine I ?_;exact fs ⟨Ao.2,⟨_,_,_,rfl,E1,((D2).mt).mono (by have:=bz A1;omega)⟩⟩;refine sf ?_;intro Ap Af E0 Cr;have⟨O,E⟩:=bw E0.2 O E;have E4:∃A C H,Ap 17=Value.slice A ys.length C/\ys.length<=C/\Mt Af ny.heap.size A ys.length H (cg ys):=(Cr 6 17 Z Z);(with_reducible obtain⟨_,_,_,_,_,_⟩:=E4);refine I ?_;refine cl xz (yx (hV.ext E) hB3 eW (ht.ext E)) ?_;rintro _ _ Az ⟨nm,Kp,E9,rfl,K2,Ab⟩;have E:=xt E Az.2;have A0:=ab6 Ab;refine I ?_;refine cl Cd (uN (k:=k) (hM.ext E) hB hv hk (ht.ext E)) ?_;rintro _ _ A2 ⟨H2,E6,E5,rfl,GC,Aw⟩;have A0:=aa7 A2.2 A0;have E:=xt E A2.2;have Ay:=ab6 Aw;refine I ?_;refine cl lh (jA (Ay).mt (Du hv hk) (A0).mt (p7 eW) eB (ht.ext E)) ?_
 rintro _ _ C0 ⟨KC,E7,FR,rfl,Ix,Av⟩;have E:=xt E C0.2;have Ax:=ab6 Av;refine I ?_;refine cl lh (jA (Ax).mt (gG eB) (hM.ext E) hB eG (ht.ext E)) ?_;rintro _ _ B1 ⟨B2,Am,KM,rfl,H3,D1⟩;have E:=xt E B1.2;have CG:=ab6 D1;refine aa (dO (vs:=[.slice B2 k Am]) xz Z (Ld (CG).mt (gG eG) (Er.ext E hE) eC (ht.ext E)) (λ_ Aq=>?_));have E:=xt E Aq;refine I ?_;exact gD ⟨E,rfl⟩
def Er.lt {a:Addr}(h:Er w a):0<w.heap.size:=bt h
def mN.mono {xs:List R}{C:Rows}{chi:R}{fr:Int}(h:mN lo w v k xs C chi fr)(hl:lo'<=lo):mN lo' w v k xs C chi fr:=by
 obtain⟨A,E,B,D,H,e,h1,h2,h3,h4⟩:=h
 exact⟨A,E,B,D,H,e,h1,h2.mono hl,h3,h4.mono hl⟩
def Lt {xs:List R}{Cr:Rows}{chi:R}{fr:Int}(hg:Enters prog gf)(hc:∀W,aN w W->CL gf lb.toArray W (aH W λv w'=>mN W.heap.size w' v k xs Cr chi fr)):
 CL 38 #[.func (.func gf) #[] lb.toArray] w (aH w λv w'=>∃u,v=.tuple #[u,.int .i64 0]/\mN w.heap.size w' u k xs Cr chi fr):=by
 refine mI func38 Z (I ?_);refine al dw (λAm nm A1=>?_);have E:=nm.2;refine al mi (λ_ Az O=>?_);have⟨A1,E⟩:=bw Az.2 A1 E;refine I ?_;refine aa (aE (vf:=[]) (vc:=[pT w.heap.size,pT Am.heap.size]) Z Z ?_);refine aa (jb (lb:=[pT w.heap.size,pT Am.heap.size]) Z ?_);refine I ?_;refine aa (l5 (f:=gf) (lb:=lb) (vs:=[]) hg Z Z (hc _ E) ?_);rintro _ _ Ax ⟨Aq,Ao,As,Ar,B1,rfl,B0,Aw,Av,Ay⟩;have⟨A1,O,E⟩:=cD Ax.2 A1 O E;have A2:=ab9 Aw;have A0:=ab6 Ay;refine aa (bo (b:=w.heap.size) (o:=0) (vs:=[.slice Aq xs.length Ao,.slice As k Ar,S chi.1,S chi.2,.int .i64 fr]) df Z Z zl A1 (qa3 Z) (λ_ Ab Ap=>?_));have O:=pb Ab O;have A2:=ac1 Ab U A2;have A0:=ad0 Ab U A0;have E:=bA Ab E;refine SO O (λ_ Af ny=>?_);have Ap:=pb Af Ap;have A2:=ac1 Af U A2;have A0:=ad0 Af U A0;have E:=bA Af E;refine I ?_;refine ou (b1:=w.heap.size) (b2:=Am.heap.size) (v:=.tuple #[.agg #[.slice Aq xs.length Ao,.slice As k Ar,S chi.1,S chi.2,.int .i64 fr],.int .i64 0]) II (λ_ _=>Kc) E (de (r1:=.cell 2 40) (r2:=.cell 3 36) Z ?_ ?_) ⟨_,rfl,_,_,_,_,_,rfl,B0,((A2).rw).mono U,Av,((A0).mt).mono U⟩
 refine ak (t:=2) (cs:=[.slice Aq xs.length Ao,.slice As k Ar,S chi.1,S chi.2,.int .i64 fr]) (b:=w.heap.size) (o:=0) j5 Z df ?_ ?_;exact Z;exact aa1 Ap (i:=0) Z;refine bI (t:=3) (b:=Am.heap.size) (o:=0) BV Z ?_ ?_;exact Z;exact ab4 ny Z
def wU {a:Addr}(hE:Er w a)(hg:Enters prog gf)(hc:∀W,aN w W->CL gf lb.toArray W (fo (pE a) W)):
 CL 38 #[.func (.func gf) #[] lb.toArray] w (aH w λv w'=>v=.tuple #[.agg #[.slice none 0 0,.slice none 0 0,S [],S [],.int .i64 0],.int .i64 140]):=by
 have hlt:=Er.lt hE;refine mI func38 Z (I ?_);refine al dw (λA0 Af O=>?_);have E:=Af.2;refine al mi (λ_ A2 A1=>?_);have⟨O,E⟩:=bw A2.2 O E;refine I ?_;refine aa (aE (vf:=[]) (vc:=[pT w.heap.size,pT A0.heap.size]) Z Z ?_);refine aa (jb (lb:=[pT w.heap.size,pT A0.heap.size]) Z ?_);refine I ?_;refine aa (lu (f:=gf) (lb:=lb) (vs:=[]) hg Z Z (hc _ E) (λ_ Ab=>?_));have⟨O,A1,E⟩:=cD Ab O A1 E;refine I ?_;refine T6 (b1:=w.heap.size) (b2:=A0.heap.size) (z:=#[.slice none 0 0,.slice none 0 0,S [],S [],.int .i64 0]) (cs:=#[.slice none 0 0,.slice none 0 0,S [],S [],.int .i64 0]) (c0:=0) (v:=.tuple #[.agg #[.slice none 0 0,.slice none 0 0,S [],S [],.int .i64 0],.int .i64 140]) II Kh E (Er.ext E hE) O Z A1 U U U U (λ_ _ c1 c2=>⟨de (r1:=.cell 2 40) (r2:=.cell 3 36) Z ?_ ?_,rfl⟩);refine ak (t:=2) (cs:=[.slice none 0 0,.slice none 0 0,S [],S [],.int .i64 0]) (b:=w.heap.size) (o:=0) j5 Z df ?_ ?_;exact Z;exact aa1 c1 (i:=0) Z;refine bI (t:=3) (b:=A0.heap.size) (o:=0) BV Z ?_ ?_;exact Z;exact ab4 c2 Z
def Lu {x:Int}(hg:Enters prog gf)(hc:∀W,aN w W->CL gf lb.toArray W (aH W λv w'=>v=.int .i64 x)):
 CL 42 #[.func (.func gf) #[] lb.toArray] w (aH w λv w'=>v=.tuple #[.int .i64 x,.int .i64 0]):=by
 refine mI func42 Z (I ?_);refine al lf (λA1 Aq A0=>?_);have E:=Aq.2;refine al mi (λ_ Am O=>?_);have⟨A0,E⟩:=bw Am.2 A0 E;refine I ?_;refine aa (aE (vf:=[]) (vc:=[pT w.heap.size,pT A1.heap.size]) Z Z ?_);refine aa (jb (lb:=[pT w.heap.size,pT A1.heap.size]) Z ?_);refine I ?_;refine aa (l5 (f:=gf) (lb:=lb) (vs:=[]) hg Z Z (hc _ E) ?_);rintro _ _ Ap rfl;have⟨A0,O,E⟩:=cD Ap.2 A0 O E;refine SO A0 (λ_ Ab A2=>?_);have O:=pb Ab O;have E:=bA Ab E;refine SO O (λ_ Af Ao=>?_);have A2:=pb Af A2;have E:=bA Af E;refine I ?_;refine ou (b1:=w.heap.size) (b2:=A1.heap.size) (v:=.tuple #[.int .i64 x,.int .i64 0]) SN (λ_ _=>Kd) E (de (r1:=.cell 2 3) (r2:=.cell 3 36) Z ?_ ?_) Z;refine bI (t:=2) (b:=w.heap.size) (o:=0) U3 Z ?_ ?_;exact Z;exact ab4 A2 Z;refine bI (t:=3) (b:=A1.heap.size) (o:=0) BV Z ?_ ?_;exact Z;exact ab4 Ao Z
def Lv {xs:List R}(hg:Enters prog gf)(hc:∀W,aN w W->CL gf lb.toArray W (aH W λv w'=>AX W.heap.size w' v xs)):
 CL 58 #[.func (.func gf) #[] lb.toArray] w (aH w λv w'=>∃u,v=.tuple #[u,.int .i64 0]/\AX w.heap.size w' u xs):=by
 refine mI func58 Z (I ?_);refine al jK (λA2 Aw A0=>?_);have E:=Aw.2;refine al mi (λ_ Av O=>?_);have⟨A0,E⟩:=bw Av.2 A0 E;refine I ?_;refine aa (aE (vf:=[]) (vc:=[pT w.heap.size,pT A2.heap.size]) Z Z ?_);refine aa (jb (lb:=[pT w.heap.size,pT A2.heap.size]) Z ?_);refine I ?_;refine aa (l5 (f:=gf) (lb:=lb) (vs:=[]) hg Z Z (hc _ E) ?_);rintro _ _ As ⟨Ao,Aq,rfl,Ar,Ap⟩;have⟨A0,O,E⟩:=cD As.2 A0 O E;have A1:=ab9 Ap;refine SO A0 (λ_ Ab Af=>?_);have O:=pb Ab O;have A1:=ac1 Ab U A1;have E:=bA Ab E;refine SO O (λ_ Am nm=>?_);have Af:=pb Am Af;have A1:=ac1 Am U A1;have E:=bA Am E;refine I ?_;refine ou (b1:=w.heap.size) (b2:=A2.heap.size) (v:=.tuple #[.slice Ao xs.length Aq,.int .i64 0]) SS (λ_ _=>Kg) E (de (r1:=.cell 2 28) (r2:=.cell 3 36) Z ?_ ?_) ⟨_,rfl,_,_,rfl,Ar,((A1).rw).mono U⟩;refine bI (t:=2) (b:=w.heap.size) (o:=0) te Z ?_ ?_;exact Z;exact ab4 Af Z;refine bI (t:=3) (b:=A2.heap.size) (o:=0) BV Z ?_ ?_;exact Z;exact ab4 nm Z
structure qi (L V:Rows)(ys:List R):Prop where
 hv:vM ys.length L=true
 hv3:vM ys.length V=true
 hVl:(V 0).length=ys.length
 hLl:(L 0).length<=ys.length
 hyo:ys.all bN=true
 hp:pR ys.length V=some true
structure eZ (w:World)(A:Option Addr)(C:Nat)(Y:Option Addr)(CY:Nat)(B:Option Addr)(CB:Nat)(L V:Rows)(ys:List R):Prop where
 m:∃lo H,Mt w lo A ys.length H L
 y:∃lo,Rw w lo Y (ag ys)
 v:∃lo G,Mt w lo B ys.length G V
 c:ys.length<=CB
def eZ.ext {L V:Rows}{ys:List R}(k:aN w w')(h:eZ w A C Y CY B CB L V ys):eZ w' A C Y CY B CB L V ys:=by
 obtain⟨⟨a,b,c⟩,⟨d,e⟩,⟨f,g,i⟩,j⟩:=h
 exact⟨⟨a,b,c.ext k⟩,⟨d,e.ext k⟩,⟨f,g,i.ext k⟩,j⟩
def FC {ys:List R}(h:ys.all bN=true)(h1:1<=ys.length)(h8:ys.length<=8):vM ys.length (cg ys)=true:=by
 unfold vM
 refine qa1 ⟨h1,h8,qa0 _,by show 1<=8;omega,λi hi=>⟨rfl,?_⟩⟩
 exact lH.2 λk _=>by
  have E : k = 0 := by have:(cg ys i).length=1:=rfl
                       omega
  subst E
  exact lH.1 h i hi
def Lw {L V:Rows}{ys:List R}(hD:eZ w A C Y CY B CB L V ys)(ok:qi L V ys)(hb:ar w b 30 #[.slice A ys.length C,.slice Y ys.length CY,.slice B ys.length CB]){W0 B0 G0 C0 D0 X0 P0 Q0 S0:Rows}{rs xs:List R}(hk:(L 0).length=k)(e:Pn ys.length k L V ys W0 B0 G0 C0 D0 X0 P0 rs xs Q0 S0)(ht:Tb w):
 CL 39 #[pT b] w (aH w λv w'=>mN w.heap.size w' v k xs C0 (ap (S0 0) 0) (((ys.length:Nat):Int)-(k:Int))):=by
 obtain⟨_,H,hM⟩:=hD.m;obtain⟨_,hy⟩:=hD.y;obtain⟨_,G,hV⟩:=hD.v;have B1:=bt hb;refine aC func39 Z (I ?_);refine al dw (λ_ Ap O=>?_);have hb:=be Ap.2 hb;have E:=Ap.2;refine I ?_;(try refine aa (aM (cs:=[.slice A ys.length C,.slice Y ys.length CY,.slice B ys.length CB]) (b:=b) (o:=0) dj Z bm Z (aa1 hb (i:=0) Z) ?_));refine cl lg (iJ (hM.ext E) (fe ok.hv) (hy.ext E) (hV.ext E) (fe ok.hv3) hD.c ok.hv ok.hv3 ok.hVl ok.hLl ok.hyo ok.hp (ht.ext E)) ?_;rintro _ _ Aq rfl;have⟨hb,O,E⟩:=cD Aq.2 hb O E;refine cl fK dn ?_;rintro _ _ Ax rfl;have⟨hb,O,E⟩:=cD Ax.2 hb O E;refine I ?_;(try refine aa (aM (cs:=[.slice A ys.length C,.slice Y ys.length CY,.slice B ys.length CB]) (b:=b) (o:=0) dj Z bm Z (aa1 hb (i:=0) Z) ?_));refine aa (b7 (vs:=[(0,.agg #[.slice A ys.length C,.slice Y ys.length CY,.slice B ys.length CB])]) (cells:=#[.slice A ys.length C,.slice Y ys.length CY,.slice B ys.length CB]) (pl:=[(0,3)]) nz oQ q0 Z q0 ?_);refine cl IE (Po (hM.ext E) (fe ok.hv) (hy.ext E) (hV.ext E) (fe ok.hv3) hD.c ok.hv hk (FC ok.hyo (jc ok.hv).1 (jc ok.hv).2.1) e (ht.ext E)) ?_;rintro _ _ As ⟨A2,Ab,Am,Af,Az,rfl,Ar,Aw,nm,Ay⟩;have⟨hb,O,E⟩:=cD As.2 hb O E
 have A1:=ab9 Aw;have Ao:=ab6 Ay;refine aa (bo (b:=w.heap.size) (o:=0) (vs:=[.slice A2 xs.length Ab,.slice Am k Af,S ((ap (S0 0) 0).1),S ((ap (S0 0) 0).2),.int .i64 (((ys.length:Nat):Int)-(k:Int))]) df Z Z zl O (qa3 Z) (λ_ A0 Av=>?_));have hb:=pb A0 hb;have A1:=ac1 A0 U A1;have Ao:=ad0 A0 U Ao;have E:=bA A0 E;refine I ?_;refine ba (v:=.agg #[.slice A2 xs.length Ab,.slice Am k Af,S ((ap (S0 0) 0).1),S ((ap (S0 0) 0).2),.int .i64 (((ys.length:Nat):Int)-(k:Int))]) (cC  rfl ?_) E ⟨_,_,_,_,_,rfl,Ar,((A1).rw).mono U,nm,((Ao).mt).mono U⟩;refine ak (t:=1) (cs:=[.slice A2 xs.length Ab,.slice Am k Af,S ((ap (S0 0) 0).1),S ((ap (S0 0) 0).2),.int .i64 (((ys.length:Nat):Int)-(k:Int))]) (b:=w.heap.size) (o:=0) j5 Z df ?_ ?_;exact Z;exact aa1 Av (i:=0) Z
def Hm {L V:Rows}{ys:List R}(hD:eZ w A C Y CY B CB L V ys)(ok:qi L V ys)(hb:ar w b 30 #[.slice A ys.length C,.slice Y ys.length CY,.slice B ys.length CB]){a:Addr}{W0 B0 G0:Rows}(hk:(L 0).length=k)(hE:Er w a)(eW:eY ys.length V=some W0)(eB:dM k (λj=>l8 L ys.length j) ys.length W0=some B0)(eG:dM k B0 ys.length L=some G0)(eC:eY k G0=none)(ht:Tb w):
 CL 39 #[pT b] w (fo (pE a) w):=by
 obtain⟨_,H,hM⟩:=hD.m;obtain⟨_,hy⟩:=hD.y;obtain⟨_,G,hV⟩:=hD.v;refine iW func39 Z (I ?_);refine al dw (λ_ O _=>?_);have hb:=be O.2 hb;have E:=O.2;refine I ?_;(try refine aa (aM (cs:=[.slice A ys.length C,.slice Y ys.length CY,.slice B ys.length CB]) (b:=b) (o:=0) dj Z bm Z (aa1 hb (i:=0) Z) ?_));refine cl lg (iJ (hM.ext E) (fe ok.hv) (hy.ext E) (hV.ext E) (fe ok.hv3) hD.c ok.hv ok.hv3 ok.hVl ok.hLl ok.hyo ok.hp (ht.ext E)) ?_;rintro _ _ A0 rfl;have⟨hb,E⟩:=bw A0.2 hb E;refine cl fK dn ?_;rintro _ _ A2 rfl;have⟨hb,E⟩:=bw A2.2 hb E;refine I ?_;(try refine aa (aM (cs:=[.slice A ys.length C,.slice Y ys.length CY,.slice B ys.length CB]) (b:=b) (o:=0) dj Z bm Z (aa1 hb (i:=0) Z) ?_));refine aa (b7 (vs:=[(0,.agg #[.slice A ys.length C,.slice Y ys.length CY,.slice B ys.length CB])]) (cells:=#[.slice A ys.length C,.slice Y ys.length CY,.slice B ys.length CB]) (pl:=[(0,3)]) nz oQ q0 Z q0 ?_)
 refine aa (dO (vs:=[.agg #[.slice A ys.length C,.slice Y ys.length CY,.slice B ys.length CB]]) IE Z (Ls (hM.ext E) (fe ok.hv) (hy.ext E) (hV.ext E) (fe ok.hv3) hD.c ok.hv hk (FC ok.hyo (jc ok.hv).1 (jc ok.hv).2.1) (Er.ext E hE) eW eB eG eC (ht.ext E)) (λ_ A1=>?_));have E:=xt E A1;refine I ?_;exact gD ⟨E,rfl⟩
def yD {L V:Rows}{ys:List R}(hD:eZ w A C Y CY B CB L V ys)(ok:qi L V ys){W0 B0 G0 C0 D0 X0 P0 Q0 S0:Rows}{rs xs:List R}(hk:(L 0).length=k)(e:Pn ys.length k L V ys W0 B0 G0 C0 D0 X0 P0 rs xs Q0 S0)(ht:Tb w):
 CL 14 #[.agg #[.slice A ys.length C,.slice Y ys.length CY,.slice B ys.length CB]] w (aH w λv w'=>∃u,v=.tuple #[u,.int .i64 0]/\mN w.heap.size w' u k xs C0 (ap (S0 0) 0) (((ys.length:Nat):Int)-(k:Int))):=by
 refine aC func14 Z (I ?_);refine bx (λAq As O=>?_);have E:=As.2;refine al dw (λ_ Av Af=>?_);have⟨O,E⟩:=bw Av.2 O E;refine I ?_;refine aa (aE (vf:=[]) (vc:=[pT w.heap.size]) Z Z ?_);refine cl Cb (Lt (gf:=39) (lb:=[pT w.heap.size]) Cc (λW q=>Lw (hD.ext (xt E q)) ok (be q O) hk e (ht.ext (xt E q)))) ?_;rintro _ _ Ax ⟨B1,rfl,A2,Ap,Ao,Ab,B2,rfl,Ay,nm,Az,Aw⟩;have⟨O,Af,E⟩:=cD Ax.2 O Af E;have Am:=ab9 nm;have A1:=ab6 Aw;refine I ?_;refine aa (bo (b:=Aq.heap.size) (o:=0) (vs:=[.slice A2 xs.length Ap,.slice Ao k Ab,S ((ap (S0 0) 0).1),S ((ap (S0 0) 0).2),.int .i64 (((ys.length:Nat):Int)-(k:Int))]) df Z Z zl Af (qa3 Z) (λ_ A0 Ar=>?_));have O:=pb A0 O;have Am:=ac1 A0 U Am;have A1:=ad0 A0 U A1;have E:=bA A0 E;refine I ?_;refine ba (v:=.tuple #[.agg #[.slice A2 xs.length Ap,.slice Ao k Ab,S ((ap (S0 0) 0).1),S ((ap (S0 0) 0).2),.int .i64 (((ys.length:Nat):Int)-(k:Int))],.int .i64 0]) (de (r1:=.cell 2 40) (r2:=.tmp 3) Z ?_ ?_) E ⟨_,rfl,_,_,_,_,_,rfl,Ay,((Am).rw).mono U,Az,((A1).mt).mono U⟩
 refine ak (t:=2) (cs:=[.slice A2 xs.length Ap,.slice Ao k Ab,S ((ap (S0 0) 0).1),S ((ap (S0 0) 0).2),.int .i64 (((ys.length:Nat):Int)-(k:Int))]) (b:=Aq.heap.size) (o:=0) j5 Z df ?_ ?_;exact Z;exact aa1 Ar (i:=0) Z;exact aL (t:=3) Wf _
def Lx {L V:Rows}{ys:List R}(hD:eZ w A C Y CY B CB L V ys)(ok:qi L V ys){a:Addr}{W0 B0 G0:Rows}(hk:(L 0).length=k)(hE:Er w a)(eW:eY ys.length V=some W0)(eB:dM k (λj=>l8 L ys.length j) ys.length W0=some B0)(eG:dM k B0 ys.length L=some G0)(eC:eY k G0=none)(ht:Tb w):
 CL 14 #[.agg #[.slice A ys.length C,.slice Y ys.length CY,.slice B ys.length CB]] w (aH w λv w'=>v=.tuple #[.agg #[.slice none 0 0,.slice none 0 0,S [],S [],.int .i64 0],.int .i64 140]):=by
 refine aC func14 Z (I ?_);refine bx (λA1 Ao O=>?_);have E:=Ao.2;refine al dw (λ_ Am A0=>?_);have⟨O,E⟩:=bw Am.2 O E;refine I ?_;refine aa (aE (vf:=[]) (vc:=[pT w.heap.size]) Z Z ?_);refine cl Cb (wU (gf:=39) (lb:=[pT w.heap.size]) (Er.ext E hE) Cc (λW q=>Hm (hD.ext (xt E q)) ok (be q O) hk (Er.ext (xt E q) hE) eW eB eG eC (ht.ext (xt E q)))) ?_;rintro _ _ Af rfl;have⟨O,A0,E⟩:=cD Af.2 O A0 E;refine I ?_;refine aa (bo (b:=A1.heap.size) (o:=0) (vs:=[.slice none 0 0,.slice none 0 0,S [],S [],.int .i64 0]) df Z Z zl A0 (qa3 Z) (λ_ A2 Ab=>?_));have O:=pb A2 O;have E:=bA A2 E;refine I ?_;refine ba (v:=.tuple #[.agg #[.slice none 0 0,.slice none 0 0,S [],S [],.int .i64 0],.int .i64 140]) (de (r1:=.cell 2 40) (r2:=.tmp 3) Z ?_ ?_) E Z;refine ak (t:=2) (cs:=[.slice none 0 0,.slice none 0 0,S [],S [],.int .i64 0]) (b:=A1.heap.size) (o:=0) j5 Z df ?_ ?_;exact Z;exact aa1 Ab (i:=0) Z;exact aL (t:=3) Wf _
def Xx :Mt w 0 none 0 (λ_=>.nilIface) pI:=⟨by simpa using Rw.nil w 0,λi h=>by omega,λi h=>by omega,λi h=>by omega⟩
def UC:vM 0 pI=false:=qa2 λh=>by have:=h.1;omega
def uZ (ht:Tb w):
 CL 32 #[.agg #[.slice none 0 0,.slice none 0 0,.slice none 0 0]] w (aH w λv w'=>v=.bool false):=by
 refine aC func32 Z (I ?_);refine bx (λ_ O _=>?_);have E:=O.2;refine I ?_;refine cl tg (no (Y:=.bool false) (val_ok Xx yC (ht.ext E)) (qb2 Value.bool UC)) ?_;rintro _ _ A0 rfl;have E:=xt E A0.2;refine I ?_;exact am (t:=2) (v:=.bool false) Z E Z Z
def Dv {a:Addr}(hb:ar w b 30 #[.slice none 0 0,.slice none 0 0,.slice none 0 0])(hE:Er w a)(ht:Tb w):
 CL 39 #[pT b] w (fo (pE a) w):=by
 refine iW func39 Z (I ?_);refine al dw (λ_ O _=>?_);have hb:=be O.2 hb;have E:=O.2;refine I ?_;(try refine aa (aM (cs:=[.slice none 0 0,.slice none 0 0,.slice none 0 0]) (b:=b) (o:=0) dj Z bm Z (aa1 hb (i:=0) Z) ?_));refine cl lg (uZ (ht.ext E)) ?_;rintro _ _ A0 rfl;have E:=xt E A0.2;refine aa (dO (vs:=[.bool false]) fK Z (uI (Er.ext E hE)) (λ_ A1=>?_));have E:=xt E A1;refine I ?_;exact gD ⟨E,rfl⟩
def Ly {a:Addr}(hE:Er w a)(ht:Tb w):
 CL 14 #[.agg #[.slice none 0 0,.slice none 0 0,.slice none 0 0]] w (aH w λv w'=>v=.tuple #[.agg #[.slice none 0 0,.slice none 0 0,S [],S [],.int .i64 0],.int .i64 140]):=by
 refine aC func14 Z (I ?_);refine bx (λA1 Ao O=>?_);have E:=Ao.2;refine al dw (λ_ Am A0=>?_);have⟨O,E⟩:=bw Am.2 O E;refine I ?_;refine aa (aE (vf:=[]) (vc:=[pT w.heap.size]) Z Z ?_);refine cl Cb (wU (gf:=39) (lb:=[pT w.heap.size]) (Er.ext E hE) Cc (λW q=>Dv (be q O) (Er.ext (xt E q) hE) (ht.ext (xt E q)))) ?_;rintro _ _ Af rfl;have⟨O,A0,E⟩:=cD Af.2 O A0 E;refine I ?_;refine aa (bo (b:=A1.heap.size) (o:=0) (vs:=[.slice none 0 0,.slice none 0 0,S [],S [],.int .i64 0]) df Z Z zl A0 (qa3 Z) (λ_ A2 Ab=>?_));have O:=pb A2 O;have E:=bA A2 E;refine I ?_;refine ba (v:=.tuple #[.agg #[.slice none 0 0,.slice none 0 0,S [],S [],.int .i64 0],.int .i64 140]) (de (r1:=.cell 2 40) (r2:=.tmp 3) Z ?_ ?_) E Z;refine ak (t:=2) (cs:=[.slice none 0 0,.slice none 0 0,S [],S [],.int .i64 0]) (b:=A1.heap.size) (o:=0) j5 Z df ?_ ?_;exact Z;exact aa1 Ab (i:=0) Z;exact aL (t:=3) Wf _
def Lz {L V:Rows}{ys:List R}(hD:eZ w A C Y CY B CB L V ys)(ok:qi L V ys){zs:List R}(hb:ar w b 30 #[.slice A ys.length C,.slice Y ys.length CY,.slice B ys.length CB])(hb2:ar w b2 28 #[.slice X zs.length CX])(hz:Rw w lo4 X (ag zs)){P:Rows}{rs:List R}(hzv:vM zs.length (cg zs)=true)(eP:dM ys.length L zs.length (cg zs)=some P)(hPl:∀i,i<ys.length->0<(P i).length)(hrl:rs.length=ys.length)(hr:∀i,i<ys.length->dE (ap ys i) (ap (P i) 0)=some (ap rs i))(ht:Tb w):
 CL 59 #[pT b,pT b2] w (aH w λv w'=>AX w.heap.size w' v rs):=by
 obtain⟨_,H,hM⟩:=hD.m;obtain⟨_,hy⟩:=hD.y;obtain⟨_,G,hV⟩:=hD.v;have CG:=(jc hzv).2.1;refine aC func59 Z (I ?_);(try refine aa (aM (cs:=[.slice A ys.length C,.slice Y ys.length CY,.slice B ys.length CB]) (b:=b) (o:=0) dj Z bm Z (aa1 hb (i:=0) Z) ?_));refine cl lg (iJ (hM.ext (aa0 _)) (fe ok.hv) (hy.ext (aa0 _)) (hV.ext (aa0 _)) (fe ok.hv3) hD.c ok.hv ok.hv3 ok.hVl ok.hLl ok.hyo ok.hp (ht.ext (aa0 _))) ?_;rintro _ _ A1 rfl;have⟨hb,hb2⟩:=gu A1.2 hb hb2;have E:=A1.2;refine cl fK dn ?_;rintro _ A0 Am rfl;have⟨hb,hb2,E⟩:=cD Am.2 hb hb2 E;refine I ?_;refine bP 4 ?_;refine aB (λ_ _ Aw _=>by have hb:=be Aw hb;(try refine aa (aM (cs:=[.slice A ys.length C,.slice Y ys.length CY,.slice B ys.length CB]) (b:=b) (o:=0) dj Z bm Z (aa1 hb (i:=0) Z) ?_));refine I ?_;exact aK) ?_;refine aB (λ_ _ _ _=>by refine aa (b7 (vs:=[(0,.agg #[.slice A ys.length C,.slice Y ys.length CY,.slice B ys.length CB])]) (cells:=#[.slice A ys.length C,.slice Y ys.length CY,.slice B ys.length CB]) (pl:=[(0,3)]) nz oQ q0 Z q0 ?_);refine I ?_;exact aK) ?_;refine sf ?_
 refine b8 (fun(v:Value) (W:World)=>∃A C H,v=Value.slice A zs.length C/\zs.length<=C/\Mt W A0.heap.size A zs.length H (cg zs)) (hs:=λ_ _ _ k h=>by obtain⟨A,C,H,e,c,r⟩:=h;exact⟨A,C,H,e,c,r.ext k⟩) (λ_ _ O _=>?_) ?_;refine clb xx (hc:=lL (hz.ext (xt E O)) U) (hk:=?_);rintro _ _ Az ⟨Cr,C0,D1,rfl,B0,nm⟩;have B2:=ab6 nm;refine I ?_;exact fs ⟨Az.2,⟨_,_,_,rfl,B0,((B2).mt).mono (by have:=bz O;omega)⟩⟩;refine sf ?_;intro Ax A2 Ar Ay;have E:=xt E Ar.2;have ny:∃A C H,Ax 9=Value.slice A zs.length C/\zs.length<=C/\Mt A2 A0.heap.size A zs.length H (cg zs):=(Ay 3 9 Z Z);(with_reducible obtain⟨_,_,_,As,_,Ao⟩:=ny);have Av:=ab6 Ao;refine cl IH (AZ (hM.ext E) (fe ok.hv) (hy.ext E) (hV.ext E) (fe ok.hv3) hD.c ok.hv (Av).mt (fe hzv) eP (gG eP) hPl hrl hr (ht.ext E)) ?_ (aw Z (aw (by exact As) Z));rintro _ _ Ab ⟨Af,Aq,rfl,Ap,B1⟩;have E:=xt E Ab.2;have wr:=ab9 B1;refine I ?_;exact am (t:=2) (v:=.slice Af rs.length Aq) Z E ⟨_,_,rfl,Ap,((wr).rw).mono U⟩ Z
def Pp {L V:Rows}{ys:List R}(hD:eZ w A C Y CY B CB L V ys)(ok:qi L V ys){zs:List R}(hz:Rw w lo4 X (ag zs)){P:Rows}{rs:List R}(hzv:vM zs.length (cg zs)=true)(eP:dM ys.length L zs.length (cg zs)=some P)(hPl:∀i,i<ys.length->0<(P i).length)(hrl:rs.length=ys.length)(hr:∀i,i<ys.length->dE (ap ys i) (ap (P i) 0)=some (ap rs i))(ht:Tb w):
 CL 24 #[.agg #[.slice A ys.length C,.slice Y ys.length CY,.slice B ys.length CB],.slice X zs.length CX] w (aH w λv w'=>∃u,v=.tuple #[u,.int .i64 0]/\AX w.heap.size w' u rs):=by
 obtain⟨_,H,_⟩:=hD.m;obtain⟨_,_⟩:=hD.y;obtain⟨_,G,_⟩:=hD.v;refine aC func24 Z (I ?_);refine bx (λA0 Ap O=>?_);have E:=Ap.2;refine bx (λ_ Af A2=>?_);have⟨O,E⟩:=bw Af.2 O E;refine I ?_;refine aa (aE (vf:=[]) (vc:=[pT w.heap.size,pT A0.heap.size]) Z Z ?_);refine cl SH (Lv (gf:=59) (lb:=[pT w.heap.size,pT A0.heap.size]) SI (λW q=>Lz (hD.ext (xt E q)) ok (be q O) (be q A2) (hz.ext (xt E q)) hzv eP hPl hrl hr (ht.ext (xt E q)))) ?_;rintro _ _ Ar ⟨nm,rfl,Ao,Ab,rfl,Am,A1⟩;have E:=xt E Ar.2;have Aq:=ab9 A1;refine I ?_;exact bF (t:=4) (u:=5) (v1:=.slice Ao rs.length Ab) (v2:=.int .i64 0) Z E ⟨_,rfl,_,_,rfl,Am,((Aq).rw).mono U⟩ Z Z
def Sc.fi {S:Nat}(h:Sc S):Fi S:=g7 h.lt dc
def LA (k:Nat):eJ (49::List.replicate k 48)=List.replicate k 0++[1]:=by simp[eJ]
def LB (k:Nat):bS 10 (List.replicate k 0++[1])=10^k:=by
 induction k with
 |zero=>rfl
 |succ k ih=>rw[List.replicate_succ,List.cons_append];show 0+10*bS 10 (List.replicate k 0++[1])=_;rw[ih,Nat.pow_succ];omega
def Pq (h:k<200):(49::List.replicate k 48:List UInt8)=nS (10^k):=by
 have h1:eo (49::List.replicate k 48)=true:=by
  simp only[eo,Bool.and_eq_true,Bool.or_eq_true,decide_eq_true_eq]
  refine⟨⟨⟨by simp,by simp;omega⟩,?_⟩,Or.inr zd⟩
  rw[List.all_cons,List.all_eq_true.2]
  · decide
  · intro x hx;rw[List.eq_of_mem_replicate hx];decide
 have h2:=tQ h1
 have h3:aD (49::List.replicate k 48)=10^k:=by unfold aD;rw[LA,LB]
 rw[h3]at h2
 rw[<-h2];unfold nS ae
 rw[if_neg U,Int.natAbs_natCast]
def qZ (k:Nat):Lib.repeatL [48] k=List.replicate k 48:=by
 induction k with
 |zero=>rfl
 |succ k ih=>simp[Lib.repeatL,List.replicate_succ]at ih ⊢;exact ih
def p9 (h:k<200):([49]:List UInt8)++Lib.repeatL [48] k=nS (10^k):=by rw[qZ,<-Pq h];rfl
def LC {a:Nat}(ha:a<10^199)(hb:b<10^199):Fz ((a:Int)-(b:Int)):=by unfold Fz;omega
def nd (hp:pl<200)(ht:Tb w):
 CL 202 #[.int .i64 pl] w (aH w λv w'=>v=.agg #[.int .i64 pl,S (nS (10^pl))]):=by
 refine aC func202 Z (I ?_);refine al oP (λ_ Ab O=>?_);have E:=Ab.2;refine I ?_;refine clb Il (hc:=qK [48] pl _ U dc) (hk:=?_);rintro _ _ A1 rfl;have⟨O,E⟩:=bw A1.2 O E;refine aa (xh (a:=[49]) (b:=Lib.repeatL [48] pl) Z Z (by rw[qZ];simp;omega) ?_);refine I ?_;refine SA O (λ_ A0 A2=>?_);have E:=bA A0 E;refine I ?_;refine ba (v:=.agg #[.int .i64 pl,S (([49])++(Lib.repeatL [48] pl))]) (cC  rfl ?_) E (by rw[p9 hp]);refine ak (t:=2) (cs:=[.int .i64 pl,S (([49])++(Lib.repeatL [48] pl))]) (b:=w.heap.size) (o:=0) DY Z Ib ?_ ?_;exact Z;exact aa1 A2 (i:=0) Z
def gO {a b:List UInt8}:
 CL 149 #[S a,S b] w (aH w λv w'=>v=.agg #[S a,S b]):=by
 refine aC func149 Z (I ?_);refine al aZ (λ_ A0 O=>?_);have E:=A0.2;refine I ?_;refine SA O (λ_ A2 A1=>?_);have E:=bA A2 E;refine I ?_;refine ba (v:=.agg #[S a,S b]) (cC  rfl ?_) E Z;refine ak (t:=4) (cs:=[S a,S b]) (b:=w.heap.size) (o:=0) iT Z bX ?_ ?_;exact Z;exact aa1 A1 (i:=0) Z
def Pr {d:Nat}(hS:Sc sO)(hn:Fi n)(hd:Fi d)(h0:0<d)(hm:Fi (n*sO))(ht:Tb w):
 CL 188 #[.agg #[.int .i64 pl,S (nS sO)],.agg #[S (nS n),S (nS d)]] w (aH w λv w'=>v=.agg #[S (nS ((qj sO n d).1)),S (nS ((qj sO n d).2))]):=by
 refine aC func188 Z (I ?_);refine bx (λ_ ny O=>?_);have E:=ny.2;refine bx (λAp Ao A0=>?_);have⟨O,E⟩:=bw Ao.2 O E;refine al bQ (λ_ Aq A1=>?_);have⟨O,A0,E⟩:=cD Aq.2 O A0 E;refine I ?_;refine cl iw (gl Z Z hn hS.fi hm (ht.ext E)) ?_;rintro _ _ Af rfl;have⟨O,A0,A1,E⟩:=fE Af.2 O A0 A1 E;refine I ?_;refine bP 7 ?_;refine sf ?_;refine a7 (V:=S (nS ((n*sO)/d))) (λ_ _ Ar _=>?_) ?_;refine cl xp (pV Z Z hm hd h0 (ht.ext (xt E Ar))) ?_;rintro _ _ As rfl;have od:=As.2;refine I ?_;exact fs ⟨od,rfl⟩;refine sf ?_;intro _ _ Am _;have⟨O,A0,A1,E⟩:=fE Am.2 O A0 A1 E;refine cl xq (yw Z Z hm hd h0 (ht.ext E)) ?_;rintro _ _ Av rfl;have⟨O,A0,A1,E⟩:=fE Av.2 O A0 A1 E;refine I ?_;refine SA A1 (λ_ A2 Ab=>?_);have⟨O,A0⟩:=lw A2 O A0;have E:=bA A2 E;refine I ?_;refine ba (v:=.agg #[S (nS ((n*sO)/d)),S (nS (sQ (n*sO) d))]) (cC  rfl ?_) E Z;refine ak (t:=4) (cs:=[S (nS ((n*sO)/d)),S (nS (sQ (n*sO) d))]) (b:=Ap.heap.size) (o:=0) jr Z fI ?_ ?_;exact Z;exact aa1 Ab (i:=0) Z
def iK (hS:Sc sO)(h9:n<10^9)(hm:Fi (n*sO))(ht:Tb w):
 CL 191 #[.agg #[.int .i64 pl,S (nS sO)],.int .i64 n] w (aH w λv w'=>v=.agg #[S (nS ((n*sO,n*sO).1)),S (nS ((n*sO,n*sO).2))]):=by
 have Ar:Fi n:=g7 (k:=9) h9 dc;refine aC func191 Z (I ?_);refine bx (λAb Ap O=>?_);have E:=Ap.2;refine al bQ (λ_ As A0=>?_);have⟨O,E⟩:=bw As.2 O E;refine I ?_;refine bP 4 ?_;refine sf ?_;refine a7 (V:=S (nS n)) (λ_ _ Af _=>?_) ?_;refine cl tn (uL h9 (ht.ext (xt E Af))) ?_;rintro _ _ Aq rfl;have Am:=Aq.2;refine I ?_;exact fs ⟨Am,rfl⟩;refine sf ?_;intro _ _ A2 _;have⟨O,A0,E⟩:=cD A2.2 O A0 E;refine cl iw (gl Z Z Ar hS.fi hm (ht.ext E)) ?_;rintro _ _ Ao rfl;have⟨O,A0,E⟩:=cD Ao.2 O A0 E;refine I ?_;refine SA A0 (λ_ A1 nm=>?_);have O:=pb A1 O;have E:=bA A1 E;refine I ?_;refine ba (v:=.agg #[S (nS (n*sO)),S (nS (n*sO))]) (cC  rfl ?_) E Z;refine ak (t:=4) (cs:=[S (nS (n*sO)),S (nS (n*sO))]) (b:=Ab.heap.size) (o:=0) jr Z fI ?_ ?_;exact Z;exact aa1 nm (i:=0) Z
def Hn {a b:N2}(h1:Fi (a.1+b.1))(h2:Fi (a.2+b.2))(ht:Tb w):
 CL 223 #[.agg #[.int .i64 pl,S (nS sO)],.agg #[S (nS a.1),S (nS a.2)],.agg #[S (nS b.1),S (nS b.2)]] w (aH w λv w'=>v=.agg #[S (nS ((Ri a b).1)),S (nS ((Ri a b).2))]):=by
 refine aC func223 Z (I ?_);refine bx (λ_ Aq O=>?_);have E:=Aq.2;refine bx (λ_ Af A0=>?_);have⟨O,E⟩:=bw Af.2 O E;refine bx (λAv od A1=>?_);have⟨O,A0,E⟩:=cD od.2 O A0 E;refine al bQ (λ_ Ax A2=>?_);have⟨O,A0,A1,E⟩:=fE Ax.2 O A0 A1 E;refine I ?_;refine bP 9 ?_;refine sf ?_;refine a7 (V:=S (nS (a.1+b.1))) (λ_ _ Am _=>?_) ?_;refine cl mp (kr Z Z h1 (ht.ext (xt E Am))) ?_;rintro _ _ Ar rfl;have Ao:=Ar.2;refine I ?_;exact fs ⟨Ao,rfl⟩;refine sf ?_;intro _ _ Aw _;have⟨O,A0,A1,A2,E⟩:=ka Aw.2 O A0 A1 A2 E;refine cl mp (kr Z Z h2 (ht.ext E)) ?_;rintro _ _ Ap rfl;have⟨O,A0,A1,A2,E⟩:=ka Ap.2 O A0 A1 A2 E;refine I ?_;refine SA A2 (λ_ Ab As=>?_);have⟨O,A0,A1⟩:=nW Ab O A0 A1;have E:=bA Ab E;refine I ?_;refine ba (v:=.agg #[S (nS (a.1+b.1)),S (nS (a.2+b.2))]) (cC  rfl ?_) E Z;refine ak (t:=6) (cs:=[S (nS (a.1+b.1)),S (nS (a.2+b.2))]) (b:=Av.heap.size) (o:=0) jr Z fI ?_ ?_;exact Z;exact aa1 As (i:=0) Z
def u3 {a b:N2}(ha:Bk 199 a)(hb:Bk 199 b)(ht:Tb w):
 CL 197 #[.agg #[.int .i64 pl,S (nS sO)],.agg #[S (nS a.1),S (nS a.2)],.agg #[S (nS b.1),S (nS b.2)]] w (aH w λv w'=>v=.agg #[S (ae ((BK a b).1)),S (ae ((BK a b).2))]):=by
 have Ab:=ha.fi dc;have Am:=hb.fi dc;refine aC func197 Z (I ?_);refine bx (λ_ Ay O=>?_);have E:=Ay.2;refine bx (λ_ Ao A0=>?_);have⟨O,E⟩:=bw Ao.2 O E;refine bx (λAr od A1=>?_);have⟨O,A0,E⟩:=cD od.2 O A0 E;refine al bQ (λ_ Av A2=>?_);have⟨O,A0,A1,E⟩:=fE Av.2 O A0 A1 E;refine I ?_;refine bP 9 ?_;refine sf ?_;refine a7 (V:=S (ae (((a.1:Nat):Int)-((b.2:Nat):Int)))) (λ_ _ Aw _=>?_) ?_;refine cl It (Fy Z Z Ab.1.z Am.2.z (LC ha.1 hb.2) (ht.ext (xt E Aw))) ?_;rintro _ _ Aq rfl;have Ap:=Aq.2;refine I ?_;exact fs ⟨Ap,rfl⟩;refine sf ?_;intro _ _ As _;have⟨O,A0,A1,A2,E⟩:=ka As.2 O A0 A1 A2 E;refine cl It (Fy Z Z Ab.2.z Am.1.z (LC ha.2 hb.1) (ht.ext E)) ?_;rintro _ _ Ax rfl;have⟨O,A0,A1,A2,E⟩:=ka Ax.2 O A0 A1 A2 E;refine I ?_;refine SA A2 (λ_ Af Az=>?_);have⟨O,A0,A1⟩:=nW Af O A0 A1;have E:=bA Af E;refine I ?_;refine ba (v:=.agg #[S (ae (((a.1:Nat):Int)-((b.2:Nat):Int))),S (ae (((a.2:Nat):Int)-((b.1:Nat):Int)))]) (cC  rfl ?_) E Z;refine ak (t:=6) (cs:=[S (ae (((a.1:Nat):Int)-((b.2:Nat):Int))),S (ae (((a.2:Nat):Int)-((b.1:Nat):Int)))]) (b:=Ar.heap.size) (o:=0) jr Z fI ?_ ?_;exact Z;exact aa1 Az (i:=0) Z
def gP {a b:N2}(hS:Sc sO)(ha:Bk 95 a)(hb:Bk 95 b)(ht:Tb w):
 CL 193 #[.agg #[.int .i64 pl,S (nS sO)],.agg #[S (nS a.1),S (nS a.2)],.agg #[S (nS b.1),S (nS b.2)]] w (aH w λv w'=>v=.agg #[S (nS ((na sO a b).1)),S (nS ((na sO a b).2))]):=by
 have Af:=ha.fi dc;have Am:=hb.fi dc;refine aC func193 Z (I ?_);refine bx (λ_ C0 O=>?_);have E:=C0.2;refine bx (λ_ Ap A0=>?_);have⟨O,E⟩:=bw Ap.2 O E;refine bx (λB1 CG A1=>?_);have⟨O,A0,E⟩:=cD CG.2 O A0 E;refine al bQ (λ_ D1 A2=>?_);have⟨O,A0,A1,E⟩:=fE D1.2 O A0 A1 E;refine I ?_;refine bP 15 ?_;refine sf ?_;refine a7 (V:=S (nS (a.1*b.1))) (λ_ _ Ay _=>?_) ?_;refine clb iw (hc:=gl Z Z Af.1 Am.1 (fZ ha.1 hb.1 dc) (ht.ext (xt E Ay))) (hk:=?_);rintro _ _ Ar rfl;have Ax:=Ar.2;refine I ?_;exact fs ⟨Ax,rfl⟩;refine sf ?_;refine a7 (V:=S (nS ((a.1*b.1)/sO))) (λ_ _ As _=>?_) ?_;refine clb xp (hc:=pV Z Z (fZ ha.1 hb.1 dc) hS.fi hS.pos (ht.ext (xt E As))) (hk:=?_);rintro _ _ Az rfl;have Aq:=Az.2;refine I ?_;exact fs ⟨Aq,rfl⟩;refine sf ?_;refine a7 (V:=S (nS (a.2*b.2))) (λ_ _ Av _=>?_) ?_;refine clb iw (hc:=gl Z Z Af.2 Am.2 (fZ ha.2 hb.2 dc) (ht.ext (xt E Av))) (hk:=?_);rintro _ _ Ao rfl;have B0:=Ao.2;refine I ?_;exact fs ⟨B0,rfl⟩;refine sf ?_;intro _ _ B2 _;have⟨O,A0,A1,A2,E⟩:=ka B2.2 O A0 A1 A2 E;refine clb xq (hc:=yw Z Z (fZ ha.2 hb.2 dc) hS.fi hS.pos (ht.ext E)) (hk:=?_);rintro _ _ Aw rfl;have⟨O,A0,A1,A2,E⟩:=ka Aw.2 O A0 A1 A2 E;refine I ?_;refine SA A2 (λ_ Ab Cr=>?_);have⟨O,A0,A1⟩:=nW Ab O A0 A1
 have E:=bA Ab E;refine I ?_;refine ba (v:=.agg #[S (nS ((a.1*b.1)/sO)),S (nS (sQ (a.2*b.2) sO))]) (cC  rfl ?_) E Z;refine ak (t:=6) (cs:=[S (nS ((a.1*b.1)/sO)),S (nS (sQ (a.2*b.2) sO))]) (b:=B1.heap.size) (o:=0) jr Z fI ?_ ?_;exact Z;exact aa1 Cr (i:=0) Z
def wW {a b:N2}(hS:Sc sO)(ha:Bk 95 a)(hb:Bk 190 b)(h1:0<b.1)(h2:0<b.2)(ht:Tb w):
 CL 198 #[.agg #[.int .i64 pl,S (nS sO)],.agg #[S (nS a.1),S (nS a.2)],.agg #[S (nS b.1),S (nS b.2)]] w (aH w λv w'=>v=.agg #[S (nS ((vU sO a b).1)),S (nS ((vU sO a b).2))]):=by
 have Af:=ha.fi dc;have Am:=hb.fi dc;refine aC func198 Z (I ?_);refine bx (λ_ C0 O=>?_);have E:=C0.2;refine bx (λ_ Ap A0=>?_);have⟨O,E⟩:=bw Ap.2 O E;refine bx (λB1 CG A1=>?_);have⟨O,A0,E⟩:=cD CG.2 O A0 E;refine al bQ (λ_ D1 A2=>?_);have⟨O,A0,A1,E⟩:=fE D1.2 O A0 A1 E;refine I ?_;refine bP 15 ?_;refine sf ?_;refine a7 (V:=S (nS (a.1*sO))) (λ_ _ Ay _=>?_) ?_;refine clb iw (hc:=gl Z Z Af.1 hS.fi (fZ ha.1 hS.lt dc) (ht.ext (xt E Ay))) (hk:=?_);rintro _ _ Ar rfl;have Ax:=Ar.2;refine I ?_;exact fs ⟨Ax,rfl⟩;refine sf ?_;refine a7 (V:=S (nS ((a.1*sO)/b.2))) (λ_ _ As _=>?_) ?_;refine clb xp (hc:=pV Z Z (fZ ha.1 hS.lt dc) Am.2 h2 (ht.ext (xt E As))) (hk:=?_);rintro _ _ Az rfl;have Aq:=Az.2;refine I ?_;exact fs ⟨Aq,rfl⟩;refine sf ?_;refine a7 (V:=S (nS (a.2*sO))) (λ_ _ Av _=>?_) ?_;refine clb iw (hc:=gl Z Z Af.2 hS.fi (fZ ha.2 hS.lt dc) (ht.ext (xt E Av))) (hk:=?_);rintro _ _ Ao rfl;have B0:=Ao.2;refine I ?_;exact fs ⟨B0,rfl⟩;refine sf ?_;intro _ _ B2 _;have⟨O,A0,A1,A2,E⟩:=ka B2.2 O A0 A1 A2 E;refine clb xq (hc:=yw Z Z (fZ ha.2 hS.lt dc) Am.1 h1 (ht.ext E)) (hk:=?_);rintro _ _ Aw rfl;have⟨O,A0,A1,A2,E⟩:=ka Aw.2 O A0 A1 A2 E;refine I ?_;refine SA A2 (λ_ Ab Cr=>?_);have⟨O,A0,A1⟩:=nW Ab O A0 A1;have E:=bA Ab E
 refine I ?_;refine ba (v:=.agg #[S (nS ((a.1*sO)/b.2)),S (nS (sQ (a.2*sO) b.1))]) (cC  rfl ?_) E Z;refine ak (t:=6) (cs:=[S (nS ((a.1*sO)/b.2)),S (nS (sQ (a.2*sO) b.1))]) (b:=B1.heap.size) (o:=0) jr Z fI ?_ ?_;exact Z;exact aa1 Cr (i:=0) Z
def lN {a:N2}{d:Nat}(ha:Bk 190 a)(hn:n<10^9)(hd:d<10^9)(h0:0<d)(ht:Tb w):
 CL 187 #[.agg #[.int .i64 pl,S (nS sO)],.agg #[S (nS a.1),S (nS a.2)],.int .i64 n,.int .i64 d] w (aH w λv w'=>v=.agg #[S (nS ((lK a n d).1)),S (nS ((lK a n d).2))]):=by
 have A2:=ha.fi dc;refine aC func187 Z (I ?_);refine bx (λ_ wr O=>?_);have E:=wr.2;refine bx (λAf B2 A0=>?_);have⟨O,E⟩:=bw B2.2 O E;refine al bQ (λ_ C0 A1=>?_);have⟨O,A0,E⟩:=cD C0.2 O A0 E;refine I ?_;refine cl tn (uL hn (ht.ext E)) ?_;rintro _ _ Av rfl;have⟨O,A0,A1,E⟩:=fE Av.2 O A0 A1 E;refine I ?_;refine cl tn (uL hd (ht.ext E)) ?_;rintro _ _ Ao rfl;have⟨O,A0,A1,E⟩:=fE Ao.2 O A0 A1 E;refine I ?_;refine bP 11 ?_;refine sf ?_;refine a7 (V:=S (nS (a.1*n))) (λ_ _ Aq _=>?_) ?_;refine clb iw (hc:=gl Z Z A2.1 (g7 hn dc) (fZ ha.1 hn dc) (ht.ext (xt E Aq))) (hk:=?_);rintro _ _ Aw rfl;have Ax:=Aw.2;refine I ?_;exact fs ⟨Ax,rfl⟩;refine sf ?_;refine a7 (V:=S (nS ((a.1*n)/d))) (λ_ _ Ar _=>?_) ?_;refine clb xp (hc:=pV Z Z (fZ ha.1 hn dc) (g7 hd dc) h0 (ht.ext (xt E Ar))) (hk:=?_);rintro _ _ Ab rfl;have B1:=Ab.2;refine I ?_;exact fs ⟨B1,rfl⟩;refine sf ?_;refine a7 (V:=S (nS (a.2*n))) (λ_ _ B0 _=>?_) ?_;refine clb iw (hc:=gl Z Z A2.2 (g7 hn dc) (fZ ha.2 hn dc) (ht.ext (xt E B0))) (hk:=?_);rintro _ _ As rfl;have Am:=As.2;refine I ?_;exact fs ⟨Am,rfl⟩;refine sf ?_;intro _ _ Ap _;have⟨O,A0,A1,E⟩:=fE Ap.2 O A0 A1 E;refine clb xq (hc:=yw Z Z (fZ ha.2 hn dc) (g7 hd dc) h0 (ht.ext E)) (hk:=?_)
 rintro _ _ Az rfl;have⟨O,A0,A1,E⟩:=fE Az.2 O A0 A1 E;refine I ?_;refine SA A1 (λ_ nm Ay=>?_);have⟨O,A0⟩:=lw nm O A0;have E:=bA nm E;refine I ?_;refine ba (v:=.agg #[S (nS ((a.1*n)/d)),S (nS (sQ (a.2*n) d))]) (cC  rfl ?_) E Z;refine ak (t:=8) (cs:=[S (nS ((a.1*n)/d)),S (nS (sQ (a.2*n) d))]) (b:=Af.heap.size) (o:=0) jr Z fI ?_ ?_;exact Z;exact aa1 Ay (i:=0) Z
end
end Go.Proofs.YtlmihmlnpjkblaaGreatDoor
