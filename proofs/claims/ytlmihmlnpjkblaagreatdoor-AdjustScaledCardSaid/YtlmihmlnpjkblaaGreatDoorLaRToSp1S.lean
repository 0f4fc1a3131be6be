/- Part of the proof of a statement about an adjustment. -/
import Derived.Test.YtlmihmlnpjkblaaGreatDoorLin13ToLa2S
set_option linter.all false
namespace Go.Proofs.YtlmihmlnpjkblaaGreatDoor
open Go Go.Eng Go.RowKit Tryz
variable {a u s d:Int}{lb:List Value}{b n N D N' D' lo lo' i k C CY CB lo2 lo3 CX lo4 gf b2 pl sO:Nat}{H G F:Nat->Value}{A Y B X:Option Addr}{v:Value}{W W' w w':World}
section
def qv (a:R):Rat:=(aj a.1:Rat)/(aj a.2:Rat)
def Py {a:R}(h:bN a=true):Int.gcd (aj a.1) (aj a.2)=1:=by
 have h1:=jt h
 have h2:=gD h
 simp only[bN,Bool.and_eq_true,decide_eq_true_eq]at h
 have h3:=h.2
 unfold bV bg at h3
 rw[h1,h2,Bool.and_self,if_pos Z]at h3
 split at h3
 · have h4:ae ((Int.gcd (aj a.1) (aj a.2):Nat):Int)=ae 1:=by
    have:ae 1=[49]:=by decide +kernel
    rw[this];exact qb5 h3
   have:=nf h4
   omega
 · cases h3
def m0 {b:Int}(h:(a:Rat)=b):a=b:=by simpa using h
def dx (h:a≠0):(a:Rat)≠0:=λe=>h (m0 (by simpa using e))
def ie {a:R}(h:bN a=true):(aj a.2:Rat)≠0:=dx (by have:=c7 h;omega)
def vb {a:R}(h:bN a=true)(hs:s≠0)(hq:qv a=(u:Rat)/(s:Rat)):aj a.1*s=u*aj a.2:=by
 have h1:=ie h
 have h2:=dx hs
 unfold qv at hq
 refine m0 ?_
 rw[Rat.intCast_mul,Rat.intCast_mul]
 grind
def vd {b c:Int}(h:a∣b*c)(hg:Int.gcd a c=1):a∣b:=by
 have h1:a.natAbs∣b.natAbs*c.natAbs:=by rw[<-Int.natAbs_mul];exact Int.natAbs_dvd_natAbs.2 h
 exact Int.natAbs_dvd_natAbs.1 (Nat.Coprime.dvd_of_dvd_mul_right (show Nat.Coprime a.natAbs c.natAbs from hg) h1)
def Pz {a:R}(h:bN a=true)(hs:s≠0)(hq:qv a=(u:Rat)/(s:Rat)):aj a.1∣u/\aj a.2∣s:=by
 have hc:=vb h hs hq
 have E:=Py h
 constructor
 · exact vd (c:=aj a.2) ⟨s,by rw[<-hc]⟩ E
 · exact vd (c:=aj a.1) ⟨u,by rw[Int.mul_comm,hc,Int.mul_comm]⟩ (by rw[Int.gcd_comm];exact E)
def lc {b:Int}(hb:b≠0)(h:a∣b):a.natAbs<=b.natAbs:=Nat.le_of_dvd U (Int.natAbs_dvd_natAbs.2 h)
def UQ {a:R}(h:bN a=true)(hs:s≠0)(hq:qv a=(u:Rat)/(s:Rat)):(aj a.1).natAbs<=u.natAbs:=by
 by_cases hu:u=0
 · have:=vb h hs hq
   subst hu
   have E:aj a.1*s=0:=by rw[this];simp
   rcases Int.mul_eq_zero.1 E with e|e
   · rw[e];simp
   · exact absurd e hs
 · exact lc hu (Pz h hs hq).1
def UR {a:R}(h:bN a=true)(hs:s≠0)(hq:qv a=(u:Rat)/(s:Rat)):(aj a.2).natAbs<=s.natAbs:=lc hs (Pz h hs hq).2
def oJ {a b:R}(ha:bN a=true)(hb:bN b=true)(h:qv a=qv b):a=b:=by
 have E:=c7 ha
 have pb:=c7 hb
 have h1:=Pz ha (u:=aj b.1) (s:=aj b.2) U h
 have h2:=Pz hb (u:=aj a.1) (s:=aj a.2) U h.symm
 have e2:aj a.2=aj b.2:=Int.dvd_antisymm U U h1.2 h2.2
 have hc:=vb ha (u:=aj b.1) (s:=aj b.2) U h
 rw[e2]at hc
 have e1:aj a.1=aj b.1:=Int.eq_of_mul_eq_mul_right U hc
 exact Prod.ext (ug (jt ha) (jt hb) e1) (ug (gD ha) (gD hb) e2)
def m5:qv z0=0:=by
 unfold qv z0;rw[show aj [48]=0 by decide +kernel];simp;grind
def RP:qv o1=1:=by
 unfold qv o1;rw[show aj [49]=1 by decide +kernel];simp;grind
def PC {a:R}(h:bN a=true):qv a=0↔a=z0:=
 ⟨λe=>oJ h uz (by rw[e];exact m5.symm),λe=>by rw[e];exact m5⟩
def ve {n:Int}(hd:d≠0){q:R}(h:im n d=some q):qv q=(n:Rat)/(d:Rat):=by
 unfold im at h
 rw[if_neg hd]at h
 cases h
 unfold qv
 rw[aJ,aJ]
 unfold eh dn
 have A0:0<Int.gcd n d:=Int.gcd_pos_of_ne_zero_right _ hd
 obtain⟨g,hgg⟩:∃g:Nat,Int.gcd n d=g:=⟨_,rfl⟩
 rw[hgg]at A0 ⊢
 obtain⟨x,hx⟩:(g:Int)∣n:=by rw[<-hgg];exact Int.gcd_dvd_left ..
 obtain⟨y,hy⟩:(g:Int)∣d:=by rw[<-hgg];exact Int.gcd_dvd_right ..
 have E:(g:Int)≠0:=J
 have O:y≠0:=λe=>hd (by rw[hy,e];simp)
 have q1:=dx E
 have q2:=dx O
 by_cases hs:d<0
 · rw[if_pos hs,if_pos hs,hx,hy,<-Int.mul_neg,<-Int.mul_neg,Int.mul_ediv_cancel_left _ E,Int.mul_ediv_cancel_left _ E]
   rw[Rat.intCast_mul,Rat.intCast_mul,Rat.intCast_neg,Rat.intCast_neg]
   grind
 · rw[if_neg hs,if_neg hs,hx,hy,Int.mul_ediv_cancel_left _ E,Int.mul_ediv_cancel_left _ E]
   rw[Rat.intCast_mul,Rat.intCast_mul]
   grind
def qd {n:Int}(hd:d≠0)(h1:fits n=true)(h2:fits d=true):∃q,io n d=some q/\bN q=true/\qv q=(n:Rat)/(d:Rat):=by
 unfold io
 rw[h1,h2,Bool.and_self,if_pos Z]
 cases h:im n d with
 |none=>unfold im at h;rw[if_neg hd]at h;cases h
 |some q=>exact⟨q,rfl,uJ h1 h2 h,ve hd h⟩
def Hn {n:Int}{q:R}(h:io n d=some q):fits n=true/\fits d=true:=by
 unfold io at h
 cases h1:fits n <;>cases h2:fits d <;>simp[h1,h2]at h ⊢
def dY:Nat:=10^200
def gG {n:Int}(h:n.natAbs<=b)(hb:b<dY):fits n=true:=by unfold fits;exact qa1 (Nat.lt_of_le_of_lt h hb)
structure Bq (a:R)(x:Rat)(N D:Nat):Prop where
 ok:bN a=true
 eq:qv a=x
 num:(aj a.1).natAbs<=N
 den:(aj a.2).natAbs<=D
def Bq.of {a:R}(h:bN a=true)(hs:s≠0)(hq:qv a=(u:Rat)/(s:Rat))(hu:u.natAbs<=N)(hd:s.natAbs<=D):Bq a ((u:Rat)/(s:Rat)) N D:=
 ⟨h,hq,qa8 (UQ h hs hq) hu,qa8 (UR h hs hq) hd⟩
def lf {a b:R}{x y:Rat}(ha:Bq a x N D)(hb:Bq b y N' D')(h1:N*N'<dY)(h2:D*D'<dY):∃q,fe a b=some q/\bN q=true/\qv q=x*y:=by
 have E:=c7 ha.ok
 have p2:=c7 hb.ok
 obtain⟨q,e,ok,hv⟩:=qd (n:=aj a.1*aj b.1) (d:=aj a.2*aj b.2) (Int.ne_of_gt (Int.mul_pos E p2))
  (gG (b:=N*N') (by rw[Int.natAbs_mul];exact qb9 ha.num hb.num) h1) (gG (b:=D*D') ka3 h2)
 refine⟨q,by unfold fe;rw[ha.ok,hb.ok,Bool.and_self,if_pos Z];exact e,ok,?_⟩
 rw[hv,<-ha.eq,<-hb.eq,Rat.intCast_mul,Rat.intCast_mul]
 unfold qv
 have q1:=ie ha.ok
 have q2:=ie hb.ok
 grind
def vg {a b:R}{x y:Rat}(ha:Bq a x N D)(hb:Bq b y N' D')(h0:y≠0)(h1:N*D'<dY)(h2:D*N'<dY):∃q,lF a b=some q/\bN q=true/\qv q=x/y:=by
 have O:=c7 ha.ok
 have q1:=ie ha.ok
 have q2:=ie hb.ok
 have E:aj b.1≠0:=λe=>h0 (by rw[<-hb.eq];unfold qv;rw[e];simp;grind)
 have A0:=dx E
 obtain⟨q,e,ok,hv⟩:=qd (n:=aj a.1*aj b.2) (d:=aj a.2*aj b.1) (λe=>by rcases Int.mul_eq_zero.1 e with e|e <;>omega)
  (gG (b:=N*D') (by rw[Int.natAbs_mul];exact qb9 ha.num hb.den) h1) (gG (b:=D*N') (by rw[Int.natAbs_mul];exact qb9 ha.den hb.num) h2)
 refine⟨q,by unfold lF;rw[ha.ok,hb.ok,Bool.and_self,if_pos Z];exact e,ok,?_⟩
 rw[hv,<-ha.eq,<-hb.eq,Rat.intCast_mul,Rat.intCast_mul]
 unfold qv
 grind
def vh {a b:R}{x y:Rat}(ha:Bq a x N D)(hb:Bq b y N' D')(h1:N*D'+N'*D<dY)(h2:D*D'<dY):∃q,dI a b=some q/\bN q=true/\qv q=x-y:=by
 have E:=c7 ha.ok
 have p2:=c7 hb.ok
 have f1:(aj a.1*aj b.2).natAbs<=N*D':=by rw[Int.natAbs_mul];exact qb9 ha.num hb.den
 have f2:(aj b.1*aj a.2).natAbs<=N'*D:=by rw[Int.natAbs_mul];exact qb9 hb.num ha.den
 obtain⟨q,e,ok,hv⟩:=qd (n:=aj a.1*aj b.2-aj b.1*aj a.2) (d:=aj a.2*aj b.2) (Int.ne_of_gt (Int.mul_pos E p2))
  (gG (b:=N*D'+N'*D) U h1) (gG (b:=D*D') ka3 h2)
 refine⟨q,by unfold dI;rw[ha.ok,hb.ok,Bool.and_self,if_pos Z,gG f1 U,gG f2 U,Bool.and_self,if_pos Z];exact e,ok,?_⟩
 rw[hv,<-ha.eq,<-hb.eq,Rat.intCast_mul,Rat.intCast_sub,Rat.intCast_mul,Rat.intCast_mul]
 unfold qv
 have q1:=ie ha.ok
 have q2:=ie hb.ok
 grind
def Ls {a b:R}{x y:Rat}(ha:Bq a x N D)(hb:Bq b y N' D')(h1:N*D'+N'*D<dY)(h2:D*D'<dY):∃q,jR a b=some q/\bN q=true/\qv q=x+y:=by
 have E:=c7 ha.ok
 have p2:=c7 hb.ok
 have f1:(aj a.1*aj b.2).natAbs<=N*D':=by rw[Int.natAbs_mul];exact qb9 ha.num hb.den
 have f2:(aj b.1*aj a.2).natAbs<=N'*D:=by rw[Int.natAbs_mul];exact qb9 hb.num ha.den
 obtain⟨q,e,ok,hv⟩:=qd (n:=aj a.1*aj b.2+aj b.1*aj a.2) (d:=aj a.2*aj b.2) (Int.ne_of_gt (Int.mul_pos E p2))
  (gG (b:=N*D'+N'*D) U h1) (gG (b:=D*D') ka3 h2)
 refine⟨q,by unfold jR;rw[ha.ok,hb.ok,Bool.and_self,if_pos Z,gG f1 U,gG f2 U,Bool.and_self,if_pos Z];exact e,ok,?_⟩
 rw[hv,<-ha.eq,<-hb.eq,Rat.intCast_mul,Rat.intCast_add,Rat.intCast_mul,Rat.intCast_mul]
 unfold qv
 have q1:=ie ha.ok
 have q2:=ie hb.ok
 grind
end
section
attribute [local irreducible] wpListIn Code.wpIn Oper.wpIn Exit.then Exit.inBlock Exit.noGoto
set_option maxHeartbeats 40000000
section
variable {P:Program}{r:Option Nat}{e:Nat->Value}{ds:List Deferred}{Q:Exit->Act->World->Prop}{K:Act->World->Prop}
variable {d ty:Nat}{pos:String}{af:Array Edge}{g:Option (Nat×Bool)}{u:Value}{x y:Operand}{t t':TypeId}
def XG {k:IntKind}{b m:Int}{ats:Array TypeId}(hx:ev N e x=.int k a)(hy:ev N e y=.int k b)(hm:(if b<a then b else a)=m)(hk:K (act N (upd e d (.int k m)) ds) w):
 Oper.wpIn (Fw r) n P ⟨some d,.call {callee:=.builtin .min,args:=#[x,y],argTypes:=ats},ty,pos,af,g⟩ (act N e ds) w K Q:=
 cQ (v:=.int k m) (w':=w) Z (by subst hm;simp[execOp,resolve,invoke,builtin,Builtin.min_,hx,hy,Builtin.min2,List.foldlM]) RW
end
structure YM (W:World)(A:Option Addr)(n:Nat)(H:Nat->Value)(L:Rows):Prop where
 cell:∀{i},i<n->A=some ⟨bJ A,ei A,none⟩/\W.cell? ⟨bJ A,ei A+i,none⟩=some (.slice (sA (H i)) (L i).length (sC (H i)))
 elem:∀{i k},i<n->k<(L i).length->sA (H i)=some ⟨bJ (sA (H i)),ei (sA (H i)),none⟩/\∀j u,[S (ao (L i) k).1,S (ao (L i) k).2][j]?=some u->W.cell? ⟨bJ (sA (H i)),ei (sA (H i))+k*2+j,none⟩=some u
def YM.ext {L:Rows}(k:aO W W')(h:YM W A n H L):YM W' A n H L:=
 ⟨λhi=>⟨(h.cell hi).1,k.cell (h.cell hi).2⟩,λhi hk=>⟨(h.elem hi hk).1,λj u hu=>k.cell ((h.elem hi hk).2 j u hu)⟩⟩
def Mt.z {L:Rows}(h:Mt W lo A n H L):YM W A n H L:=⟨λhi=>h.cell hi,λhi hk=>h.elem hi hk⟩
def YN (n:Nat)(L:Rows):Prop:=n<=9/\∀i,i<n->(L i).length<=9/\∀k,k<(L i).length->Dl (ao (L i) k)
def YN.bd {L:Rows}(h:YN n L):Bd n L:=⟨by have:=h.1;omega,λi hi=>⟨by have:=(h.2 i hi).1;omega,(h.2 i hi).2⟩⟩
def XI (l:List R):Prop:=l.length<=9/\∀k,k<l.length->Dl (ao l k)
def XI.bd {l:List R}(h:XI l):BdV l:=⟨by have:=h.1;omega,h.2⟩
def Ba (lo:Nat)(w:World)(v:Value)(l:List R):Prop:=∃P cp,v=.slice P l.length cp/\l.length<=cp/\Rw w lo P (ag l)
def Bb {l:List R}(h:w.ownsRow lo 33 2 v l.length (ag l))(hl:lo'<=lo):Ba lo' w v l:=⟨sA v,sC v,dk h,lH h,(fE h).mono hl⟩
def Lt {o:Option R}(ho:o.isSome=true)(h:∀q,o=some q->bN q=true):bN (rN o,rD o)=true:=by
 cases o with
 |none=>cases ho
 |some q=>exact h q Z
def Lu {n d:List UInt8}(hn:isInt n=true)(hd:isInt d=true)(h0:aj d≠0):(qW n d).isSome=true:=by
 unfold qW;rw[hn,hd,Bool.and_self,if_pos Z];unfold im;rw[if_neg h0];rfl
def iM (h:-1000<=a/\a<=1000):fits a=true:=by
 unfold fits
 have h2:a.natAbs<=1000:=J
 have h3:(1000:Nat)<10^200:=by decide +kernel
 first|(exact qa1 U)|(simp;omega)
def US {b:Int}(ha:-1000<=a/\a<=1000)(hb:-1000<=b/\b<=1000)(h0:b≠0):bN (rN (qW (ae a) (ae b)),rD (qW (ae a) (ae b)))=true:=
 Lt (Lu (br (iM ha)) (br (iM hb)) (by rw[aJ];exact h0)) (λq hq=>OP hq)
def td {l:List R}{f:Nat->R}(hl:l.length=i)(h:∀j,j<i->ao l j=f j):∀j,j<i+1->ao (l++[f i]) j=f j:=λj E=>by
 by_cases e:j<i
 · rw[jW U];exact h j e
 · rw[kZ U,show j=i by omega,hl,Nat.sub_self];rfl
def bh (a b:Int):R:=(rN (qW (ae a) (ae b)),rD (qW (ae a) (ae b)))
def SmR (q:R):Prop:=bN q=true/\(-8<=aj q.1/\aj q.1<=8)/\aj q.2<=3
def SmR.len {q:R}(h:SmR q):Dl q:=sW h.1
def Lv {P:R->Prop}{l:List R}{q:R}(hl:l.length=k)(h:∀j,j<k->P (ao l j))(hq:P q):∀j,j<k+1->P (ao (l++[q]) j):=λj E=>by
 by_cases e:j<l.length
 · rw[jW e];exact h j U
 · rw[kZ e,show j-l.length=0 by omega];exact hq
set_option maxRecDepth 100000
def Lw (a:R)(w:World)(ht:Tb w):
 CL 76 #[.agg #[S ((a).1),S ((a).2)]] w (aH w λv w'=>v=.bool (!bN a)):=by
 refine aD func76 Z (I ?_);refine bx (λ_ A0 _=>?_);have E:=A0.2;refine I ?_;refine cl tz (eE _ _ _ (ht.ext E)) ?_;rintro _ _ O rfl;have E:=xt E O.2;refine I ?_;exact am (t:=2) (v:=.bool (!(bN a))) Z E Z Z
def UT (ys:List R)(h:ys.all bN=true):decide (em (λk=> !bN (ao ys k)) ys.length 0<ys.length)=false:=by
 have h1:=Fp ys
 rw[h]at h1
 cases e:decide (em (λk=>!bN (ao ys k)) ys.length 0<ys.length)with
 |false=>rfl
 |true=>rw[e]at h1;cases h1
def gV {L V:Rows}{ys:List R}(hM:Mt w lo A ys.length H L)(hB:Bd ys.length L)(hy:Rw w lo2 Y (ag ys))(hV:Mt w lo3 B ys.length G V)(hB3:Bd ys.length V)(hcb:ys.length<=CB)(hv:vM ys.length L=true)(hv3:vM ys.length V=true)(hVl:(V 0).length=ys.length)(hLl:(L 0).length<=ys.length)(hyo:ys.all bN=true)(hp:nL ys.length V=some true)(ht:Tb w):
 CL 32 #[.agg #[.slice A ys.length C,.slice Y ys.length CY,.slice B ys.length CB]] w (aH w λv w'=>v=.bool true):=by
 have Aq:=(gO hv).1;have Ap:=(gO hv).2.1;refine aD func32 Z (I ?_);refine bx (λ_ A2 O=>?_);have E:=A2.2;refine I ?_;refine cl tw (nE (Y:=.bool true) (val_ok (hM.ext E) hB (ht.ext E)) (qb2 Value.bool hv)) ?_;rintro _ _ A0 rfl;have⟨O,E⟩:=bo A0.2 O E;refine I ?_;refine cl tw (nE (Y:=.bool true) (val_ok (hV.ext E) hB3 (ht.ext E)) (qb2 Value.bool hv3)) ?_;rintro _ _ A1 rfl;have⟨O,E⟩:=bo A1.2 O E;have Af:=aa8 (hV.ext E) (i:=0) U;refine I ?_;refine fM Af ?_ (i:=0);have Am:=aa8 (hM.ext E) (i:=0) U;refine I ?_;refine fM Am ?_ (i:=0);refine I ?_;refine clb V8 (hc:=nE (Y:=.bool false) (KI (lb:=[]) (p:=λk=>!bN (ao ys k)) (hy.ext E) S7 (λi W hi hE=>Lw _ _ (ht.ext (xt E hE))) U) (qb2 Value.bool (UT ys hyo))) (hk:=?_);rintro _ _ Ao rfl;have⟨O,E⟩:=bo Ao.2 O E;refine I ?_;refine cl YT (nE (Y:=.tuple #[.bool true,.int .i64 0]) (Pu (hV.ext E) hB3 hcb (ht.ext E)) (qb2 G9 hp)) ?_;rintro _ _ Ab rfl;have E:=xt E Ab.2;refine I ?_;exact am (t:=2) (v:=.bool (decide (0=0))) Z E Z Z
def Bc {l l':List R}(h:l.length=l'.length)(e:∀k,k<l.length->ao l k=ao l' k):l=l':=List.ext_getElem h λk h1 h2=>by have:=e k h1;rwa [eu h1,eu h2]at this
def Be {L:Rows}{xs:List R}(hM:Mt w lo A n H L)(hl:∀i,i<n->0<(L i).length)(hxl:xs.length=n)(hx:∀i,i<n->ao xs i=ao (L i) 0)(hn:n<=8):
 CL 94 #[.slice A n C] w (aH w λv w'=>Ba w.heap.size w' v xs):=by
 refine aD func94 Z (I ?_);have As:World.ownsRow w w.heap.size 33 2 (.slice none 0 0) 0 (ag []):=bK;have Av:=aa3 w;refine b7 [(2,2),(4,4),(7,17)] (λAr e W=>∃i:Nat,∃A0:List R,∃O:Value,(n-i=Ar)/\(e 7=.int .i64 i)/\(e 2=O)/\(i<=n)/\(A0.length=i)/\(∀j,j<i->ao A0 j=ao (L j) 0)/\(w.heap.size<=W.heap.size)/\(aO w W)/\(W.ownsRow w.heap.size 33 2 O A0.length (ag A0))) (n-0) ⟨0,[],.slice none 0 0,rfl,rfl,rfl,(qa7 _),rfl,(λj _=>by omega),(qa0 _),Av,As⟩ ?_;rintro _ _ _ ⟨i,A0,O,rfl,Ay,Am,hi_i,hal_ac,Ab,Az,E,A1⟩;by_cases hli:i<n;have B0:=hl i hli;have Ap:=aa8 (hM.ext E) (i:=(i)) U;refine I ?_;refine fM Ap (I ?_);refine aa (aT (v:=O) Am ?_);have Aw:=ac6 (hM.ext E) (i:=(i)) (k:=0) U U;refine I ?_;refine li Aw ?_ (i:=0);refine I ?_;refine BS (λ_ A2 _ Aq=>?_);have A1:=ab A2 A1;have E:=xt E A2;refine AP A1 (aa7 Aq) (λAf _ Ax Ao _=>?_);have E:=bu A1 U U E Ao;have od:=Ao.size;refine aa (aK (v:=Af) Z ?_);refine I ?_;refine fO (I ?_);exact bF ⟨i+1,A0++[ao (L i) 0],Af,rfl,rfl,rfl,U,KK,(td (f:=λj=>ao (L j) 0) hal_ac Ab),U,E,(aP Ax Rg (dv _ _))⟩;refine I ?_;refine aa (aT (v:=O) Am ?_)
 refine aa (aK (v:=O) Z ?_);refine I ?_;exact am (t:=2) (v:=O) Z E (by have e:A0=xs:=Bc U (λk _=>by rw[Ab k U,hx k U]);subst e;exact(Bb A1 U)) Z
set_option maxRecDepth 100000 in
def vi {L V:Rows}{ys:List R}(hM:Mt w lo A ys.length H L)(hB:Bd ys.length L)(hy:Rw w lo2 Y (ag ys))(hV:Mt w lo3 B ys.length G V)(hB3:Bd ys.length V)(hcb:ys.length<=CB)(hv:vM ys.length L=true){K:Rows}(hX:Mt w lo4 X k F K)(hB4:Bd k K){P:Rows}{rs:List R}(eP:dw ys.length L k K=some P)(hBP:Bd ys.length P)(hPl:∀i,i<ys.length->0<(P i).length)(hrl:rs.length=ys.length)(hr:∀i,i<ys.length->dI (ao ys i) (ao (P i) 0)=some (ao rs i))(ht:Tb w):
 CL 60 #[.agg #[.slice A ys.length C,.slice Y ys.length CY,.slice B ys.length CB],.slice X k CX] w (aH w λv w'=>Ba w.heap.size w' v rs):=by
 have cT:=(gO hv).2.1;refine aD func60 Z (I ?_);refine bx (λE9 KC Ar=>?_);have Aq:=KC.2;refine I ?_;refine cl gI (eZ (hM.ext Aq) hB (hX.ext Aq) hB4 eP (ht.ext Aq)) ?_;rintro _ Am Ix ⟨E6,a6,EW,rfl,W0,S0⟩;have⟨Ar,Aq⟩:=bo Ix.2 Ar Aq;have Ay:=ab2 S0;refine I ?_;have Li:World.ownsRow Am Am.heap.size 33 2 (.slice none 0 0) 0 (ag []):=bK;refine b7 [(4,6),(13,34)] (λL3 e W=>∃i:Nat,∃A2:List R,∃A1:Value,(ys.length-i=L3)/\(e 13=.int .i64 i)/\(e 4=A1)/\(i<=ys.length)/\(A2.length=i)/\(∀j,j<i->ao A2 j=ao rs j)/\(Am.heap.size<=W.heap.size)/\((A1).ownBlock≠some w.heap.size)/\(aO w W)/\(ar W w.heap.size 82 #[.slice A ys.length C,.slice Y ys.length CY,.slice B ys.length CB])/\(nB W E9.heap.size Am.heap.size E6 ys.length EW P)/\(W.ownsRow Am.heap.size 33 2 A1 A2.length (ag A2))) (ys.length-0) ⟨0,[],.slice none 0 0,rfl,rfl,rfl,(qa7 _),rfl,(λj _=>by omega),(qa0 _),(λe=>by cases e),Aq,Ar,Ay,Li⟩ ?_;rintro _ _ B2 ⟨i,A2,A1,rfl,Vm,FR,hi_i,hal_ac,H2,bv,ES,E,Ar,Ay,G0⟩;by_cases hli:i<ys.length;have bd:=hPl i hli;have S9:=aa8 (Ay).mt (i:=(i)) U;refine I ?_;refine fM S9 (I ?_);have As:=ac3 B2
 refine tX 15 (λls e W=>∃O:Nat,(aO w W)/\(B2.heap.size<=W.heap.size)/\(ls 14=true->e 32=.slice (some ⟨O,0,none⟩) 1 1)/\(ls 14=true->B2.heap.size<=O/\O<W.heap.size)/\(ar W w.heap.size 82 #[.slice A ys.length C,.slice Y ys.length CY,.slice B ys.length CB])/\(nB W E9.heap.size Am.heap.size E6 ys.length EW P)/\(W.ownsRow Am.heap.size 33 2 A1 A2.length (ag A2))/\(ls 14=true->(World.ownsRow W O 33 2 (.slice (some ⟨O,0,none⟩) 1 1) 1 [S ((ao rs i).1),S ((ao rs i).2)]))) ⟨0,(xt E As),(bz As),(ff Z),(ff Z),(be As Ar),(aa4 As Ay),(ab As G0),(λh=>ff Z h)⟩ ?_;refine b9 (λX2 cf WV _ c9 VW _=>by refine aa (aT (v:=A1) FR ?_);refine I ?_;exact aE) ?_;refine sf ?_;refine b9 (λbb W1 bq _ KY a8 _=>by obtain⟨_,_,_,_,_,Ab,_⟩:=KY;refine I ?_;exact aE) ?_;refine sf ?_;refine b9 (λbp an a9 _ Rm b0 _=>by obtain⟨_,E,_⟩:=Rm;have P1:=bD (hy.ext E) (k:=(i)) U;refine I ?_;refine li P1 ?_;refine I ?_;exact aE) ?_;refine b9 (λbZ a0 W2 _ H4 T3 _=>by obtain⟨_,E,_⟩:=H4;have W3:=bD (hy.ext E) (k:=(i)) U;refine I ?_;exact aE) ?_;refine sf ?_;refine b9 (λcb a4 a3 _ Kp cc _=>by obtain⟨_,_,_,_,_,_,A0,_⟩:=Kp;have P0:=ac6 (A0).mt (i:=(i)) (k:=0) U U;refine I ?_;refine li P0 ?_ (i:=0);refine I ?_;exact aE) ?_
 refine b9 (λa5 ad V2 _ Lk ce _=>by obtain⟨_,_,_,_,_,_,A0,_⟩:=Lk;have ac:=ac6 (A0).mt (i:=(i)) (k:=0) U U;refine I ?_;exact aE) ?_;refine pf (V:=.tuple #[.agg #[S ((ao rs i).1),S ((ao rs i).2)],.int .i64 0]) (λ_ _ _ Q0 GC L4 _=>?_) ?_;obtain⟨O,E,D1,Ao,Ap,Ab,A0,Af,Ax⟩:=Q0;have E0:=Ab;have B1:=A0;have wr:=Af;refine cl En (Ka (ao ys i) (ao (P i) 0) _ (ht.ext E)) ?_;rintro _ _ Av hv;have E0:=be Av.2 E0;have B1:=aa4 Av.2 B1;have wr:=ab Av.2 wr;have E:=xt E Av.2;rw[hr i hli]at hv;subst hv;refine I ?_;exact fs ⟨rfl,O,E,U,Ao,(λx=>by have:=Ap x;omega),E0,B1,wr,(λNe=>ff (bG GC (i:=13) (j:=14) Z (bG GC (i:=10) (j:=13) Z L4)) Ne)⟩;refine sf ?_;refine pf (V:=.agg #[S ((ao rs i).1),S ((ao rs i).2)]) (λ_ _ _ Lj KM H3 _=>?_) ?_;obtain⟨O,E,D1,Ao,Ap,Ab,A0,Af,Ax⟩:=Lj;have ny:=Ab;have B0:=A0;have E1:=Af;refine cl qG k7 ?_;rintro _ _ od rfl;have ny:=be od.2 ny;have B0:=aa4 od.2 B0;have E1:=ab od.2 E1;have E:=xt E od.2;refine I ?_;exact fs ⟨rfl,O,E,U,Ao,(λx=>by have:=Ap x;omega),ny,B0,E1,(λK3=>ff (bG KM (i:=13) (j:=14) Z H3) K3)⟩;refine fU (λ_ P2 _ La _ _ _=>?_) ?_;obtain⟨O,E,D1,Ao,Ap,Ab,A0,Af,Ax⟩:=La;have E4:=Ab;have CG:=A0;have D2:=Af;refine BS (λ_ nm _ N0=>?_)
 have E4:=be nm E4;have CG:=aa4 nm CG;have D2:=ab nm D2;have E:=xt E nm;refine I ?_;exact fs ⟨P2.heap.size,E,U,(λ_=>rfl),(λ_=>⟨by omega,by omega⟩),E4,CG,D2,(λ_=>N0)⟩;refine sf ?_;rintro L2 _ _ Cr ⟨O,E,D1,Ao,Ap,Ab,A0,Af,Ax⟩;have X0:=bz E;have a2:=Ap (Cr 14 Z);have Az:=Ab;have C0:=A0;have E5:=Af;have L1:=Ax (Cr 14 Z);have Wa:L2 32=.slice (some ⟨O,0,none⟩) 1 (1):=(Ao (Cr 14 Z));refine AP E5 (aa7 L1) (λE7 _ No Aw T2=>?_);have K2:=aR T2 ES (bt Az);have Az:=aa2 Aw (λe=>ES e.symm) Az;have C0:=nB.gr Aw (λg e=>by have:=aS E5 _ e;omega) C0;have E:=bu E5 U U E Aw;have bW:=Aw.size;refine aa (aK (v:=E7) Z ?_);refine I ?_;refine fO (I ?_);exact bF ⟨i+1,A2++[ao rs i],E7,rfl,rfl,rfl,U,KK,(td (f:=λj=>ao rs j) hal_ac H2),U,K2,E,Az,C0,(aP No Rg (dv _ _))⟩;refine I ?_;refine aa (aT (v:=A1) FR ?_);refine aa (aK (v:=A1) Z ?_);refine I ?_;exact am (t:=4) (v:=A1) Z E (by have e:A2=rs:=Bc U (λk _=>H2 k U);subst e;exact(Bb G0 U)) Z
def oN (n:Nat)(o:Option Rows):Nat:=if o.isSome then n else 0
def oR (o:Option Rows):Rows:=o.getD pS
def oV (o:Option (List R×Bool)):List R:=(o.map (·.1)).getD []
def oB (o:Option (List R×Bool)):Bool:=(o.map (·.2)).getD false
def nI.get {o:Option Rows}(h:nI lo w n o v):
 ∃A C H,v=.tuple #[.slice A (oN n o) C,.int .i64 (Vz o.isSome)]/\Mt w lo A (oN n o) H (oR o):=by
 cases o with
 | none=>
   obtain⟨A,C,H,e,_,m⟩:=@AT lo w pS
   cases e;cases h
   exact⟨none,0,H,rfl,m⟩
 |some K=>obtain⟨u,rfl,A,C,H,rfl,_,m⟩:=h;exact⟨A,C,H,rfl,m⟩
def Xw.get {o:Option (List R×Bool)}(h:Xw lo w o v):
 ∃P cp,v=.tuple #[.slice P (oV o).length cp,.bool (oB o),.int .i64 (Vz o.isSome)]/\Rw w lo P (ag (oV o)):=by
 cases o with
 |none=>cases h;exact⟨none,0,rfl,Rw.nil w lo⟩
 |some x=>obtain⟨x,q⟩:=x;exact h
def Lx {m:Nat}{L:Rows}(h:fH n m L)(hn:n<=1000000)(hm:m<=1000000):Bd n L:=⟨hn,λi hi=>⟨by rw[(h i hi).1];exact hm,λk hk=>sW ((h i hi).2 k (by rw[<-(h i hi).1];exact hk))⟩⟩
def yO {L:Rows}:Bd 0 L:=⟨by omega,λi hi=>by omega⟩
def Hp {l:List R}:ao (l.drop n) k=ao l (n+k):=by unfold ao;simp[List.getD,List.getElem?_drop]
def PE {n:Nat}{L:Rows}:Bd (oN n (dJ n L)) (oR (dJ n L)):=by
 cases e:dJ n L with
 |none=>exact yO
 | some K=>
   unfold dJ at e
   split at e
   · rename_i hs
     obtain⟨hv,E⟩:=md hs
     have hb:=lL hv
     rw[<-E]at hb
     cases he:elim n (n+n) n (ij n L)with
     |none=>rw[he]at e;cases e
     | some s=>
       rw[he]at e
       simp only[Option.bind_some,q9]at e
       split at e
       · cases e
       · cases e
         have ho:=(mX hb U he).1
         have O:=hv.2.1
         exact Lx (n:=n) (m:=n) (λi hi=>⟨by simp[oR,(ho i hi).1],λk _=>by simp only[oR,Option.getD_some];rw[Hp];exact(ho i hi).2 (n+k) U⟩) U U
   · cases e
def FL {a:List R}{B:Rows}:∀{f j:Nat} {l l':List R},mi a B f j l=some l'->(∀k,k<l.length->bN (ao l k)=true)->l'.length=l.length+f/\∀k,k<l'.length->bN (ao l' k)=true
 |0,_,_,_,h,hl=>by cases h;exact⟨rfl,hl⟩
 | f +1,j,l,l',h,hl=>by
   unfold mi at h
   cases h1:kW a B j a.length 0 z0 with
   |none=>rw[h1]at h;cases h
   | some s=>
     rw[h1]at h
     have:=FL h (λk hk=>Lv (P:=λq=>bN q=true) (k:=l.length) Z hl (Fs Vy h1) k (by simpa using hk))
     exact⟨by rw[this.1];simp;omega,this.2⟩
def FM {L B:Rows}{p:Nat}:∀{f i:Nat} {K K':Rows},pR L B p f i K=some K'->(∀x,x<i->(K x).length=p/\∀k,k<p->bN (ao (K x) k)=true)->fH (i+f) p K'
 |0,_,_,_,h,hl=>by cases h;exact hl
 | f + 1,i,K,K',h,hl=>by
   unfold pR at h
   cases h1:mi (L i) B p 0 []with
   |none=>rw[h1]at h;cases h
   | some l=>
     rw[h1]at h
     have hr:=FL h1 (λk hk=>by simp at hk)
     have:=FM h (λx hx=>by
      by_cases e:x=i
      · subst e;rw[bj];exact⟨by simpa using hr.1,λk hk=>hr.2 k (by rw[hr.1];simpa using hk)⟩
      · rw[bm _ _ e];exact hl x U)
     rwa [show i+1+f=i+(f+1)by omega]at this
def PF {n m:Nat}{L B:Rows}:Bd (oN n (dw n L m B)) (oR (dw n L m B)):=by
 cases e:dw n L m B with
 |none=>exact yO
 | some K=>
   unfold dw at e
   split at e
   · rename_i hs
     have h1:=gO hs.1
     have h2:=gO hs.2.1
     have:=FM (show pR L B (B 0).length n 0 pS=some K from e) (λx _=>by omega)
     rw[Nat.zero_add]at this
     have a:=h1.2.1
     have b:=h2.2.2.2.1
     exact Lx (n:=n) this U U
   · cases e
def XJ {n:Nat}{L:Rows}:Bd (if vM n L=true then(L 0).length else 0) (λj=>mc L n j):=by
 split
 · rename_i h
   have hv:=gO h
   have a:=hv.2.1
   have b:=hv.2.2.2.1
   exact Lx (m:=n) (λi hi=>⟨pQ _ _ _,λk hk=>by rw[uP _ _ hk];exact(hv.ok k hk).2 i hi⟩) U U
 · exact yO
section
variable {m:Nat}{L K:Rows}{xs:List R}
def Hq (hM:Mt w lo A n H L)(hN:Mt w lo2 B n G L)(hB:Bd n L):CL 17 #[.slice A n C,.slice B n D] w (aH w λv w'=>v=.bool true):=by
 have h:=O1 (C:=C) (D:=D) hM hN hB
 have e:decide (kn n L n L)=true:=qa1 ⟨rfl,λ_ _=>rfl⟩
 rwa [e]at h
def xe (hx:Rw w lo A (ag xs))(hy:Rw w lo2 B (ag xs))(hn:xs.length<=1000000):CL 16 #[.slice A xs.length C,.slice B xs.length D] w (aH w λv w'=>v=.bool true):=by
 have h:=yD (C:=C) (D:=D) hx hy hn
 rwa [decide_eq_true Z]at h
end
def me (W:World)(hi:Nat)(v:Value):Prop:=∃A C H n L,v=.slice A n C/\n<=C/\YN n L/\nB W 0 hi A n H L
structure Hr (W:World)(hi:Nat)(A:Option Addr)(vs:List Value):Prop where
 rw:mj W 0 hi A vs
 good:∀i,i<vs.length->me W hi (vs.getD i .nilIface)
section
variable {hi hi':Nat}{vs:List Value}
def me.ext (k:aO W W')(h:me W hi v):me W' hi v:=by obtain⟨A,C,H,n,L,e,c,f,m⟩:=h;exact⟨A,C,H,n,L,e,c,f,m.ext k⟩
def me.put (k:ee W W' b)(hb:b<0\/hi<=b)(h:me W hi v):me W' hi v:=by obtain⟨A,C,H,n,L,e,c,f,m⟩:=h;exact⟨A,C,H,n,L,e,c,f,m.put k hb⟩
def me.up (hh:hi<=hi')(h:me W hi v):me W hi' v:=by
 obtain⟨A,C,H,n,L,e,c,f,m⟩:=h
 exact⟨A,C,H,n,L,e,c,f,⟨m.mt,λE h=>qb1 (m.o E h) hh,λi hi E h=>qb1 (m.r i hi E h) hh⟩⟩
def Hr.ext (k:aO W W')(h:Hr W hi A vs):Hr W' hi A vs:=⟨h.rw.ext k,λi hi=>(h.good i hi).ext k⟩
def Hr.put (k:ee W W' b)(hb:b<0\/hi<=b)(h:Hr W hi A vs):Hr W' hi A vs:=⟨h.rw.put k hb,λi hi=>(h.good i hi).put k hb⟩
def me.of {L:Rows}(h:dM lo W v n L)(hf:YN n L):me W W.heap.size v:=by
 obtain⟨A,C,H,e,c,m⟩:=h;exact⟨A,C,H,n,L,e,c,hf,ab2 (m.mono (qa7 _))⟩
end
def dM.get {L:Rows}(h:dM lo w v n L):∃A C H,v=.slice A n C/\n<=C/\Mt w lo A n H L:=h
def dy {m:Nat}{L B K:Rows}(e:dw n L m B=some K):Bd n K:=by
 have h:=@PF n m L B
 rw[e]at h;exact h
def jY {L K:Rows}(e:dJ n L=some K):Bd n K:=by
 have h:=@PE n L
 rw[e]at h;exact h
def vj {L:Rows}(hv:vM n L=true)(hl:(L 0).length=k):Bd k (λj=>mc L n j):=by
 have h:=@XJ n L
 rw[if_pos hv,hl]at h;exact h
def dP {L:Rows}(h:vM n L=true):Bd n L:=by
 have hv:=gO h
 have ok:=VM.ok hv
 have E:=hv.2.2.2.1
 exact⟨by have:=hv.2.1;omega,λi hi=>⟨by rw[(ok i hi).1];omega,λk hk=>sW ((ok i hi).2 k (by rw[<-(ok i hi).1];exact hk))⟩⟩
structure DI (m k:Nat)(L V:Rows)(ys:List R)(W B G C D X P:Rows)(rs xs:List R)(Q S:Rows):Prop where
 eW:dJ m V=some W
 eB:dw k (λj=>mc L m j) m W=some B
 eG:dw k B m L=some G
 eC:dJ k G=some C
 eD:dw k B m (bR ys)=some D
 eX:dw k C k D=some X
 eP:dw m L k X=some P
 hPl:∀i,i<m->0<(P i).length
 hrl:rs.length=m
 hr:∀i,i<m->dI (ao ys i) (ao (P i) 0)=some (ao rs i)
 hvr:vM m (bR rs)=true
 eQ:dw 1 (λj=>mc (bR rs) m j) m W=some Q
 eS:dw 1 Q m (bR rs)=some S
 hXl:∀i,i<k->0<(X i).length
 hxl:xs.length=k
 hx:∀i,i<k->ao xs i=ao (X i) 0
 hSl:0<(S 0).length
def oK (lo:Nat)(w:World)(v:Value)(k:Nat)(xs:List R)(C:Rows)(chi:R)(fr:Int):Prop:=∃A cp B D H,v=.agg #[.slice A xs.length cp,.slice B k D,S chi.1,S chi.2,.int .i64 fr]/\xs.length<=cp/\Rw w lo A (ag xs)/\k<=D/\Mt w lo B k H C
def PG {L V:Rows}{ys:List R}(hM:Mt w lo A ys.length H L)(hB:Bd ys.length L)(hy:Rw w lo2 Y (ag ys))(hV:Mt w lo3 B ys.length G V)(hB3:Bd ys.length V)(hcb:ys.length<=CB){W0 B0 G0 C0 D0 X0 P0 Q0 S0:Rows}{rs xs:List R}(hv:vM ys.length L=true)(hk:(L 0).length=k)(hvl:vM ys.length (bR ys)=true)(e:DI ys.length k L V ys W0 B0 G0 C0 D0 X0 P0 rs xs Q0 S0)(ht:Tb w):
 CL 41 #[.agg #[.slice A ys.length C,.slice Y ys.length CY,.slice B ys.length CB]] w (aH w λv w'=>oK w.heap.size w' v k xs C0 (ao (S0 0) 0) (((ys.length:Nat):Int)-(k:Int))):=by
 have f3:=(gO hv).1;have fQ:=(gO hv).2.1;have fN:=(gO hv).2.2.2.1;have fP:=e.hSl;have fR:=e.hrl;have dL:=e.hxl;refine aD func41 Z (I ?_);refine bx (λEW T2 O=>?_);have E:=T2.2;refine al cM (λE9 a9 A0=>?_);have⟨O,E⟩:=bo a9.2 O E;refine I ?_;refine bQ 7 ?_;refine sf ?_;refine bY (fun(v:Value) (W:World)=>∃A C H,v=Value.slice A ys.length C/\ys.length<=C/\Mt W E9.heap.size A ys.length H (bR ys)) (hs:=λ_ _ _ k h=>by obtain⟨A,C,H,e,c,r⟩:=h;exact⟨A,C,H,e,c,r.ext k⟩) (λ_ _ ES _=>?_) ?_;refine clb qD (hc:=iK (hy.ext (xt E ES)) U) (hk:=?_);rintro _ _ X2 ⟨ce,e3,cq,rfl,P2,ac⟩;have P1:=ab2 ac;refine I ?_;exact fs ⟨X2.2,⟨_,_,_,rfl,P2,((P1).mt).mono (by have:=bz ES;omega)⟩⟩;refine sf ?_;intro L1 KC Lj KM;have⟨O,A0,E⟩:=ca Lj.2 O A0 E;have W1:∃A C H,L1 17=Value.slice A ys.length C/\ys.length<=C/\Mt KC E9.heap.size A ys.length H (bR ys):=(KM 6 17 Z Z);(with_reducible obtain⟨_,_,_,_,_,Vm⟩:=W1);have Am:=ab2 Vm;refine I ?_;refine cl qF (s7 (hV.ext E) hB3 e.eW (ht.ext E)) ?_;rintro _ _ E6 ⟨cr,d5,fB,rfl,dC,S9⟩;have⟨O,A0⟩:=dN E6.2 O A0;have Am:=aa4 E6.2 Am;have E:=xt E E6.2;have A2:=ab2 S9;refine I ?_;refine cl tE (mY (k:=k) (hM.ext E) hB hv hk (ht.ext E)) ?_
 rintro _ _ D2 ⟨f0,bq,ed,rfl,c9,a8⟩;have⟨O,A0⟩:=dN D2.2 O A0;have Am:=aa4 D2.2 Am;have A2:=aa4 D2.2 A2;have E:=xt E D2.2;have H3:=ab2 a8;refine I ?_;refine cl gI (eZ (H3).mt (vj hv hk) (A2).mt (jY e.eW) e.eB (ht.ext E)) ?_;rintro _ _ Cr ⟨cv,co,dd,rfl,ej,a4⟩;have⟨O,A0⟩:=dN Cr.2 O A0;have Am:=aa4 Cr.2 Am;have A2:=aa4 Cr.2 A2;have E:=xt E Cr.2;have Ap:=ab2 a4;refine I ?_;refine cl gI (eZ (Ap).mt (dy e.eB) (hM.ext E) hB e.eG (ht.ext E)) ?_;rintro _ _ As ⟨cf,bv,fC,rfl,er,K3⟩;have⟨O,A0⟩:=dN As.2 O A0;have Am:=aa4 As.2 Am;have A2:=aa4 As.2 A2;have Ap:=aa4 As.2 Ap;have E:=xt E As.2;have KY:=ab2 K3;refine cl qF (s7 (KY).mt (dy e.eG) e.eC (ht.ext E)) ?_;rintro _ _ B2 ⟨Ay,Az,cp,rfl,Lk,V2⟩;have⟨O,A0⟩:=dN B2.2 O A0;have Am:=aa4 B2.2 Am;have A2:=aa4 B2.2 A2;have Ap:=aa4 B2.2 Ap;have E:=xt E B2.2;have A1:=ab2 V2;refine I ?_;refine cl gI (eZ (Ap).mt (dy e.eB) (Am).mt (dP hvl) e.eD (ht.ext E)) ?_;rintro _ _ E4 ⟨d3,ch,ask,rfl,f9,a3⟩;have⟨O,A0⟩:=dN E4.2 O A0;have A2:=aa4 E4.2 A2;have A1:=aa4 E4.2 A1;have E:=xt E E4.2;have ad:=ab2 a3;refine cl gI (eZ (A1).mt (jY e.eC) (ad).mt (dy e.eD) e.eX (ht.ext E)) ?_;rintro _ _ E1 ⟨e6,bb,cy,rfl,cm,a6⟩
 have⟨O,A0⟩:=dN E1.2 O A0;have A2:=aa4 E1.2 A2;have A1:=aa4 E1.2 A1;have E:=xt E E1.2;have Ab:=ab2 a6;refine I ?_;(try refine aa (aN (cs:=[.slice A ys.length C,.slice Y ys.length CY,.slice B ys.length CB]) (b:=w.heap.size) (o:=0) j5 Z ks Z (aa0 O (i:=0) Z) ?_));refine I ?_;refine cl Co (vi (hM.ext E) hB (hy.ext E) (hV.ext E) hB3 hcb hv (Ab).mt (dy e.eX) e.eP (dy e.eP) e.hPl e.hrl e.hr (ht.ext E)) ?_;rintro _ _ Aw ⟨cw,eb,rfl,e4,Ix⟩;have⟨O,A0⟩:=dN Aw.2 O A0;have A2:=aa4 Aw.2 A2;have A1:=aa4 Aw.2 A1;have Ab:=aa4 Aw.2 Ab;have E:=xt E Aw.2;have W2:=ab5 Ix;refine clb qD (hc:=UM (m:=ys.length) (iK (W2).rw U) e.hrl) (hk:=?_);rintro _ _ B1 ⟨cT,d0,eq,rfl,bd,GC⟩;have⟨O,A0⟩:=dN B1.2 O A0;have A2:=aa4 B1.2 A2;have A1:=aa4 B1.2 A1;have Ab:=aa4 B1.2 Ab;have E:=xt E B1.2;have Ar:=ab2 GC;refine I ?_;refine cl tE (mY (k:=1) (Ar).mt (dP e.hvr) e.hvr Z (ht.ext E)) ?_;rintro _ _ Aq ⟨ct,e5,fG,rfl,d6,Wa⟩;have⟨O,A0⟩:=dN Aq.2 O A0;have A2:=aa4 Aq.2 A2;have A1:=aa4 Aq.2 A1;have Ab:=aa4 Aq.2 Ab;have Ar:=aa4 Aq.2 Ar;have E:=xt E Aq.2;have T3:=ab2 Wa;refine I ?_;refine cl gI (eZ (T3).mt (vj e.hvr Z) (A2).mt (jY e.eW) e.eQ (ht.ext E)) ?_
 rintro _ _ Av ⟨cc,d4,eg,rfl,d1,Rm⟩;have⟨O,A0⟩:=dN Av.2 O A0;have A1:=aa4 Av.2 A1;have Ab:=aa4 Av.2 Ab;have Ar:=aa4 Av.2 Ar;have E:=xt E Av.2;have nm:=ab2 Rm;refine I ?_;refine cl gI (eZ (nm).mt (dy e.eQ) (Ar).mt (dP e.hvr) e.eS (ht.ext E)) ?_;rintro _ FR E0 ⟨fD,cb,et,rfl,dq,W3⟩;have⟨O,A0⟩:=dN E0.2 O A0;have A1:=aa4 E0.2 A1;have Ab:=aa4 E0.2 Ab;have E:=xt E E0.2;have Af:=ab2 W3;refine I ?_;refine bQ 13 ?_;refine sf ?_;refine bY (fun(v:Value) (W:World)=>∃A Ao,v=Value.slice A xs.length Ao/\xs.length<=Ao/\Rw W FR.heap.size A (ag xs)) (hs:=λ_ _ _ k h=>by obtain⟨A,Ao,e,c,r⟩:=h;exact⟨A,Ao,e,c,r.ext k⟩) (λ_ _ ny _=>?_) ?_;have Ab:=aa4 ny Ab;refine clb IQ (hc:=Be (Ab).mt e.hXl e.hxl e.hx U) (hk:=?_);rintro _ _ No ⟨ea,bp,rfl,WV,b0⟩;have a2:=ab5 b0;refine I ?_;exact fs ⟨No.2,⟨_,_,rfl,WV,((a2).rw).mono (by have:=bz ny;omega)⟩⟩;refine sf ?_;refine aA (λ_ _ wr _=>by have Af:=aa4 wr Af;have an:=aa8 (Af).mt (i:=0) U;refine I ?_;refine fM an ?_ (i:=0);refine I ?_;exact aE) ?_;refine aA (λ_ _ H4 _=>by have Af:=aa4 H4 Af;have cz:=aa8 (Af).mt (i:=0) U;refine I ?_;exact aE) ?_
 refine aA (λ_ _ Ne _=>by have Af:=aa4 Ne Af;have VW:=ac6 (Af).mt (i:=0) (k:=0) U U;refine I ?_;refine li VW ?_ (i:=0);refine I ?_;exact aE) ?_;refine aA (λ_ _ L2 _=>by have Af:=aa4 L2 Af;have cx:=ac6 (Af).mt (i:=0) (k:=0) U U;refine I ?_;exact aE) ?_;refine aA (λ_ _ L4 _=>by have O:=be L4 O;(try refine aa (aN (cs:=[.slice A ys.length C,.slice Y ys.length CY,.slice B ys.length CB]) (b:=w.heap.size) (o:=0) j5 Z ks Z (aa0 O (i:=0) Z) ?_));refine I ?_;exact aE) ?_;refine aX (V:=.int .i64 ((ys.length:Nat):Int)) (λ_ _ _ _=>?_) ?_;refine cl tF mZ ?_;rintro _ _ Li rfl;refine I ?_;exact fs ⟨Li.2,rfl⟩;refine aA (λ_ _ bZ _=>by have O:=be bZ O;(try refine aa (aN (cs:=[.slice A ys.length C,.slice Y ys.length CY,.slice B ys.length CB]) (b:=w.heap.size) (o:=0) j5 Z ks Z (aa0 O (i:=0) Z) ?_));refine I ?_;exact aE) ?_;refine aX (V:=.int .i64 k) (λ_ _ od _=>?_) ?_;refine clb IR (hc:=nE (Y:=.int .i64 k) (A5 (hM.ext (xt E od)) U) (by rw[hk])) (hk:=?_);rintro _ _ N0 rfl;refine I ?_;exact fs ⟨N0.2,rfl⟩;refine aA (λ_ _ _ _=>by refine qk ?_;refine I ?_;exact aE) ?_;refine sf ?_;intro L3 H2 E7 bW;have⟨O,A0⟩:=dN E7.2 O A0;have A1:=aa4 E7.2 A1
 have E:=xt E E7.2;have a0:∃A Ao,L3 46=Value.slice A xs.length Ao/\xs.length<=Ao/\Rw H2 FR.heap.size A (ag xs):=(bW 1 46 Z Z);(with_reducible obtain⟨Ax,CG,Kp,a5,K2⟩:=a0);have E5:=ab5 K2;refine aa (bX (vs:=[(0,.slice Ax xs.length CG),(1,.slice Ay k Az),(2,.agg #[S ((ao (S0 0) 0).1),S ((ao (S0 0) 0).2)]),(3,.int .i64 (((ys.length:Nat):Int)-(k:Int)))]) (cells:=#[.slice Ax xs.length CG,.slice Ay k Az,S ((ao (S0 0) 0).1),S ((ao (S0 0) 0).2),.int .i64 (((ys.length:Nat):Int)-(k:Int))]) (pl:=[(0,1),(1,1),(2,2),(4,1)]) jK cM Hx (cj (by exact Kp) (cj Z (cj Z (cj Z Z)))) Hx ?_);refine aa (aZ (b:=EW.heap.size) (o:=0) (vs:=[.slice Ax xs.length CG,.slice Ay k Az,S ((ao (S0 0) 0).1),S ((ao (S0 0) 0).2),.int .i64 (((ys.length:Nat):Int)-(k:Int))]) cH Z Z Nd A0 (qa3 Z) (λ_ D1 La=>?_));have O:=pb D1 O;have A1:=ad0 D1 U A1;have E5:=ab8 D1 U E5;have E:=bi D1 E;refine I ?_;refine aW (v:=.agg #[.slice Ax xs.length CG,.slice Ay k Az,S ((ao (S0 0) 0).1),S ((ao (S0 0) 0).2),.int .i64 (((ys.length:Nat):Int)-(k:Int))]) (ci  rfl ?_) E ⟨_,_,_,_,_,rfl,a5,((E5).rw).mono U,Lk,((A1).mt).mono U⟩
 refine ai (t:=2) (cs:=[.slice Ax xs.length CG,.slice Ay k Az,S ((ao (S0 0) 0).1),S ((ao (S0 0) 0).2),.int .i64 (((ys.length:Nat):Int)-(k:Int))]) (b:=EW.heap.size) (o:=0) jK Z cH ?_ ?_;exact Z;exact aa0 La (i:=0) Z
def Ly {L V:Rows}{ys:List R}(hM:Mt w lo A ys.length H L)(hB:Bd ys.length L)(hy:Rw w lo2 Y (ag ys))(hV:Mt w lo3 B ys.length G V)(hB3:Bd ys.length V)(hcb:ys.length<=CB){a:Addr}{W0 B0 G0:Rows}(hv:vM ys.length L=true)(hk:(L 0).length=k)(hvl:vM ys.length (bR ys)=true)(hE:Er w a)(eW:dJ ys.length V=some W0)(eB:dw k (λj=>mc L ys.length j) ys.length W0=some B0)(eG:dw k B0 ys.length L=some G0)(eC:dJ k G0=none)(ht:Tb w):
 CL 41 #[.agg #[.slice A ys.length C,.slice Y ys.length CY,.slice B ys.length CB]] w (fq (pE a) w):=by
 have EW:=(gO hv).1;have KC:=(gO hv).2.1;refine iZ func41 Z (I ?_);refine bx (λ_ Av O=>?_);have E:=Av.2;refine al cM (λny od _=>?_);have⟨O,E⟩:=bo od.2 O E;refine I ?_;refine bQ 7 ?_;refine sf ?_;refine bY (fun(v:Value) (W:World)=>∃A C H,v=Value.slice A ys.length C/\ys.length<=C/\Mt W ny.heap.size A ys.length H (bR ys)) (hs:=λ_ _ _ k h=>by obtain⟨A,C,H,e,c,r⟩:=h;exact⟨A,C,H,e,c,r.ext k⟩) (λ_ _ A1 _=>?_) ?_;refine clb qD (hc:=iK (hy.ext (xt E A1)) U) (hk:=?_);rintro _ _ Aw ⟨KM,H3,Kp,rfl,B2,Ab⟩;have Am:=ab2 Ab;refine I ?_;exact fs ⟨Aw.2,⟨_,_,_,rfl,B2,((Am).mt).mono (by have:=bz A1;omega)⟩⟩;refine sf ?_;intro E1 E4 D1 Az;have⟨O,E⟩:=bo D1.2 O E;have Aq:∃A C H,E1 17=Value.slice A ys.length C/\ys.length<=C/\Mt E4 ny.heap.size A ys.length H (bR ys):=(Az 6 17 Z Z);(with_reducible obtain⟨_,_,_,_,_,_⟩:=Aq);refine I ?_;refine cl qF (s7 (hV.ext E) hB3 eW (ht.ext E)) ?_;rintro _ _ Ar ⟨nm,H4,K2,rfl,KY,As⟩;have E:=xt E Ar.2;have A0:=ab2 As;refine I ?_;refine cl tE (mY (k:=k) (hM.ext E) hB hv hk (ht.ext E)) ?_;rintro _ _ A2 ⟨GC,Ix,K3,rfl,H2,Ap⟩;have A0:=aa4 A2.2 A0;have E:=xt E A2.2;have D2:=ab2 Ap;refine I ?_;refine cl gI (eZ (D2).mt (vj hv hk) (A0).mt (jY eW) eB (ht.ext E)) ?_
 rintro _ _ C0 ⟨E6,FR,ES,rfl,E7,Cr⟩;have E:=xt E C0.2;have B1:=ab2 Cr;refine I ?_;refine cl gI (eZ (B1).mt (dy eB) (hM.ext E) hB eG (ht.ext E)) ?_;rintro _ _ Ax ⟨CG,Ao,E5,rfl,E9,E0⟩;have E:=xt E Ax.2;have Af:=ab2 E0;refine aa (dQ (vs:=[.slice CG k Ao]) qF Z (Lo (Af).mt (dy eG) (Er.ext E hE) eC (ht.ext E)) (λ_ Ay=>?_));have E:=xt E Ay;refine I ?_;exact gC ⟨E,rfl⟩
def Er.lt {a:Addr}(h:Er w a):0<w.heap.size:=bt h
def oK.mono {xs:List R}{C:Rows}{chi:R}{fr:Int}(h:oK lo w v k xs C chi fr)(hl:lo'<=lo):oK lo' w v k xs C chi fr:=by
 obtain⟨A,E,B,D,H,e,h1,h2,h3,h4⟩:=h
 exact⟨A,E,B,D,H,e,h1,h2.mono hl,h3,h4.mono hl⟩
def Lz {xs:List R}{Cr:Rows}{chi:R}{fr:Int}(hg:Enters prog gf)(hc:∀W,aO w W->CL gf lb.toArray W (aH W λv w'=>oK W.heap.size w' v k xs Cr chi fr)):
 CL 38 #[.func (.func gf) #[] lb.toArray] w (aH w λv w'=>∃u,v=.tuple #[u,.int .i64 0]/\oK w.heap.size w' u k xs Cr chi fr):=by
 refine l9 func38 Z (I ?_);refine al cM (λAb nm O=>?_);have E:=nm.2;refine al l5 (λ_ Ay A1=>?_);have⟨O,E⟩:=bo Ay.2 O E;refine I ?_;refine aa (aC (vf:=[]) (vc:=[pT w.heap.size,pT Ab.heap.size]) Z Z ?_);refine aa (hH (lb:=[pT w.heap.size,pT Ab.heap.size]) Z ?_);refine I ?_;refine aa (mg (f:=gf) (lb:=lb) (vs:=[]) hg Z Z (hc _ E) ?_);rintro _ _ Av ⟨Ar,As,Ap,Aq,B1,rfl,Ax,Az,B0,Aw⟩;have⟨O,A1,E⟩:=ca Av.2 O A1 E;have A0:=ab5 Az;have A2:=ab2 Aw;refine aa (aZ (b:=w.heap.size) (o:=0) (vs:=[.slice Ar xs.length As,.slice Ap k Aq,S chi.1,S chi.2,.int .i64 fr]) cH Z Z Nd O (qa3 Z) (λ_ Af Ao=>?_));have A1:=pb Af A1;have A0:=ab8 Af U A0;have A2:=ad0 Af U A2;have E:=bi Af E;refine SO A1 (λ_ Am ny=>?_);have Ao:=pb Am Ao;have A0:=ab8 Am U A0;have A2:=ad0 Am U A2;have E:=bi Am E;refine I ?_;refine mU (b1:=w.heap.size) (b2:=Ab.heap.size) (v:=.tuple #[.agg #[.slice Ar xs.length As,.slice Ap k Aq,S chi.1,S chi.2,.int .i64 fr],.int .i64 0]) Cp (λ_ _=>AR) E (c8 (r1:=.cell 2 40) (r2:=.cell 3 36) Z ?_ ?_) ⟨_,rfl,_,_,_,_,_,rfl,Ax,((A0).rw).mono U,B0,((A2).mt).mono U⟩
 refine ai (t:=2) (cs:=[.slice Ar xs.length As,.slice Ap k Aq,S chi.1,S chi.2,.int .i64 fr]) (b:=w.heap.size) (o:=0) jK Z cH ?_ ?_;exact Z;exact aa0 Ao (i:=0) Z;refine bH (t:=3) (b:=Ab.heap.size) (o:=0) BY Z ?_ ?_;exact Z;exact ab6 ny Z
def xf {a:Addr}(hE:Er w a)(hg:Enters prog gf)(hc:∀W,aO w W->CL gf lb.toArray W (fq (pE a) W)):
 CL 38 #[.func (.func gf) #[] lb.toArray] w (aH w λv w'=>v=.tuple #[.agg #[.slice none 0 0,.slice none 0 0,S [],S [],.int .i64 0],.int .i64 140]):=by
 have hlt:=Er.lt hE;refine l9 func38 Z (I ?_);refine al cM (λA0 A2 O=>?_);have E:=A2.2;refine al l5 (λ_ Af A1=>?_);have⟨O,E⟩:=bo Af.2 O E;refine I ?_;refine aa (aC (vf:=[]) (vc:=[pT w.heap.size,pT A0.heap.size]) Z Z ?_);refine aa (hH (lb:=[pT w.heap.size,pT A0.heap.size]) Z ?_);refine I ?_;refine aa (lx (f:=gf) (lb:=lb) (vs:=[]) hg Z Z (hc _ E) (λ_ Ab=>?_));have⟨O,A1,E⟩:=ca Ab O A1 E;refine I ?_;refine Um (b1:=w.heap.size) (b2:=A0.heap.size) (z:=#[.slice none 0 0,.slice none 0 0,S [],S [],.int .i64 0]) (cs:=#[.slice none 0 0,.slice none 0 0,S [],S [],.int .i64 0]) (c0:=0) (v:=.tuple #[.agg #[.slice none 0 0,.slice none 0 0,S [],S [],.int .i64 0],.int .i64 140]) Cp Kt E (Er.ext E hE) O Z A1 U U U U (λ_ _ c1 c2=>⟨c8 (r1:=.cell 2 40) (r2:=.cell 3 36) Z ?_ ?_,rfl⟩);refine ai (t:=2) (cs:=[.slice none 0 0,.slice none 0 0,S [],S [],.int .i64 0]) (b:=w.heap.size) (o:=0) jK Z cH ?_ ?_;exact Z;exact aa0 c1 (i:=0) Z;refine bH (t:=3) (b:=A0.heap.size) (o:=0) BY Z ?_ ?_;exact Z;exact ab6 c2 Z
def LA {x:Int}(hg:Enters prog gf)(hc:∀W,aO w W->CL gf lb.toArray W (aH W λv w'=>v=.int .i64 x)):
 CL 42 #[.func (.func gf) #[] lb.toArray] w (aH w λv w'=>v=.tuple #[.int .i64 x,.int .i64 0]):=by
 refine l9 func42 Z (I ?_);refine al kI (λA1 Ao O=>?_);have E:=Ao.2;refine al l5 (λ_ Am A0=>?_);have⟨O,E⟩:=bo Am.2 O E;refine I ?_;refine aa (aC (vf:=[]) (vc:=[pT w.heap.size,pT A1.heap.size]) Z Z ?_);refine aa (hH (lb:=[pT w.heap.size,pT A1.heap.size]) Z ?_);refine I ?_;refine aa (mg (f:=gf) (lb:=lb) (vs:=[]) hg Z Z (hc _ E) ?_);rintro _ _ Ap rfl;have⟨O,A0,E⟩:=ca Ap.2 O A0 E;refine SO O (λ_ Ab A2=>?_);have A0:=pb Ab A0;have E:=bi Ab E;refine SO A0 (λ_ Af Aq=>?_);have A2:=pb Af A2;have E:=bi Af E;refine I ?_;refine mU (b1:=w.heap.size) (b2:=A1.heap.size) (v:=.tuple #[.int .i64 x,.int .i64 0]) S8 (λ_ _=>Kn) E (c8 (r1:=.cell 2 3) (r2:=.cell 3 36) Z ?_ ?_) Z;refine bH (t:=2) (b:=w.heap.size) (o:=0) U3 Z ?_ ?_;exact Z;exact ab6 A2 Z;refine bH (t:=3) (b:=A1.heap.size) (o:=0) BY Z ?_ ?_;exact Z;exact ab6 Aq Z
def LB {xs:List R}(hg:Enters prog gf)(hc:∀W,aO w W->CL gf lb.toArray W (aH W λv w'=>Ba W.heap.size w' v xs)):
 CL 58 #[.func (.func gf) #[] lb.toArray] w (aH w λv w'=>∃u,v=.tuple #[u,.int .i64 0]/\Ba w.heap.size w' u xs):=by
 refine l9 func58 Z (I ?_);refine al jq (λA2 Ap O=>?_);have E:=Ap.2;refine al l5 (λ_ Ar A0=>?_);have⟨O,E⟩:=bo Ar.2 O E;refine I ?_;refine aa (aC (vf:=[]) (vc:=[pT w.heap.size,pT A2.heap.size]) Z Z ?_);refine aa (hH (lb:=[pT w.heap.size,pT A2.heap.size]) Z ?_);refine I ?_;refine aa (mg (f:=gf) (lb:=lb) (vs:=[]) hg Z Z (hc _ E) ?_);rintro _ _ Aq ⟨Av,Ao,rfl,Aw,As⟩;have⟨O,A0,E⟩:=ca Aq.2 O A0 E;have A1:=ab5 As;refine SO O (λ_ Am Ab=>?_);have A0:=pb Am A0;have A1:=ab8 Am U A1;have E:=bi Am E;refine SO A0 (λ_ Af nm=>?_);have Ab:=pb Af Ab;have A1:=ab8 Af U A1;have E:=bi Af E;refine I ?_;refine mU (b1:=w.heap.size) (b2:=A2.heap.size) (v:=.tuple #[.slice Av xs.length Ao,.int .i64 0]) Te (λ_ _=>Ks) E (c8 (r1:=.cell 2 28) (r2:=.cell 3 36) Z ?_ ?_) ⟨_,rfl,_,_,rfl,Aw,((A1).rw).mono U⟩;refine bH (t:=2) (b:=w.heap.size) (o:=0) vY Z ?_ ?_;exact Z;exact ab6 Ab Z;refine bH (t:=3) (b:=A2.heap.size) (o:=0) BY Z ?_ ?_;exact Z;exact ab6 nm Z
structure eN (L V:Rows)(ys:List R):Prop where
 hv:vM ys.length L=true
 hv3:vM ys.length V=true
 hVl:(V 0).length=ys.length
 hLl:(L 0).length<=ys.length
 hyo:ys.all bN=true
 hp:nL ys.length V=some true
structure eH (w:World)(A:Option Addr)(C:Nat)(Y:Option Addr)(CY:Nat)(B:Option Addr)(CB:Nat)(L V:Rows)(ys:List R):Prop where
 m:∃lo H,Mt w lo A ys.length H L
 y:∃lo,Rw w lo Y (ag ys)
 v:∃lo G,Mt w lo B ys.length G V
 c:ys.length<=CB
def eH.ext {L V:Rows}{ys:List R}(k:aO w w')(h:eH w A C Y CY B CB L V ys):eH w' A C Y CY B CB L V ys:=by
 obtain⟨⟨a,b,c⟩,⟨d,e⟩,⟨f,g,i⟩,j⟩:=h
 exact⟨⟨a,b,c.ext k⟩,⟨d,e.ext k⟩,⟨f,g,i.ext k⟩,j⟩
def yQ {ys:List R}(h:ys.all bN=true)(h1:1<=ys.length)(h8:ys.length<=8):vM ys.length (bR ys)=true:=by
 unfold vM
 refine qa1 ⟨h1,h8,qa0 _,by show 1<=8;omega,λi hi=>⟨rfl,?_⟩⟩
 exact lK.2 λk _=>by
  have E : k = 0 := by have:(bR ys i).length=1:=rfl
                       omega
  subst E
  exact lK.1 h i hi
def LC {L V:Rows}{ys:List R}(hD:eH w A C Y CY B CB L V ys)(ok:eN L V ys)(hb:ar w b 30 #[.slice A ys.length C,.slice Y ys.length CY,.slice B ys.length CB]){W0 B0 G0 C0 D0 X0 P0 Q0 S0:Rows}{rs xs:List R}(hk:(L 0).length=k)(e:DI ys.length k L V ys W0 B0 G0 C0 D0 X0 P0 rs xs Q0 S0)(ht:Tb w):
 CL 39 #[pT b] w (aH w λv w'=>oK w.heap.size w' v k xs C0 (ao (S0 0) 0) (((ys.length:Nat):Int)-(k:Int))):=by
 obtain⟨_,H,hM⟩:=hD.m;obtain⟨_,hy⟩:=hD.y;obtain⟨_,G,hV⟩:=hD.v;have B1:=bt hb;refine aD func39 Z (I ?_);refine al cM (λ_ Ap O=>?_);have hb:=be Ap.2 hb;have E:=Ap.2;refine I ?_;(try refine aa (aN (cs:=[.slice A ys.length C,.slice Y ys.length CY,.slice B ys.length CB]) (b:=b) (o:=0) de Z ba Z (aa0 hb (i:=0) Z) ?_));refine cl kt (gV (hM.ext E) (dP ok.hv) (hy.ext E) (hV.ext E) (dP ok.hv3) hD.c ok.hv ok.hv3 ok.hVl ok.hLl ok.hyo ok.hp (ht.ext E)) ?_;rintro _ _ Ax rfl;have⟨hb,O,E⟩:=ca Ax.2 hb O E;refine cl fp df ?_;rintro _ _ As rfl;have⟨hb,O,E⟩:=ca As.2 hb O E;refine I ?_;(try refine aa (aN (cs:=[.slice A ys.length C,.slice Y ys.length CY,.slice B ys.length CB]) (b:=b) (o:=0) de Z ba Z (aa0 hb (i:=0) Z) ?_));refine aa (bX (vs:=[(0,.agg #[.slice A ys.length C,.slice Y ys.length CY,.slice B ys.length CB])]) (cells:=#[.slice A ys.length C,.slice Y ys.length CY,.slice B ys.length CB]) (pl:=[(0,3)]) j5 na Hx Z Hx ?_);refine cl Cn (PG (hM.ext E) (dP ok.hv) (hy.ext E) (hV.ext E) (dP ok.hv3) hD.c ok.hv hk (yQ ok.hyo (gO ok.hv).1 (gO ok.hv).2.1) e (ht.ext E)) ?_;rintro _ _ Ay ⟨Ab,Af,A1,Am,Az,rfl,Av,Ar,nm,Aq⟩;have⟨hb,O,E⟩:=ca Ay.2 hb O E
 have Ao:=ab5 Ar;have A2:=ab2 Aq;refine aa (aZ (b:=w.heap.size) (o:=0) (vs:=[.slice Ab xs.length Af,.slice A1 k Am,S ((ao (S0 0) 0).1),S ((ao (S0 0) 0).2),.int .i64 (((ys.length:Nat):Int)-(k:Int))]) cH Z Z Nd O (qa3 Z) (λ_ A0 Aw=>?_));have hb:=pb A0 hb;have Ao:=ab8 A0 U Ao;have A2:=ad0 A0 U A2;have E:=bi A0 E;refine I ?_;refine aW (v:=.agg #[.slice Ab xs.length Af,.slice A1 k Am,S ((ao (S0 0) 0).1),S ((ao (S0 0) 0).2),.int .i64 (((ys.length:Nat):Int)-(k:Int))]) (ci  rfl ?_) E ⟨_,_,_,_,_,rfl,Av,((Ao).rw).mono U,nm,((A2).mt).mono U⟩;refine ai (t:=1) (cs:=[.slice Ab xs.length Af,.slice A1 k Am,S ((ao (S0 0) 0).1),S ((ao (S0 0) 0).2),.int .i64 (((ys.length:Nat):Int)-(k:Int))]) (b:=w.heap.size) (o:=0) jK Z cH ?_ ?_;exact Z;exact aa0 Aw (i:=0) Z
def Hs {L V:Rows}{ys:List R}(hD:eH w A C Y CY B CB L V ys)(ok:eN L V ys)(hb:ar w b 30 #[.slice A ys.length C,.slice Y ys.length CY,.slice B ys.length CB]){a:Addr}{W0 B0 G0:Rows}(hk:(L 0).length=k)(hE:Er w a)(eW:dJ ys.length V=some W0)(eB:dw k (λj=>mc L ys.length j) ys.length W0=some B0)(eG:dw k B0 ys.length L=some G0)(eC:dJ k G0=none)(ht:Tb w):
 CL 39 #[pT b] w (fq (pE a) w):=by
 obtain⟨_,H,hM⟩:=hD.m;obtain⟨_,hy⟩:=hD.y;obtain⟨_,G,hV⟩:=hD.v;refine iZ func39 Z (I ?_);refine al cM (λ_ O _=>?_);have hb:=be O.2 hb;have E:=O.2;refine I ?_;(try refine aa (aN (cs:=[.slice A ys.length C,.slice Y ys.length CY,.slice B ys.length CB]) (b:=b) (o:=0) de Z ba Z (aa0 hb (i:=0) Z) ?_));refine cl kt (gV (hM.ext E) (dP ok.hv) (hy.ext E) (hV.ext E) (dP ok.hv3) hD.c ok.hv ok.hv3 ok.hVl ok.hLl ok.hyo ok.hp (ht.ext E)) ?_;rintro _ _ A1 rfl;have⟨hb,E⟩:=bo A1.2 hb E;refine cl fp df ?_;rintro _ _ A2 rfl;have⟨hb,E⟩:=bo A2.2 hb E;refine I ?_;(try refine aa (aN (cs:=[.slice A ys.length C,.slice Y ys.length CY,.slice B ys.length CB]) (b:=b) (o:=0) de Z ba Z (aa0 hb (i:=0) Z) ?_));refine aa (bX (vs:=[(0,.agg #[.slice A ys.length C,.slice Y ys.length CY,.slice B ys.length CB])]) (cells:=#[.slice A ys.length C,.slice Y ys.length CY,.slice B ys.length CB]) (pl:=[(0,3)]) j5 na Hx Z Hx ?_)
 refine aa (dQ (vs:=[.agg #[.slice A ys.length C,.slice Y ys.length CY,.slice B ys.length CB]]) Cn Z (Ly (hM.ext E) (dP ok.hv) (hy.ext E) (hV.ext E) (dP ok.hv3) hD.c ok.hv hk (yQ ok.hyo (gO ok.hv).1 (gO ok.hv).2.1) (Er.ext E hE) eW eB eG eC (ht.ext E)) (λ_ A0=>?_));have E:=xt E A0;refine I ?_;exact gC ⟨E,rfl⟩
def yR {L V:Rows}{ys:List R}(hD:eH w A C Y CY B CB L V ys)(ok:eN L V ys){W0 B0 G0 C0 D0 X0 P0 Q0 S0:Rows}{rs xs:List R}(hk:(L 0).length=k)(e:DI ys.length k L V ys W0 B0 G0 C0 D0 X0 P0 rs xs Q0 S0)(ht:Tb w):
 CL 14 #[.agg #[.slice A ys.length C,.slice Y ys.length CY,.slice B ys.length CB]] w (aH w λv w'=>∃u,v=.tuple #[u,.int .i64 0]/\oK w.heap.size w' u k xs C0 (ao (S0 0) 0) (((ys.length:Nat):Int)-(k:Int))):=by
 refine aD func14 Z (I ?_);refine bx (λAq Aw O=>?_);have E:=Aw.2;refine al cM (λ_ Ay Af=>?_);have⟨O,E⟩:=bo Ay.2 O E;refine I ?_;refine aa (aC (vf:=[]) (vc:=[pT w.heap.size]) Z Z ?_);refine cl xL (Lz (gf:=39) (lb:=[pT w.heap.size]) xM (λW q=>LC (hD.ext (xt E q)) ok (be q O) hk e (ht.ext (xt E q)))) ?_;rintro _ _ Ar ⟨B1,rfl,A2,A1,Ao,Ab,B2,rfl,Av,nm,As,Ax⟩;have⟨O,Af,E⟩:=ca Ar.2 O Af E;have Am:=ab5 nm;have Ap:=ab2 Ax;refine I ?_;refine aa (aZ (b:=Aq.heap.size) (o:=0) (vs:=[.slice A2 xs.length A1,.slice Ao k Ab,S ((ao (S0 0) 0).1),S ((ao (S0 0) 0).2),.int .i64 (((ys.length:Nat):Int)-(k:Int))]) cH Z Z Nd Af (qa3 Z) (λ_ A0 Az=>?_));have O:=pb A0 O;have Am:=ab8 A0 U Am;have Ap:=ad0 A0 U Ap;have E:=bi A0 E;refine I ?_;refine aW (v:=.tuple #[.agg #[.slice A2 xs.length A1,.slice Ao k Ab,S ((ao (S0 0) 0).1),S ((ao (S0 0) 0).2),.int .i64 (((ys.length:Nat):Int)-(k:Int))],.int .i64 0]) (c8 (r1:=.cell 2 40) (r2:=.tmp 3) Z ?_ ?_) E ⟨_,rfl,_,_,_,_,_,rfl,Av,((Am).rw).mono U,As,((Ap).mt).mono U⟩
 refine ai (t:=2) (cs:=[.slice A2 xs.length A1,.slice Ao k Ab,S ((ao (S0 0) 0).1),S ((ao (S0 0) 0).2),.int .i64 (((ys.length:Nat):Int)-(k:Int))]) (b:=Aq.heap.size) (o:=0) jK Z cH ?_ ?_;exact Z;exact aa0 Az (i:=0) Z;exact aM (t:=3) RM _
def LD {L V:Rows}{ys:List R}(hD:eH w A C Y CY B CB L V ys)(ok:eN L V ys){a:Addr}{W0 B0 G0:Rows}(hk:(L 0).length=k)(hE:Er w a)(eW:dJ ys.length V=some W0)(eB:dw k (λj=>mc L ys.length j) ys.length W0=some B0)(eG:dw k B0 ys.length L=some G0)(eC:dJ k G0=none)(ht:Tb w):
 CL 14 #[.agg #[.slice A ys.length C,.slice Y ys.length CY,.slice B ys.length CB]] w (aH w λv w'=>v=.tuple #[.agg #[.slice none 0 0,.slice none 0 0,S [],S [],.int .i64 0],.int .i64 140]):=by
 refine aD func14 Z (I ?_);refine bx (λA1 Ao O=>?_);have E:=Ao.2;refine al cM (λ_ Af A0=>?_);have⟨O,E⟩:=bo Af.2 O E;refine I ?_;refine aa (aC (vf:=[]) (vc:=[pT w.heap.size]) Z Z ?_);refine cl xL (xf (gf:=39) (lb:=[pT w.heap.size]) (Er.ext E hE) xM (λW q=>Hs (hD.ext (xt E q)) ok (be q O) hk (Er.ext (xt E q) hE) eW eB eG eC (ht.ext (xt E q)))) ?_;rintro _ _ Ab rfl;have⟨O,A0,E⟩:=ca Ab.2 O A0 E;refine I ?_;refine aa (aZ (b:=A1.heap.size) (o:=0) (vs:=[.slice none 0 0,.slice none 0 0,S [],S [],.int .i64 0]) cH Z Z Nd A0 (qa3 Z) (λ_ A2 Am=>?_));have O:=pb A2 O;have E:=bi A2 E;refine I ?_;refine aW (v:=.tuple #[.agg #[.slice none 0 0,.slice none 0 0,S [],S [],.int .i64 0],.int .i64 140]) (c8 (r1:=.cell 2 40) (r2:=.tmp 3) Z ?_ ?_) E Z;refine ai (t:=2) (cs:=[.slice none 0 0,.slice none 0 0,S [],S [],.int .i64 0]) (b:=A1.heap.size) (o:=0) jK Z cH ?_ ?_;exact Z;exact aa0 Am (i:=0) Z;exact aM (t:=3) RM _
def XL :Mt w 0 none 0 (λ_=>.nilIface) pS:=⟨by simpa using Rw.nil w 0,λi h=>by omega,λi h=>by omega,λi h=>by omega⟩
def UU:vM 0 pS=false:=qa2 λh=>by have:=h.1;omega
def vk (ht:Tb w):
 CL 32 #[.agg #[.slice none 0 0,.slice none 0 0,.slice none 0 0]] w (aH w λv w'=>v=.bool false):=by
 refine aD func32 Z (I ?_);refine bx (λ_ A0 _=>?_);have E:=A0.2;refine I ?_;refine cl tw (nE (Y:=.bool false) (val_ok XL yO (ht.ext E)) (qb2 Value.bool UU)) ?_;rintro _ _ O rfl;have E:=xt E O.2;refine I ?_;exact am (t:=2) (v:=.bool false) Z E Z Z
def DJ {a:Addr}(hb:ar w b 30 #[.slice none 0 0,.slice none 0 0,.slice none 0 0])(hE:Er w a)(ht:Tb w):
 CL 39 #[pT b] w (fq (pE a) w):=by
 refine iZ func39 Z (I ?_);refine al cM (λ_ O _=>?_);have hb:=be O.2 hb;have E:=O.2;refine I ?_;(try refine aa (aN (cs:=[.slice none 0 0,.slice none 0 0,.slice none 0 0]) (b:=b) (o:=0) de Z ba Z (aa0 hb (i:=0) Z) ?_));refine cl kt (vk (ht.ext E)) ?_;rintro _ _ A1 rfl;have E:=xt E A1.2;refine aa (dQ (vs:=[.bool false]) fp Z (uX (Er.ext E hE)) (λ_ A0=>?_));have E:=xt E A0;refine I ?_;exact gC ⟨E,rfl⟩
def LE {a:Addr}(hE:Er w a)(ht:Tb w):
 CL 14 #[.agg #[.slice none 0 0,.slice none 0 0,.slice none 0 0]] w (aH w λv w'=>v=.tuple #[.agg #[.slice none 0 0,.slice none 0 0,S [],S [],.int .i64 0],.int .i64 140]):=by
 refine aD func14 Z (I ?_);refine bx (λA1 Ao O=>?_);have E:=Ao.2;refine al cM (λ_ Af A0=>?_);have⟨O,E⟩:=bo Af.2 O E;refine I ?_;refine aa (aC (vf:=[]) (vc:=[pT w.heap.size]) Z Z ?_);refine cl xL (xf (gf:=39) (lb:=[pT w.heap.size]) (Er.ext E hE) xM (λW q=>DJ (be q O) (Er.ext (xt E q) hE) (ht.ext (xt E q)))) ?_;rintro _ _ Ab rfl;have⟨O,A0,E⟩:=ca Ab.2 O A0 E;refine I ?_;refine aa (aZ (b:=A1.heap.size) (o:=0) (vs:=[.slice none 0 0,.slice none 0 0,S [],S [],.int .i64 0]) cH Z Z Nd A0 (qa3 Z) (λ_ A2 Am=>?_));have O:=pb A2 O;have E:=bi A2 E;refine I ?_;refine aW (v:=.tuple #[.agg #[.slice none 0 0,.slice none 0 0,S [],S [],.int .i64 0],.int .i64 140]) (c8 (r1:=.cell 2 40) (r2:=.tmp 3) Z ?_ ?_) E Z;refine ai (t:=2) (cs:=[.slice none 0 0,.slice none 0 0,S [],S [],.int .i64 0]) (b:=A1.heap.size) (o:=0) jK Z cH ?_ ?_;exact Z;exact aa0 Am (i:=0) Z;exact aM (t:=3) RM _
def LF {L V:Rows}{ys:List R}(hD:eH w A C Y CY B CB L V ys)(ok:eN L V ys){zs:List R}(hb:ar w b 30 #[.slice A ys.length C,.slice Y ys.length CY,.slice B ys.length CB])(hb2:ar w b2 28 #[.slice X zs.length CX])(hz:Rw w lo4 X (ag zs)){P:Rows}{rs:List R}(hzv:vM zs.length (bR zs)=true)(eP:dw ys.length L zs.length (bR zs)=some P)(hPl:∀i,i<ys.length->0<(P i).length)(hrl:rs.length=ys.length)(hr:∀i,i<ys.length->dI (ao ys i) (ao (P i) 0)=some (ao rs i))(ht:Tb w):
 CL 59 #[pT b,pT b2] w (aH w λv w'=>Ba w.heap.size w' v rs):=by
 obtain⟨_,H,hM⟩:=hD.m;obtain⟨_,hy⟩:=hD.y;obtain⟨_,G,hV⟩:=hD.v;have Cr:=(gO hzv).2.1;refine aD func59 Z (I ?_);(try refine aa (aN (cs:=[.slice A ys.length C,.slice Y ys.length CY,.slice B ys.length CB]) (b:=b) (o:=0) de Z ba Z (aa0 hb (i:=0) Z) ?_));refine cl kt (gV (hM.ext (aa3 _)) (dP ok.hv) (hy.ext (aa3 _)) (hV.ext (aa3 _)) (dP ok.hv3) hD.c ok.hv ok.hv3 ok.hVl ok.hLl ok.hyo ok.hp (ht.ext (aa3 _))) ?_;rintro _ _ O rfl;have⟨hb,hb2⟩:=dN O.2 hb hb2;have E:=O.2;refine cl fp df ?_;rintro _ A0 As rfl;have⟨hb,hb2,E⟩:=ca As.2 hb hb2 E;refine I ?_;refine bQ 4 ?_;refine aA (λ_ _ B2 _=>by have hb:=be B2 hb;(try refine aa (aN (cs:=[.slice A ys.length C,.slice Y ys.length CY,.slice B ys.length CB]) (b:=b) (o:=0) de Z ba Z (aa0 hb (i:=0) Z) ?_));refine I ?_;exact aE) ?_;refine aA (λ_ _ _ _=>by refine aa (bX (vs:=[(0,.agg #[.slice A ys.length C,.slice Y ys.length CY,.slice B ys.length CB])]) (cells:=#[.slice A ys.length C,.slice Y ys.length CY,.slice B ys.length CB]) (pl:=[(0,3)]) j5 na Hx Z Hx ?_);refine I ?_;exact aE) ?_;refine sf ?_
 refine bY (fun(v:Value) (W:World)=>∃A C H,v=Value.slice A zs.length C/\zs.length<=C/\Mt W A0.heap.size A zs.length H (bR zs)) (hs:=λ_ _ _ k h=>by obtain⟨A,C,H,e,c,r⟩:=h;exact⟨A,C,H,e,c,r.ext k⟩) (λ_ _ A1 _=>?_) ?_;refine clb qD (hc:=iK (hz.ext (xt E A1)) U) (hk:=?_);rintro _ _ A2 ⟨CG,C0,D1,rfl,Ax,nm⟩;have Aw:=ab2 nm;refine I ?_;exact fs ⟨A2.2,⟨_,_,_,rfl,Ax,((Aw).mt).mono (by have:=bz A1;omega)⟩⟩;refine sf ?_;intro Ao Av B0 Ab;have E:=xt E B0.2;have ny:∃A C H,Ao 9=Value.slice A zs.length C/\zs.length<=C/\Mt Av A0.heap.size A zs.length H (bR zs):=(Ab 3 9 Z Z);(with_reducible obtain⟨_,_,_,Aq,_,Af⟩:=ny);have Ar:=ab2 Af;refine cl Co (vi (hM.ext E) (dP ok.hv) (hy.ext E) (hV.ext E) (dP ok.hv3) hD.c ok.hv (Ar).mt (dP hzv) eP (dy eP) hPl hrl hr (ht.ext E)) ?_ (av Z (av (by exact Aq) Z));rintro _ _ Ay ⟨Ap,Am,rfl,B1,Az⟩;have E:=xt E Ay.2;have wr:=ab5 Az;refine I ?_;exact am (t:=2) (v:=.slice Ap rs.length Am) Z E ⟨_,_,rfl,B1,((wr).rw).mono U⟩ Z
def PH {L V:Rows}{ys:List R}(hD:eH w A C Y CY B CB L V ys)(ok:eN L V ys){zs:List R}(hz:Rw w lo4 X (ag zs)){P:Rows}{rs:List R}(hzv:vM zs.length (bR zs)=true)(eP:dw ys.length L zs.length (bR zs)=some P)(hPl:∀i,i<ys.length->0<(P i).length)(hrl:rs.length=ys.length)(hr:∀i,i<ys.length->dI (ao ys i) (ao (P i) 0)=some (ao rs i))(ht:Tb w):
 CL 24 #[.agg #[.slice A ys.length C,.slice Y ys.length CY,.slice B ys.length CB],.slice X zs.length CX] w (aH w λv w'=>∃u,v=.tuple #[u,.int .i64 0]/\Ba w.heap.size w' u rs):=by
 obtain⟨_,H,_⟩:=hD.m;obtain⟨_,_⟩:=hD.y;obtain⟨_,G,_⟩:=hD.v;refine aD func24 Z (I ?_);refine bx (λA0 A1 O=>?_);have E:=A1.2;refine bx (λ_ Aq Am=>?_);have⟨O,E⟩:=bo Aq.2 O E;refine I ?_;refine aa (aC (vf:=[]) (vc:=[pT w.heap.size,pT A0.heap.size]) Z Z ?_);refine cl S5 (LB (gf:=59) (lb:=[pT w.heap.size,pT A0.heap.size]) S6 (λW q=>LF (hD.ext (xt E q)) ok (be q O) (be q Am) (hz.ext (xt E q)) hzv eP hPl hrl hr (ht.ext (xt E q)))) ?_;rintro _ _ A2 ⟨nm,rfl,Ao,Ab,rfl,Ap,Ar⟩;have E:=xt E A2.2;have Af:=ab5 Ar;refine I ?_;exact bA (t:=4) (u:=5) (v1:=.slice Ao rs.length Ab) (v2:=.int .i64 0) Z E ⟨_,rfl,_,_,rfl,Ap,((Af).rw).mono U⟩ Z Z
def Sc.fi {S:Nat}(h:Sc S):Fi S:=ia h.lt dc
def LG (k:Nat):eJ (49::List.replicate k 48)=List.replicate k 0++[1]:=by simp[eJ]
def LH (k:Nat):bU 10 (List.replicate k 0++[1])=10^k:=by
 induction k with
 |zero=>rfl
 |succ k ih=>rw[List.replicate_succ,List.cons_append];show 0+10*bU 10 (List.replicate k 0++[1])=_;rw[ih,Nat.pow_succ];omega
def PI (h:k<200):(49::List.replicate k 48:List UInt8)=nS (10^k):=by
 have h1:eo (49::List.replicate k 48)=true:=by
  simp only[eo,Bool.and_eq_true,Bool.or_eq_true,decide_eq_true_eq]
  refine⟨⟨⟨by simp,by simp;omega⟩,?_⟩,Or.inr Rg⟩
  rw[List.all_cons,List.all_eq_true.2]
  · decide
  · intro x hx;rw[List.eq_of_mem_replicate hx];decide
 have h2:=ub h1
 have h3:aG (49::List.replicate k 48)=10^k:=by unfold aG;rw[LG,LH]
 rw[h3]at h2
 rw[<-h2];unfold nS ae
 rw[if_neg U,Int.natAbs_natCast]
def ra (k:Nat):Lib.repeatL [48] k=List.replicate k 48:=by
 induction k with
 |zero=>rfl
 |succ k ih=>simp[Lib.repeatL,List.replicate_succ]at ih ⊢;exact ih
def qg (h:k<200):([49]:List UInt8)++Lib.repeatL [48] k=nS (10^k):=by rw[ra,<-PI h];rfl
def LI {a:Nat}(ha:a<10^199)(hb:b<10^199):Fz ((a:Int)-(b:Int)):=by unfold Fz;omega
def nF (hp:pl<200)(ht:Tb w):
 CL 202 #[.int .i64 pl] w (aH w λv w'=>v=.agg #[.int .i64 pl,S (nS (10^pl))]):=by
 refine aD func202 Z (I ?_);refine al o5 (λ_ A2 O=>?_);have E:=A2.2;refine I ?_;refine clb Iv (hc:=qO [48] pl _ U dc) (hk:=?_);rintro _ _ A0 rfl;have⟨O,E⟩:=bo A0.2 O E;refine aa (xz (a:=[49]) (b:=Lib.repeatL [48] pl) Z Z (by rw[ra];simp;omega) ?_);refine I ?_;refine SA O (λ_ A1 Ab=>?_);have E:=bi A1 E;refine I ?_;refine aW (v:=.agg #[.int .i64 pl,S (([49])++(Lib.repeatL [48] pl))]) (ci  rfl ?_) E (by rw[qg hp]);refine ai (t:=2) (cs:=[.int .i64 pl,S (([49])++(Lib.repeatL [48] pl))]) (b:=w.heap.size) (o:=0) Ee Z Im ?_ ?_;exact Z;exact aa0 Ab (i:=0) Z
def gQ {a b:List UInt8}:
 CL 149 #[S a,S b] w (aH w λv w'=>v=.agg #[S a,S b]):=by
 refine aD func149 Z (I ?_);refine al aU (λ_ O A0=>?_);have E:=O.2;refine I ?_;refine SA A0 (λ_ A1 A2=>?_);have E:=bi A1 E;refine I ?_;refine aW (v:=.agg #[S a,S b]) (ci  rfl ?_) E Z;refine ai (t:=4) (cs:=[S a,S b]) (b:=w.heap.size) (o:=0) iW Z b8 ?_ ?_;exact Z;exact aa0 A2 (i:=0) Z
def PK {d:Nat}(hS:Sc sO)(hn:Fi n)(hd:Fi d)(h0:0<d)(hm:Fi (n*sO))(ht:Tb w):
 CL 188 #[.agg #[.int .i64 pl,S (nS sO)],.agg #[S (nS n),S (nS d)]] w (aH w λv w'=>v=.agg #[S (nS ((qn sO n d).1)),S (nS ((qn sO n d).2))]):=by
 refine aD func188 Z (I ?_);refine bx (λ_ ny O=>?_);have E:=ny.2;refine bx (λAv Af A0=>?_);have⟨O,E⟩:=bo Af.2 O E;refine al bS (λ_ Am A1=>?_);have⟨O,A0,E⟩:=ca Am.2 O A0 E;refine I ?_;refine cl iz (gm Z Z hn hS.fi hm (ht.ext E)) ?_;rintro _ _ Aq rfl;have⟨O,A0,A1,E⟩:=fw Aq.2 O A0 A1 E;refine I ?_;refine bQ 7 ?_;refine sf ?_;refine aX (V:=S (nS ((n*sO)/d))) (λ_ _ Ao _=>?_) ?_;refine cl xG (p7 Z Z hm hd h0 (ht.ext (xt E Ao))) ?_;rintro _ _ Ar rfl;have od:=Ar.2;refine I ?_;exact fs ⟨od,rfl⟩;refine sf ?_;intro _ _ Ab _;have⟨O,A0,A1,E⟩:=fw Ab.2 O A0 A1 E;refine cl xH (yK Z Z hm hd h0 (ht.ext E)) ?_;rintro _ _ As rfl;have⟨O,A0,A1,E⟩:=fw As.2 O A0 A1 E;refine I ?_;refine SA A1 (λ_ A2 Ap=>?_);have⟨O,A0⟩:=js A2 O A0;have E:=bi A2 E;refine I ?_;refine aW (v:=.agg #[S (nS ((n*sO)/d)),S (nS (s6 (n*sO) d))]) (ci  rfl ?_) E Z;refine ai (t:=4) (cs:=[S (nS ((n*sO)/d)),S (nS (s6 (n*sO) d))]) (b:=Av.heap.size) (o:=0) jr Z fK ?_ ?_;exact Z;exact aa0 Ap (i:=0) Z
def iN (hS:Sc sO)(h9:n<10^9)(hm:Fi (n*sO))(ht:Tb w):
 CL 191 #[.agg #[.int .i64 pl,S (nS sO)],.int .i64 n] w (aH w λv w'=>v=.agg #[S (nS ((n*sO,n*sO).1)),S (nS ((n*sO,n*sO).2))]):=by
 have A2:Fi n:=ia (k:=9) h9 dc;refine aD func191 Z (I ?_);refine bx (λAf As O=>?_);have E:=As.2;refine al bS (λ_ Ap A0=>?_);have⟨O,E⟩:=bo Ap.2 O E;refine I ?_;refine bQ 4 ?_;refine sf ?_;refine aX (V:=S (nS n)) (λ_ _ Am _=>?_) ?_;refine cl tC (u5 h9 (ht.ext (xt E Am))) ?_;rintro _ _ Ar rfl;have Aq:=Ar.2;refine I ?_;exact fs ⟨Aq,rfl⟩;refine sf ?_;intro _ _ Ao _;have⟨O,A0,E⟩:=ca Ao.2 O A0 E;refine cl iz (gm Z Z A2 hS.fi hm (ht.ext E)) ?_;rintro _ _ Ab rfl;have⟨O,A0,E⟩:=ca Ab.2 O A0 E;refine I ?_;refine SA A0 (λ_ A1 nm=>?_);have O:=pb A1 O;have E:=bi A1 E;refine I ?_;refine aW (v:=.agg #[S (nS (n*sO)),S (nS (n*sO))]) (ci  rfl ?_) E Z;refine ai (t:=4) (cs:=[S (nS (n*sO)),S (nS (n*sO))]) (b:=Af.heap.size) (o:=0) jr Z fK ?_ ?_;exact Z;exact aa0 nm (i:=0) Z
def Ht {a b:N2}(h1:Fi (a.1+b.1))(h2:Fi (a.2+b.2))(ht:Tb w):
 CL 223 #[.agg #[.int .i64 pl,S (nS sO)],.agg #[S (nS a.1),S (nS a.2)],.agg #[S (nS b.1),S (nS b.2)]] w (aH w λv w'=>v=.agg #[S (nS ((RG a b).1)),S (nS ((RG a b).2))]):=by
 refine aD func223 Z (I ?_);refine bx (λ_ Ax O=>?_);have E:=Ax.2;refine bx (λ_ Ap A0=>?_);have⟨O,E⟩:=bo Ap.2 O E;refine bx (λAq od A1=>?_);have⟨O,A0,E⟩:=ca od.2 O A0 E;refine al bS (λ_ Ar A2=>?_);have⟨O,A0,A1,E⟩:=fw Ar.2 O A0 A1 E;refine I ?_;refine bQ 9 ?_;refine sf ?_;refine aX (V:=S (nS (a.1+b.1))) (λ_ _ Aw _=>?_) ?_;refine cl mF (ko Z Z h1 (ht.ext (xt E Aw))) ?_;rintro _ _ Af rfl;have Ao:=Af.2;refine I ?_;exact fs ⟨Ao,rfl⟩;refine sf ?_;intro _ _ Av _;have⟨O,A0,A1,A2,E⟩:=kC Av.2 O A0 A1 A2 E;refine cl mF (ko Z Z h2 (ht.ext E)) ?_;rintro _ _ Am rfl;have⟨O,A0,A1,A2,E⟩:=kC Am.2 O A0 A1 A2 E;refine I ?_;refine SA A2 (λ_ Ab As=>?_);have⟨O,A0,A1⟩:=qm Ab O A0 A1;have E:=bi Ab E;refine I ?_;refine aW (v:=.agg #[S (nS (a.1+b.1)),S (nS (a.2+b.2))]) (ci  rfl ?_) E Z;refine ai (t:=6) (cs:=[S (nS (a.1+b.1)),S (nS (a.2+b.2))]) (b:=Aq.heap.size) (o:=0) jr Z fK ?_ ?_;exact Z;exact aa0 As (i:=0) Z
def vl {a b:N2}(ha:Bk 199 a)(hb:Bk 199 b)(ht:Tb w):
 CL 197 #[.agg #[.int .i64 pl,S (nS sO)],.agg #[S (nS a.1),S (nS a.2)],.agg #[S (nS b.1),S (nS b.2)]] w (aH w λv w'=>v=.agg #[S (ae ((BZ a b).1)),S (ae ((BZ a b).2))]):=by
 have Ab:=ha.fi dc;have Af:=hb.fi dc;refine aD func197 Z (I ?_);refine bx (λ_ Aq O=>?_);have E:=Aq.2;refine bx (λ_ Ap A0=>?_);have⟨O,E⟩:=bo Ap.2 O E;refine bx (λAs od A1=>?_);have⟨O,A0,E⟩:=ca od.2 O A0 E;refine al bS (λ_ Av A2=>?_);have⟨O,A0,A1,E⟩:=fw Av.2 O A0 A1 E;refine I ?_;refine bQ 9 ?_;refine sf ?_;refine aX (V:=S (ae (((a.1:Nat):Int)-((b.2:Nat):Int)))) (λ_ _ Az _=>?_) ?_;refine cl IE (FK Z Z Ab.1.z Af.2.z (LI ha.1 hb.2) (ht.ext (xt E Az))) ?_;rintro _ _ Ar rfl;have Aw:=Ar.2;refine I ?_;exact fs ⟨Aw,rfl⟩;refine sf ?_;intro _ _ Ay _;have⟨O,A0,A1,A2,E⟩:=kC Ay.2 O A0 A1 A2 E;refine cl IE (FK Z Z Ab.2.z Af.1.z (LI ha.2 hb.1) (ht.ext E)) ?_;rintro _ _ Ao rfl;have⟨O,A0,A1,A2,E⟩:=kC Ao.2 O A0 A1 A2 E;refine I ?_;refine SA A2 (λ_ Am Ax=>?_);have⟨O,A0,A1⟩:=qm Am O A0 A1;have E:=bi Am E;refine I ?_;refine aW (v:=.agg #[S (ae (((a.1:Nat):Int)-((b.2:Nat):Int))),S (ae (((a.2:Nat):Int)-((b.1:Nat):Int)))]) (ci  rfl ?_) E Z;refine ai (t:=6) (cs:=[S (ae (((a.1:Nat):Int)-((b.2:Nat):Int))),S (ae (((a.2:Nat):Int)-((b.1:Nat):Int)))]) (b:=As.heap.size) (o:=0) jr Z fK ?_ ?_;exact Z;exact aa0 Ax (i:=0) Z
def gR {a b:N2}(hS:Sc sO)(ha:Bk 95 a)(hb:Bk 95 b)(ht:Tb w):
 CL 193 #[.agg #[.int .i64 pl,S (nS sO)],.agg #[S (nS a.1),S (nS a.2)],.agg #[S (nS b.1),S (nS b.2)]] w (aH w λv w'=>v=.agg #[S (nS ((nD sO a b).1)),S (nS ((nD sO a b).2))]):=by
 have Af:=ha.fi dc;have Am:=hb.fi dc;refine aD func193 Z (I ?_);refine bx (λ_ Ar O=>?_);have E:=Ar.2;refine bx (λ_ Az A0=>?_);have⟨O,E⟩:=bo Az.2 O E;refine bx (λAq Ao A1=>?_);have⟨O,A0,E⟩:=ca Ao.2 O A0 E;refine al bS (λ_ As A2=>?_);have⟨O,A0,A1,E⟩:=fw As.2 O A0 A1 E;refine I ?_;refine bQ 15 ?_;refine sf ?_;refine aX (V:=S (nS (a.1*b.1))) (λ_ _ B0 _=>?_) ?_;refine clb iz (hc:=gm Z Z Af.1 Am.1 (kaD ha.1 hb.1 dc) (ht.ext (xt E B0))) (hk:=?_);rintro _ _ Aw rfl;have Cr:=Aw.2;refine I ?_;exact fs ⟨Cr,rfl⟩;refine sf ?_;refine aX (V:=S (nS ((a.1*b.1)/sO))) (λ_ _ B1 _=>?_) ?_;refine clb xG (hc:=p7 Z Z (kaD ha.1 hb.1 dc) hS.fi hS.pos (ht.ext (xt E B1))) (hk:=?_);rintro _ _ Ap rfl;have D1:=Ap.2;refine I ?_;exact fs ⟨D1,rfl⟩;refine sf ?_;refine aX (V:=S (nS (a.2*b.2))) (λ_ _ B2 _=>?_) ?_;refine clb iz (hc:=gm Z Z Af.2 Am.2 (kaD ha.2 hb.2 dc) (ht.ext (xt E B2))) (hk:=?_);rintro _ _ CG rfl;have C0:=CG.2;refine I ?_;exact fs ⟨C0,rfl⟩;refine sf ?_;intro _ _ Ay _;have⟨O,A0,A1,A2,E⟩:=kC Ay.2 O A0 A1 A2 E;refine clb xH (hc:=yK Z Z (kaD ha.2 hb.2 dc) hS.fi hS.pos (ht.ext E)) (hk:=?_);rintro _ _ Ax rfl;have⟨O,A0,A1,A2,E⟩:=kC Ax.2 O A0 A1 A2 E;refine I ?_;refine SA A2 (λ_ Ab Av=>?_);have⟨O,A0,A1⟩:=qm Ab O A0 A1
 have E:=bi Ab E;refine I ?_;refine aW (v:=.agg #[S (nS ((a.1*b.1)/sO)),S (nS (s6 (a.2*b.2) sO))]) (ci  rfl ?_) E Z;refine ai (t:=6) (cs:=[S (nS ((a.1*b.1)/sO)),S (nS (s6 (a.2*b.2) sO))]) (b:=Aq.heap.size) (o:=0) jr Z fK ?_ ?_;exact Z;exact aa0 Av (i:=0) Z
def xg {a b:N2}(hS:Sc sO)(ha:Bk 95 a)(hb:Bk 190 b)(h1:0<b.1)(h2:0<b.2)(ht:Tb w):
 CL 198 #[.agg #[.int .i64 pl,S (nS sO)],.agg #[S (nS a.1),S (nS a.2)],.agg #[S (nS b.1),S (nS b.2)]] w (aH w λv w'=>v=.agg #[S (nS ((wk sO a b).1)),S (nS ((wk sO a b).2))]):=by
 have Af:=ha.fi dc;have Am:=hb.fi dc;refine aD func198 Z (I ?_);refine bx (λ_ Ar O=>?_);have E:=Ar.2;refine bx (λ_ Az A0=>?_);have⟨O,E⟩:=bo Az.2 O E;refine bx (λAq Ao A1=>?_);have⟨O,A0,E⟩:=ca Ao.2 O A0 E;refine al bS (λ_ As A2=>?_);have⟨O,A0,A1,E⟩:=fw As.2 O A0 A1 E;refine I ?_;refine bQ 15 ?_;refine sf ?_;refine aX (V:=S (nS (a.1*sO))) (λ_ _ B0 _=>?_) ?_;refine clb iz (hc:=gm Z Z Af.1 hS.fi (kaD ha.1 hS.lt dc) (ht.ext (xt E B0))) (hk:=?_);rintro _ _ Aw rfl;have Cr:=Aw.2;refine I ?_;exact fs ⟨Cr,rfl⟩;refine sf ?_;refine aX (V:=S (nS ((a.1*sO)/b.2))) (λ_ _ B1 _=>?_) ?_;refine clb xG (hc:=p7 Z Z (kaD ha.1 hS.lt dc) Am.2 h2 (ht.ext (xt E B1))) (hk:=?_);rintro _ _ Ap rfl;have D1:=Ap.2;refine I ?_;exact fs ⟨D1,rfl⟩;refine sf ?_;refine aX (V:=S (nS (a.2*sO))) (λ_ _ B2 _=>?_) ?_;refine clb iz (hc:=gm Z Z Af.2 hS.fi (kaD ha.2 hS.lt dc) (ht.ext (xt E B2))) (hk:=?_);rintro _ _ CG rfl;have C0:=CG.2;refine I ?_;exact fs ⟨C0,rfl⟩;refine sf ?_;intro _ _ Ay _;have⟨O,A0,A1,A2,E⟩:=kC Ay.2 O A0 A1 A2 E;refine clb xH (hc:=yK Z Z (kaD ha.2 hS.lt dc) Am.1 h1 (ht.ext E)) (hk:=?_);rintro _ _ Ax rfl;have⟨O,A0,A1,A2,E⟩:=kC Ax.2 O A0 A1 A2 E;refine I ?_;refine SA A2 (λ_ Ab Av=>?_);have⟨O,A0,A1⟩:=qm Ab O A0 A1;have E:=bi Ab E
 refine I ?_;refine aW (v:=.agg #[S (nS ((a.1*sO)/b.2)),S (nS (s6 (a.2*sO) b.1))]) (ci  rfl ?_) E Z;refine ai (t:=6) (cs:=[S (nS ((a.1*sO)/b.2)),S (nS (s6 (a.2*sO) b.1))]) (b:=Aq.heap.size) (o:=0) jr Z fK ?_ ?_;exact Z;exact aa0 Av (i:=0) Z
def lR {a:N2}{d:Nat}(ha:Bk 190 a)(hn:n<10^9)(hd:d<10^9)(h0:0<d)(ht:Tb w):
 CL 187 #[.agg #[.int .i64 pl,S (nS sO)],.agg #[S (nS a.1),S (nS a.2)],.int .i64 n,.int .i64 d] w (aH w λv w'=>v=.agg #[S (nS ((lO a n d).1)),S (nS ((lO a n d).2))]):=by
 have A2:=ha.fi dc;refine aD func187 Z (I ?_);refine bx (λ_ wr O=>?_);have E:=wr.2;refine bx (λAx Aw A0=>?_);have⟨O,E⟩:=bo Aw.2 O E;refine al bS (λ_ Ao A1=>?_);have⟨O,A0,E⟩:=ca Ao.2 O A0 E;refine I ?_;refine cl tC (u5 hn (ht.ext E)) ?_;rintro _ _ B0 rfl;have⟨O,A0,A1,E⟩:=fw B0.2 O A0 A1 E;refine I ?_;refine cl tC (u5 hd (ht.ext E)) ?_;rintro _ _ As rfl;have⟨O,A0,A1,E⟩:=fw As.2 O A0 A1 E;refine I ?_;refine bQ 11 ?_;refine sf ?_;refine aX (V:=S (nS (a.1*n))) (λ_ _ B1 _=>?_) ?_;refine clb iz (hc:=gm Z Z A2.1 (ia hn dc) (kaD ha.1 hn dc) (ht.ext (xt E B1))) (hk:=?_);rintro _ _ Af rfl;have Ar:=Af.2;refine I ?_;exact fs ⟨Ar,rfl⟩;refine sf ?_;refine aX (V:=S (nS ((a.1*n)/d))) (λ_ _ B2 _=>?_) ?_;refine clb xG (hc:=p7 Z Z (kaD ha.1 hn dc) (ia hd dc) h0 (ht.ext (xt E B2))) (hk:=?_);rintro _ _ C0 rfl;have Ab:=C0.2;refine I ?_;exact fs ⟨Ab,rfl⟩;refine sf ?_;refine aX (V:=S (nS (a.2*n))) (λ_ _ Ay _=>?_) ?_;refine clb iz (hc:=gm Z Z A2.2 (ia hn dc) (kaD ha.2 hn dc) (ht.ext (xt E Ay))) (hk:=?_);rintro _ _ Av rfl;have Az:=Av.2;refine I ?_;exact fs ⟨Az,rfl⟩;refine sf ?_;intro _ _ Aq _;have⟨O,A0,A1,E⟩:=fw Aq.2 O A0 A1 E;refine clb xH (hc:=yK Z Z (kaD ha.2 hn dc) (ia hd dc) h0 (ht.ext E)) (hk:=?_)
 rintro _ _ Ap rfl;have⟨O,A0,A1,E⟩:=fw Ap.2 O A0 A1 E;refine I ?_;refine SA A1 (λ_ nm Am=>?_);have⟨O,A0⟩:=js nm O A0;have E:=bi nm E;refine I ?_;refine aW (v:=.agg #[S (nS ((a.1*n)/d)),S (nS (s6 (a.2*n) d))]) (ci  rfl ?_) E Z;refine ai (t:=8) (cs:=[S (nS ((a.1*n)/d)),S (nS (s6 (a.2*n) d))]) (b:=Ax.heap.size) (o:=0) jr Z fK ?_ ?_;exact Z;exact aa0 Am (i:=0) Z
end
end Go.Proofs.YtlmihmlnpjkblaaGreatDoor
