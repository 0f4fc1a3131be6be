/- Part of the proof of a statement about an adjustment. -/
import Derived.Test.YtlmihmlnpjkblaaGreatDoorInt6ToInt12L
set_option linter.all false
namespace Go.Proofs.YtlmihmlnpjkblaaGreatDoor
variable {ng nx ny:Bool}{a l b:List UInt8}{lo q:Nat}{A:Option Addr}{p:Prop}{w w':World}
set_option maxRecDepth 100000
open Go Go.Eng Go.RowKit Tryz
attribute [local irreducible] wpListIn Code.wpIn Oper.wpIn Exit.then Exit.inBlock Exit.noGoto
set_option maxHeartbeats 40000000
def bw (h:p:=by assumption):p:=h
def cJ {n c a k:Nat}(h:qc w lo A n c a)(hl:a<10000^k):n<=k:=by rw[<-h.len];exact(a7 10000 U a k).2 hl
def en (h:isInt l=true):aE (body l)<10000^50:=qb1 (so (em h)) dc
def mT (l:List UInt8):bN (neg l) (aE (body l))=ah l:=rfl
def Et (ng:Bool)(a:Nat):bN (!ng) a=-bN ng a:=by cases ng <;>simp[bN]
def qE {a b:Bool}(h:¬(a&&b)=true):(a&&b)=false:=by simpa using h
def ic {a b:Bool}(h:(a&&b)=true):a=true:=by simp at h;exact h.1
def gV {a b:Bool}(h:(a&&b)=true):b=true:=by simp at h;exact h.2
def xR (h:(isInt a&&isInt b)=true):xN a b=ba (ah a+ah b):=by unfold xN;rw[if_pos h]
def NX (h:(isInt a&&isInt b)=false):xN a b=none:=by unfold xN;rw[h];rfl
def pc (h:(isInt a&&isInt b)=true):aT a b=ba (ah a-ah b):=by unfold aT;rw[if_pos h]
def xS (h:(isInt a&&isInt b)=false):aT a b=none:=by unfold aT;rw[h];rfl
def gy (h:(isInt a&&isInt b)=true):ay a b=ba (ah a*ah b):=by unfold ay;rw[if_pos h]
def NY (h:(isInt a&&isInt b)=false):ay a b=none:=by unfold ay;rw[h];rfl
def xT (h:(isInt a&&isInt b)=false):bP a b=none:=by unfold bP;rw[h];rfl
def xU (h:(isInt a&&isInt b)=false):dH a b=0:=by unfold dH;rw[h];rfl
def Eu (h:(isInt a&&isInt b)=true):bP a b=ba (bN false (Nat.gcd (aE (body a)) (aE (body b)))):=by
 unfold bP;rw[if_pos h]
 have:Int.gcd (ah a) (ah b)=Nat.gcd (aE (body a)) (aE (body b)):=by rw[Int.gcd,dT,dT]
 rw[this];rfl
def NZ (x y:Bool)(a b:Nat):bN (!(x==y)) (a*b)=bN x a*bN y b:=by cases x <;>cases y <;>simp[bN,Int.neg_mul,Int.mul_neg]
def sum_lt (ha:isInt a=true)(hb:isInt b=true){r:Nat}{s:Int}(h:bN ng r=ah a+s)(hs:s=ah b\/s=-ah b):r<10000^51:=by
 have h1:=en ha
 have h2:=en hb
 have e:(bN ng r).natAbs=r:=jI ng r
 have G:=dT a
 have E:=dT b
 have:(10000:Nat)^51=10000^50*10000:=by rw[<-Nat.pow_succ]
 generalize (10000:Nat)^50=M at *
 omega
def tX (h:(isInt a&&isInt b)=true)(ha:neg a=true)(hb:neg b=true):aN ((aE (body b):Nat):Int) ((aE (body a):Nat):Int)=dH a b:=by
 unfold dH;rw[if_pos h]
 refine nV ?_ ?_ <;>(unfold ah;rw[if_pos ha,if_pos hb];omega)
def tY (h:(isInt a&&isInt b)=true)(ha:neg a=true)(hb:neg b=false):(-1:Int)=dH a b:=by
 unfold dH;rw[if_pos h,fV]
 have:=oZ (em (ic h)) (nX (ic h) ha)
 unfold ah;rw[if_pos ha,if_neg (by simp[hb])];omega
def tZ (h:(isInt a&&isInt b)=true)(ha:neg a=false)(hb:neg b=true):(1:Int)=dH a b:=by
 unfold dH;rw[if_pos h,eK]
 have:=oZ (em (gV h)) (nX (gV h) hb)
 have E:ah a=(aE (body a):Int):=by unfold ah;rw[if_neg (by simp[ha])]
 have e2:ah b=-(aE (body b):Int):=by unfold ah;rw[if_pos hb]
 rw[E,e2];omega
def qu (h:(isInt a&&isInt b)=true)(ha:neg a=false)(hb:neg b=false):aN ((aE (body a):Nat):Int) ((aE (body b):Nat):Int)=dH a b:=by
 unfold dH;rw[if_pos h]
 unfold ah;rw[if_neg (by simp[ha]),if_neg (by simp[hb])]
def vI (o:Option (List UInt8×List UInt8)):Value:=.tuple #[S (rS (o.map (·.1))),S (rS (o.map (·.2))),.int .i64 (if o.isSome then 0 else 30)]
def xV (h:(isInt a&&isInt b)=false):dk a b=none:=by unfold dk;rw[h];rfl
def mA (h:aE (body b)=0):dk a b=none:=by
 unfold dk
 by_cases hb:isInt b=true
 · have:b=[48]:=(fY hb).1 (by have:=dT b;omega)
   simp[this]
 · simp[hb]
def lw (h:(isInt a&&isInt b)=true)(h0:0<aE (body b)):dk a b=(ba (ah a/ah b)).map λq=>(q,ae (ah a%ah b)):=by
 have hb:b≠[48]:=by intro e;subst e;exact absurd qy (by have:body [48]=[48]:=rfl;rw[this]at h0;omega)
 unfold dk
 rw[h,decide_eq_true hb];rfl
def zQ (ny:Bool)(x:Int)(b:Nat):x/bN ny b=(if ny then -(x/(b:Int))else x/(b:Int))/\x%bN ny b=x%(b:Int):=by
 cases ny
 · simp[bN]
 · simp[bN,Int.ediv_neg,Int.emod_neg]
def Gv {a b:Nat}(hb:0<b)(hc:nx=false\/a%b=0):bN (!(nx==ny)) (a/b)=bN nx a/bN ny b/\((a%b:Nat):Int)=bN nx a%bN ny b:=by
 obtain⟨G,e2⟩:=zQ ny (bN nx a) b
 rw[G,e2]
 cases nx with
 | false=>
   simp only[bN,Bool.false_eq_true,if_false]
   cases ny <;>simp
 | true=>
   have E:a%b=0:=by rcases hc with h|h;cases h;exact h
   have hd:(b:Int)∣(a:Int):=Int.natCast_dvd_natCast.2 (Nat.dvd_of_mod_eq_zero E)
   simp only[bN,if_true]
   rw[Int.neg_ediv_of_dvd hd,Int.emod_eq_zero_of_dvd (Int.dvd_neg.2 hd),E]
   cases ny <;>simp
def Gw {a b:Nat}(hb:0<b)(hr:0<a%b):bN (!(true==ny)) (a/b+1)=bN true a/bN ny b/\((b-a%b:Nat):Int)=bN true a%bN ny b:=by
 obtain⟨G,e2⟩:=zQ ny (bN true a) b
 rw[G,e2]
 have hlt:=Nat.mod_lt a hb
 have E:=Nat.div_add_mod a b
 have key:(-(a:Int))/(b:Int)=-((a/b:Nat):Int)-1/\(-(a:Int))%(b:Int)=((b-a%b:Nat):Int):=by
  refine(Int.ediv_emod_unique U).2 ⟨?_,by omega,by omega⟩
  have h3:(a:Int)=(b:Int)*((a/b:Nat):Int)+((a%b:Nat):Int):=by rw[<-Int.natCast_mul,<-Int.natCast_add,E]
  rw[Int.mul_sub,Int.mul_neg]
  omega
 simp only[bN,if_true]
 rw[key.1,key.2]
 cases ny <;>simp <;>omega
def TJ {r:Nat}{x:Int}(hr:r<10^200)(h:(r:Int)=x):rS (ba (bN false r))=ae x:=by
 have hf:fits x=true:=by unfold fits;rw[decide_eq_true_eq];omega
 have e:bN false r=x:=h
 rw[e];unfold ba;rw[if_pos hf];rfl
def lx {r:Nat}(hb:isInt b=true)(h:r<=aE (body b)):r<10^200:=Nat.lt_of_le_of_lt h (so (em hb))
def N3 {o:Option (List UInt8)}(h:rE o=0):∃s,o=some s:=by cases o with|none=>simp[rE]at h|some s=>exact⟨s,rfl⟩
def Xb {o:Option (List UInt8)}(h:¬rE o=0):o=none:=by cases o with|none=>rfl|some s=>simp[rE]at h
def qi {r:Nat}(h:(isInt a&&isInt b)=true)(h0:0<aE (body b))(hq:bN ng q=ah a/ah b)(hr:(r:Int)=ah a%ah b)(hl:r<=aE (body b))(hE:rE (ba (bN ng q))=0):
 Value.tuple #[S (rS (ba (bN ng q))),S (rS (ba (bN false r))),.int .i64 0]=vI (dk a b):=by
 rw[lw h h0,TJ (lx (gV h) hl) hr,<-hq]
 obtain⟨s,hs⟩:=N3 hE
 rw[hs];rfl
def qp (h:(isInt a&&isInt b)=true)(h0:0<aE (body b))(hq:bN ng q=ah a/ah b)(hE:¬rE (ba (bN ng q))=0):
 Value.tuple #[S [],S [],.int .i64 (rE (ba (bN ng q)))]=vI (dk a b):=by
 rw[lw h h0,<-hq,Xb hE];rfl
def N4 (ha:isInt a=true)(hb:isInt b=true):aE (body a)*aE (body b)<10000^100:=by
 have h1:=en ha
 have h2:=en hb
 have:(10000:Nat)^100=10000^50*10000^50:=by rw[<-Nat.pow_add]
 rw[this]
 exact Nat.mul_lt_mul'' h1 h2
def xW (lo:Nat)(ng:Bool)(a:Nat)(v:Value)(w:World):Prop:=∃A n c,v=.agg #[.bool ng,.slice A n c]/\qc w lo A n c a
def xW.ext {a:Nat}{v:Value}(k:aO w w')(h:xW lo ng a v w):xW lo ng a v w':=by
 obtain⟨A,n,c,hv,E⟩:=h
 exact⟨A,n,c,hv,E.ext k⟩
def xX (a b:List UInt8)(w:World)(ht:Tb w):
 CL 186 #[S a,S b] w (aG w λv w'=>v=iA (xN a b)):=by
 by_cases H:(isInt a&&isInt b)=true;have Ap:=ic H;have hb:=gV H;refine aC func186 Z (I ?_);refine cl kB (lv _ _ _ Ap hb) ?_;rintro _ _ C1 ⟨A1,Cr,c1,A2,n2,c2,rfl,h1,h2⟩;have E:=C1.2;have E0:=cJ h1 (en Ap);have CG:=cJ h2 (en hb);have Aw:=h1.hi;have Ar:=h2.hi;refine I ?_;refine al bG (λ_ Am Aq=>?_);have h1:=aa7 Am.2 h1;have h2:=aa7 Am.2 h2;have E:=xt E Am.2;refine al bG (λ_ Ab Af=>?_);have h1:=aa7 Ab.2 h1;have h2:=aa7 Ab.2 h2;have⟨Aq,E⟩:=bn Ab.2 Aq E;refine SA Aq (λ_ A0 As=>?_);have h1:=ac2 A0 (λO e=>by have:=Aw O e;omega) h1;have h2:=ac2 A0 (λO e=>by have:=Ar O e;omega) h2;have⟨Af,E,_⟩:=kt A0 Af E;refine SA Af (λ_ W _=>?_);have h1:=ac2 W (λO e=>by have:=Aw O e;omega) h1;have h2:=ac2 W (λO e=>by have:=Ar O e;omega) h2;have As:=pb W As;have E:=bi W E;refine I ?_;refine clb QK (hc:=zM h1 U h2 U) (hk:=?_);rintro _ _ B2 ⟨ng,r,A,n,c,rfl,hr,hs⟩;have E:=xt E B2.2;rw[mT,mT]at hs;have CY:=cJ hr (sum_lt Ap hb hs (by exact Or.inl Z));refine clb mi (hc:=fI hr U (ht.ext E)) (hk:=?_);rintro _ _ B1 rfl;have E:=xt E B1.2;refine I ?_
 exact bu (t:=4) (u:=5) (v1:=S (rS (ba (bN ng r)))) (v2:=.int .i64 (rE (ba (bN ng r)))) Z E (by rw[xR H];exact qb2 (λx=>iA (ba x)) hs) Z Z;have H:=qE H;refine aC func186 Z (I ?_);refine cl kB (mS _ _ _ H) ?_;rintro _ _ wr rfl;have G:=wr.2;refine I ?_;refine al bG (λ_ CB nm=>?_);have G:=xt G CB.2;refine al bG (λ_ Az Ao=>?_);have⟨nm,G⟩:=bn Az.2 nm G;refine SA nm (λ_ Ay Av=>?_);have⟨Ao,G,_⟩:=kt Ay Ao G;refine SA Ao (λ_ Ax _=>?_);have Av:=pb Ax Av;have G:=bi Ax G;refine I ?_;exact bu (t:=4) (u:=5) (v1:=S []) (v2:=.int .i64 30) Z G (by rw[NX H];rfl) Z Z
def su (a b:List UInt8)(w:World)(ht:Tb w):
 CL 86 #[S a,S b] w (aG w λv w'=>v=iA (aT a b)):=by
 by_cases O:(isInt a&&isInt b)=true;have Ap:=ic O;have hb:=gV O;refine aC func86 Z (I ?_);refine cl kB (lv _ _ _ Ap hb) ?_;rintro _ _ wr ⟨A1,E0,c1,A2,n2,c2,rfl,h1,h2⟩;have E:=wr.2;have E1:=cJ h1 (en Ap);have CY:=cJ h2 (en hb);have Aq:=h1.hi;have Ab:=h2.hi;refine I ?_;refine al bG (λ_ Am nm=>?_);have h1:=aa7 Am.2 h1;have h2:=aa7 Am.2 h2;have E:=xt E Am.2;refine al bG (λ_ Ar Ao=>?_);have h1:=aa7 Ar.2 h1;have h2:=aa7 Ar.2 h2;have⟨nm,E⟩:=bn Ar.2 nm E;refine SA nm (λ_ As A0=>?_);have h1:=ac2 As (λG e=>by have:=Aq G e;omega) h1;have h2:=ac2 As (λG e=>by have:=Ab G e;omega) h2;have⟨Ao,E,_⟩:=kt As Ao E;refine SA Ao (λ_ Aw C1=>?_);have h1:=ac2 Aw (λG e=>by have:=Aq G e;omega) h1;have h2:=ac2 Aw (λG e=>by have:=Ab G e;omega) h2;have⟨A0,E,_⟩:=kt Aw A0 E;refine I ?_;refine SO C1 (λ_ W _=>?_);have h1:=ac2 W (λG e=>by have:=Aq G e;omega) h1;have h2:=ac2 W (λG e=>by have:=Ab G e;omega) h2;have A0:=pb W A0;have E:=bi W E;refine I ?_;refine clb QK (hc:=zM h1 U h2 U) (hk:=?_);rintro _ _ B2 ⟨ng,r,A,n,c,rfl,hr,hs⟩;have E:=xt E B2.2;rw[mT,Et,mT]at hs;have Cr:=cJ hr (sum_lt Ap hb hs (by exact Or.inr Z))
 refine clb mi (hc:=fI hr U (ht.ext E)) (hk:=?_);rintro _ _ Az rfl;have E:=xt E Az.2;refine I ?_;exact bu (t:=4) (u:=5) (v1:=S (rS (ba (bN ng r)))) (v2:=.int .i64 (rE (ba (bN ng r)))) Z E (by rw[pc O];rw[show ah a-ah b=ah a+-ah b from rfl];exact qb2 (λx=>iA (ba x)) hs) Z Z;have O:=qE O;refine aC func86 Z (I ?_);refine cl kB (mS _ _ _ O) ?_;rintro _ _ CB rfl;have H:=CB.2;refine I ?_;refine al bG (λ_ CG Af=>?_);have H:=xt H CG.2;refine al bG (λ_ B1 Av=>?_);have⟨Af,H⟩:=bn B1.2 Af H;refine SA Af (λ_ od Ay=>?_);have⟨Av,H,_⟩:=kt od Av H;refine SA Av (λ_ Ax _=>?_);have Ay:=pb Ax Ay;have H:=bi Ax H;refine I ?_;exact bu (t:=4) (u:=5) (v1:=S []) (v2:=.int .i64 30) Z H (by rw[xS O];rfl) Z Z
def Ev (a b:List UInt8)(w:World)(ht:Tb w):
 CL 85 #[S a,S b] w (aG w λv w'=>v=iA (ay a b)):=by
 by_cases H:(isInt a&&isInt b)=true;have Av:=ic H;have hb:=gV H;refine aC func85 Z (I ?_);refine cl kB (lv _ _ _ Av hb) ?_;rintro _ _ E0 ⟨A1,H2,c1,A2,n2,c2,rfl,h1,h2⟩;have E:=E0.2;have H3:=cJ h1 (en Av);have GC:=cJ h2 (en hb);have B2:=h1.hi;have Az:=h2.hi;refine I ?_;refine al bG (λ_ Ax As=>?_);have h1:=aa7 Ax.2 h1;have h2:=aa7 Ax.2 h2;have E:=xt E Ax.2;refine al bG (λ_ Aq Af=>?_);have h1:=aa7 Aq.2 h1;have h2:=aa7 Aq.2 h2;have⟨As,E⟩:=bn Aq.2 As E;refine SA As (λ_ Ao Ay=>?_);have h1:=ac2 Ao (λO e=>by have:=B2 O e;omega) h1;have h2:=ac2 Ao (λO e=>by have:=Az O e;omega) h2;have⟨Af,E,_⟩:=kt Ao Af E;refine SA Af (λE1 Ab _=>?_);have h1:=ac2 Ab (λO e=>by have:=B2 O e;omega) h1;have h2:=ac2 Ab (λO e=>by have:=Az O e;omega) h2;have Ay:=pb Ab Ay;have E:=bi Ab E;refine I ?_;obtain⟨L,_⟩:∃L,L=E1.heap.size:=⟨_,rfl⟩;refine bL 14 ?_;refine sf ?_;refine aA (λ_ _ _ _=>by refine aa (l9 (a:=neg a) (b:=neg b) (q:=(!((neg a)==(neg b)))) U4 Z Z Z ?_);refine I ?_;exact aH) ?_;refine sf ?_;refine bR (λv w=>dR L (aE (body a)*aE (body b)) v w) (hs:=λ_ _ _ k h=>h.ext k) (λ_ _ Ap _=>?_) ?_;have h1:=aa7 Ap h1;have h2:=aa7 Ap h2
 refine clb Wj (hc:=Jc h1 U h2 U) (hk:=?_);rintro _ _ ES ⟨Ar,A0,W,rfl,hr⟩;have CY:=ES.2;have hr:=hr.mono (lo':=L) (by have:=bz Ap;omega);refine I ?_;exact fs ⟨CY,⟨Ar,A0,W,rfl,hr⟩⟩;refine bR (λv w=>xW L (!(neg a==neg b)) (aE (body a)*aE (body b)) v w) (hs:=λ_ _ _ k h=>h.ext k) (λ_ _ _ EW=>?_) ?_;obtain⟨Ar,A0,W,Cr,hr⟩:=(EW 9 27 Z Z);refine aa (bU (vs:=[(0,.bool (!((neg a)==(neg b)))),(1,.slice Ar A0 W)]) (cells:=#[.bool (!((neg a)==(neg b))),.slice Ar A0 W]) (pl:=[(0,1),(1,1)]) kA bG q0 (cY Z (cY Cr Z)) q0 ?_);refine I ?_;exact fs ⟨aa4 _,⟨Ar,A0,W,rfl,hr⟩⟩;refine aR (V:=.tuple #[S (rS (ba (bN (!(neg a==neg b)) (aE (body a)*aE (body b))))),.int .i64 (rE (ba (bN (!(neg a==neg b)) (aE (body a)*aE (body b)))))]) (λ_ _ E7 CB=>?_) ?_;obtain⟨_,_,_,G0,hq⟩:=(CB 10 28 Z Z);have H4:=cJ hq (N4 Av hb);refine clb mi (hc:=fI hq U (ht.ext (xt E E7))) (hk:=?_) (hv:=av G0 Z);rintro _ _ E5 rfl;have E4:=E5.2;refine I ?_;exact fs ⟨E4,rfl⟩;refine sf ?_;intro _ _ nm _;have E:=xt E nm.2;refine I ?_
 exact bu (t:=4) (u:=5) (v1:=S (rS (ba (bN (!(neg a==neg b)) (aE (body a)*aE (body b)))))) (v2:=.int .i64 (rE (ba (bN (!(neg a==neg b)) (aE (body a)*aE (body b)))))) Z E (by rw[gy H,<-mT,<-mT,<-NZ];rfl) Z Z;have H:=qE H;refine aC func85 Z (I ?_);refine cl kB (mS _ _ _ H) ?_;rintro _ _ E6 rfl;have G:=E6.2;refine I ?_;refine al bG (λ_ CG Am=>?_);have G:=xt G CG.2;refine al bG (λ_ E9 Aw=>?_);have⟨Am,G⟩:=bn E9.2 Am G;refine SA Am (λ_ FR B1=>?_);have⟨Aw,G,_⟩:=kt FR Aw G;refine SA Aw (λ_ C1 _=>?_);have B1:=pb C1 B1;have G:=bi C1 G;refine I ?_;exact bu (t:=4) (u:=5) (v1:=S []) (v2:=.int .i64 30) Z G (by rw[NY H];rfl) Z Z
def pf (a b:List UInt8)(w:World):
 CL 64 #[S a,S b] w (aG w λv w'=>v=.int .i64 (dH a b)):=by
 by_cases E:(isInt a&&isInt b)=true;have Av:=ic E;have hb:=gV E;refine aC func64 Z (I ?_);refine cl kB (lv _ _ _ Av hb) ?_;rintro _ _ B1 ⟨A1,CY,c1,A2,n2,c2,rfl,h1,h2⟩;have G:=B1.2;have Cr:=cJ h1 (en Av);have CG:=cJ h2 (en hb);have Aw:=h1.hi;have Aq:=h2.hi;refine I ?_;refine al bG (λ_ nm Ap=>?_);have h1:=aa7 nm.2 h1;have h2:=aa7 nm.2 h2;have G:=xt G nm.2;refine al bG (λ_ Ao A0=>?_);have h1:=aa7 Ao.2 h1;have h2:=aa7 Ao.2 h2;have⟨Ap,G⟩:=bn Ao.2 Ap G;refine SA Ap (λ_ Am As=>?_);have h1:=ac2 Am (λO e=>by have:=Aw O e;omega) h1;have h2:=ac2 Am (λO e=>by have:=Aq O e;omega) h2;have⟨A0,G,_⟩:=kt Am A0 G;refine SA A0 (λ_ W _=>?_);have h1:=ac2 W (λO e=>by have:=Aw O e;omega) h1;have h2:=ac2 W (λO e=>by have:=Aq O e;omega) h2;have As:=pb W As;have G:=bi W G;refine I ?_;rcases qa4 (neg a)with cx|cx;refine I ?_;rcases qa4 (neg b)with nv|nv;refine I ?_;refine clb y9 (hc:=jF h2 U h1) (hk:=?_);rintro _ _ Az rfl;have G:=xt G Az.2;refine I ?_;exact am (t:=4) (v:=.int .i64 (aN ((aE (body b):Nat):Int) ((aE (body a):Nat):Int))) Z G (qb2 (Value.int .i64) BT) Z
 refine I ?_;exact am (t:=4) (v:=.int .i64 (-1)) Z G (qb2 (Value.int .i64) BT) rfl;refine I ?_;rcases qa4 (neg b)with od|od;refine I ?_;exact am (t:=4) (v:=.int .i64 1) Z G (qb2 (Value.int .i64) BT) rfl;refine I ?_;refine clb y9 (hc:=jF h1 U h2) (hk:=?_);rintro _ _ CB rfl;have G:=xt G CB.2;refine I ?_;exact am (t:=4) (v:=.int .i64 (aN ((aE (body a):Nat):Int) ((aE (body b):Nat):Int))) Z G (qb2 (Value.int .i64) BT) rfl;have E:=qE E;refine aC func64 Z (I ?_);refine cl kB (mS _ _ _ E) ?_;rintro _ _ Ay rfl;have H:=Ay.2;refine I ?_;refine al bG (λ_ C1 Af=>?_);have H:=xt H C1.2;refine al bG (λ_ Ax Ab=>?_);have Af:=be Ax.2 Af;have H:=xt H Ax.2
 refine SA Af (λ_ B2 wr=>?_);have⟨Ab,H,_⟩:=kt B2 Ab H;refine SA Ab (λ_ Ar _=>?_);have wr:=pb Ar wr;have H:=bi Ar H;refine I ?_;exact am (t:=4) (v:=.int .i64 0) Z H (by rw[xU E]) Z
def j4 (h:p:=by kernel_rfl):p:=h
def dU (h:p:=by assumption):p:=h
def N5 (h:Rw w lo A [Value.int .i64 1]):qc w lo A 1 1 1:=by
 have e:ao 10000 1=[1]:=by decide
 exact⟨by rw[e];exact h,by rw[e];rfl,qa0 _⟩
def Yx (h0:0<aE (body b))(hc:neg a=false\/aE (body a)%aE (body b)=0):bN (!(neg a==neg b)) (aE (body a)/aE (body b))=ah a/ah b/\((aE (body a)%aE (body b):Nat):Int)=ah a%ah b:=
 Gv h0 hc
def Z9 (h0:0<aE (body b))(ha:neg a=true)(hr:0<aE (body a)%aE (body b)):bN (!(neg a==neg b)) (aE (body a)/aE (body b)+1)=ah a/ah b/\((aE (body b)-aE (body a)%aE (body b):Nat):Int)=ah a%ah b:=by
 have:=Gw (ny:=neg b) h0 hr
 rw[<-ha]at this
 exact this
def zR {a b:Nat}(h:a<10000^50):a/b<10000^50:=Nat.lt_of_le_of_lt (Nat.div_le_self a b) h
def Gx {a:Nat}(h:a<10000^50):a+1<10000^51:=by
 have:(10000:Nat)^51=10000^50*10000:=by rw[<-Nat.pow_succ]
 generalize (10000:Nat)^50=M at *
 omega
def zS {x y G:Nat}(h:Nat.gcd x y=G):Nat.gcd y (x%y)=G:=by rw[Nat.gcd_comm,<-Nat.gcd_rec,Nat.gcd_comm];exact h
def TK :
 CL 122 #[] w (aG w λv w'=>∃A n c,v=.slice A n c/\qc w' w.heap.size A n c 1):=by
 refine aC func122 Z (I ?_);refine BS (λ_ H _ G=>?_);have E:=H;refine I ?_;exact am (t:=0) (v:=.slice (some ⟨w.heap.size,0,none⟩) 1 1) Z E ⟨_,_,_,rfl,N5 (aa8 G)⟩ Z
def j5 (a b:List UInt8)(w:World)(ht:Tb w):
 CL 63 #[S a,S b] w (aG w λv w'=>v=vI (dk a b)):=by
 by_cases O:(isInt a&&isInt b)=true;have Az:=ic O;have hb:=gV O;refine aC func63 Z (I ?_);refine cl kB (lv _ _ _ Az hb) ?_;rintro _ _ L2 ⟨A1,W1,c1,A2,n2,c2,rfl,h1,h2⟩;have E:=L2.2;have W2:=cJ h1 (en Az);have S0:=cJ h2 (en hb);have Ix:=h1.hi;have H3:=h2.hi;refine I ?_;refine al bG (λ_ Cr CG=>?_);have h1:=aa7 Cr.2 h1;have h2:=aa7 Cr.2 h2;have E:=xt E Cr.2;refine al bG (λ_ E0 CY=>?_);have h1:=aa7 E0.2 h1;have h2:=aa7 E0.2 h2;have⟨CG,E⟩:=bn E0.2 CG E;refine SA CG (λ_ E4 Af=>?_);have h1:=ac2 E4 (λAb e=>by have:=Ix Ab e;omega) h1;have h2:=ac2 E4 (λAb e=>by have:=H3 Ab e;omega) h2;have⟨CY,E,_⟩:=kt E4 CY E;refine SA CY (λ_ B1 Ay=>?_);have h1:=ac2 B1 (λAb e=>by have:=Ix Ab e;omega) h1;have h2:=ac2 B1 (λAb e=>by have:=H3 Ab e;omega) h2;have Af:=pb B1 Af;have E:=bi B1 E;refine I ?_;by_cases aoz:(n2:Int)=0;have G:aE (body b)=0:=jo (B:=10000) U (h2.len.trans U);refine I ?_;exact fq (t:=4) (u:=5) (s:=6) (v1:=S []) (v2:=S []) (v3:=.int .i64 30) Z E Rg Z Z Z;have G:0<aE (body b):=mz (B:=10000) U kd0;refine I ?_
 refine clb DL (hc:=sn h1 U h2 U G) (hk:=?_);rintro _ P1 H4 ⟨Aq,T2,Rm,Ar,Av,Aw,rfl,hq,hr⟩;have h2:=aa7 H4.2 h2;have⟨Af,Ay,E⟩:=cj H4.2 Af Ay E;have P0:=cJ hq (zR (en Az));have T3:=cJ hr (Nat.lt_trans (Nat.mod_lt _ G) (en hb));refine I ?_;rcases qa4 (neg a)with ly|ly;refine I ?_;by_cases ao0:0<(Av:Int);have CB:0<aE (body a)%aE (body b):=mz (B:=10000) U (by rw[hr.len];omega);have H:=Z9 G ly CB;have W:aE (body b)-aE (body a)%aE (body b)<=aE (body b):=Nat.sub_le _ _;refine I ?_;obtain⟨L,_⟩:∃L,L=P1.heap.size:=⟨_,rfl⟩;have K3:aE (body a)%aE (body b)<=aE (body b):=Nat.le_of_lt (Nat.mod_lt _ G);have No:Av<=n2:=by rw[<-hr.len,<-h2.len];exact ek U K3
 have l1':=P0;refine bL 7 ?_;refine sf ?_;refine bR (λv w=>dR L 1 v w) (hs:=λ_ _ _ k h=>h.ext k) (λ_ _ Li _=>?_) ?_;refine cl V5 TK ?_;rintro _ _ KM ⟨A1c,EW,GC,rfl,As⟩;have Kp:=KM.2;have As:=As.mono (lo':=L) (by have:=bz Li;omega);refine I ?_;exact fs ⟨Kp,⟨A1c,EW,GC,rfl,As⟩⟩;refine bR (λv w=>dR L (aE (body a)/aE (body b)+1) v w) (hs:=λ_ _ _ k h=>h.ext k) (λ_ _ FR N0=>?_) ?_;obtain⟨A1c,EW,GC,Ne,As⟩:=(N0 1 47 Z Z);have S9:=cJ (k:=1) As dc;have hq:=aa7 FR hq;refine clb y8 (hc:=oW hq U As U) (hk:=?_) (hv:=av Z (av Ne Z));rintro _ _ od ⟨Ap,G0,E5,rfl,Ao⟩;have L1:=od.2;have Ao:=Ao.mono (lo':=L) (by have:=bz FR;omega);refine I ?_;exact fs ⟨L1,⟨Ap,G0,E5,rfl,Ao⟩⟩;refine sf ?_;refine bR (λv w=>dR L (aE (body b)-aE (body a)%aE (body b)) v w) (hs:=λ_ _ _ k h=>h.ext k) (λ_ _ C1 _=>?_) ?_;have h2:=aa7 C1 h2;have hr:=aa7 C1 hr;refine clb DN (hc:=oX h2 U hr U K3 No) (hk:=?_);rintro _ _ Q0 ⟨Am,nm,Ax,rfl,hm⟩;have KY:=Q0.2;have hm:=hm.mono (lo':=L) (by have:=bz C1;omega);refine I ?_;exact fs ⟨KY,⟨Am,nm,Ax,rfl,hm⟩⟩;refine sf ?_;intro _ _ wr E7;have⟨Af,Ay,E⟩:=cj wr.2 Af Ay E;obtain⟨Ap,G0,E5,_,Ao⟩:=(E7 2 48 Z Z);obtain⟨Am,nm,Ax,_,hm⟩:=(E7 6 52 Z Z);refine I ?_
 have Vm:=cJ Ao (Gx (zR (en Az)));have VW:=cJ hm (Nat.lt_of_le_of_lt (Nat.sub_le _ _) (en hb));refine I ?_;refine aa (l9 (a:=neg a) (b:=neg b) (q:=(!((neg a)==(neg b)))) U4 Z Z Z ?_);refine I ?_;refine clb mi (hc:=fI Ao U (ht.ext E)) (hk:=?_);rintro _ _ E9 rfl;have hm:=aa7 E9.2 hm;have E:=xt E E9.2;refine I ?_;by_cases ao2:(rE (ba (bN (!((neg a)==(neg b))) (aE (body a)/aE (body b)+1))))=0;refine I ?_;refine aa (bU (vs:=[(1,.slice Am nm Ax)]) (cells:=#[.bool false,.slice Am nm Ax]) (pl:=[(0,1),(1,1)]) kA bG j4 Z j4 ?_);refine clb mi (hc:=fI hm U (ht.ext E)) (hk:=?_);rintro _ _ L4 rfl;have E:=xt E L4.2;refine I ?_;exact fq (t:=4) (u:=5) (s:=6) (v1:=S (rS (ba (bN (!((neg a)==(neg b))) (aE (body a)/aE (body b)+1))))) (v2:=S (rS (ba (bN false (aE (body b)-aE (body a)%aE (body b)))))) (v3:=.int .i64 0) Z E Rg Z Z Z;refine I ?_
 exact fq (t:=4) (u:=5) (s:=6) (v1:=S []) (v2:=S []) (v3:=.int .i64 (rE (ba (bN (!((neg a)==(neg b))) (aE (body a)/aE (body b)+1))))) Z E Rg Z Z Z;have CB:aE (body a)%aE (body b)=0:=jo (B:=10000) U (hr.len.trans U);have H:=Yx (a:=a) G (Or.inr CB);have W:aE (body a)%aE (body b)<=aE (body b):=Nat.le_of_lt (Nat.mod_lt _ G);refine I ?_;refine aa (l9 (a:=neg a) (b:=neg b) (q:=(!((neg a)==(neg b)))) U4 Z Z Z ?_);refine I ?_;refine clb mi (hc:=fI hq U (ht.ext E)) (hk:=?_);rintro _ _ ES rfl;have hr:=aa7 ES.2 hr;have E:=xt E ES.2;refine I ?_;by_cases ao3:(rE (ba (bN (!((neg a)==(neg b))) (aE (body a)/aE (body b)))))=0;refine I ?_;refine aa (bU (vs:=[(1,.slice Ar Av Aw)]) (cells:=#[.bool false,.slice Ar Av Aw]) (pl:=[(0,1),(1,1)]) kA bG j4 Z j4 ?_);refine clb mi (hc:=fI hr U (ht.ext E)) (hk:=?_);rintro _ _ P2 rfl;have E:=xt E P2.2;refine I ?_
 exact fq (t:=4) (u:=5) (s:=6) (v1:=S (rS (ba (bN (!((neg a)==(neg b))) (aE (body a)/aE (body b)))))) (v2:=S (rS (ba (bN false (aE (body a)%aE (body b)))))) (v3:=.int .i64 0) Z E Rg Z Z Z;refine I ?_;exact fq (t:=4) (u:=5) (s:=6) (v1:=S []) (v2:=S []) (v3:=.int .i64 (rE (ba (bN (!((neg a)==(neg b))) (aE (body a)/aE (body b)))))) Z E Rg Z Z Z;have H:=Yx G (Or.inl ly);have W:aE (body a)%aE (body b)<=aE (body b):=Nat.le_of_lt (Nat.mod_lt _ G);refine I ?_;refine aa (l9 (a:=neg a) (b:=neg b) (q:=(!((neg a)==(neg b)))) U4 Z Z Z ?_);refine I ?_;refine clb mi (hc:=fI hq U (ht.ext E)) (hk:=?_);rintro _ _ E6 rfl;have hr:=aa7 E6.2 hr;have E:=xt E E6.2;refine I ?_;by_cases ao4:(rE (ba (bN (!((neg a)==(neg b))) (aE (body a)/aE (body b)))))=0;refine I ?_;refine aa (bU (vs:=[(1,.slice Ar Av Aw)]) (cells:=#[.bool false,.slice Ar Av Aw]) (pl:=[(0,1),(1,1)]) kA bG j4 Z j4 ?_);refine clb mi (hc:=fI hr U (ht.ext E)) (hk:=?_);rintro _ _ L3 rfl;have E:=xt E L3.2;refine I ?_
 exact fq (t:=4) (u:=5) (s:=6) (v1:=S (rS (ba (bN (!((neg a)==(neg b))) (aE (body a)/aE (body b)))))) (v2:=S (rS (ba (bN false (aE (body a)%aE (body b)))))) (v3:=.int .i64 0) Z E Rg Z Z Z;refine I ?_;exact fq (t:=4) (u:=5) (s:=6) (v1:=S []) (v2:=S []) (v3:=.int .i64 (rE (ba (bN (!((neg a)==(neg b))) (aE (body a)/aE (body b)))))) Z E Rg Z Z Z;have O:=qE O;refine aC func63 Z (I ?_);refine cl kB (mS _ _ _ O) ?_;rintro _ _ Lj rfl;have A0:=Lj.2;refine I ?_;refine al bG (λ_ La E1=>?_);have A0:=xt A0 La.2;refine al bG (λ_ Lk B2=>?_);have⟨E1,A0⟩:=bn Lk.2 E1 A0;refine SA E1 (λ_ KC K2=>?_);have⟨B2,A0,_⟩:=kt KC B2 A0;refine SA B2 (λ_ H2 _=>?_);have K2:=pb H2 K2;have A0:=bi H2 A0;refine I ?_;exact fq (t:=4) (u:=5) (s:=6) (v1:=S []) (v2:=S []) (v3:=.int .i64 30) Z A0 (by rw[xV O];rfl) Z Z Z
def xY (a b:List UInt8)(w:World)(ht:Tb w):
 CL 87 #[S a,S b] w (aG w λv w'=>v=iA (bP a b)):=by
 by_cases A0:(isInt a&&isInt b)=true;have E5:=ic A0;have hb:=gV A0;refine aC func87 Z (I ?_);refine cl kB (lv _ _ _ E5 hb) ?_;rintro _ H2 GC ⟨A1,E4,c1,A2,n2,c2,rfl,h1,h2⟩;have E:=GC.2;have H4:=cJ h1 (en E5);have EW:=cJ h2 (en hb);have E6:=h1.hi;have E0:=h2.hi;refine I ?_;refine al bG (λG0 Cr C1=>?_);have h1:=aa7 Cr.2 h1;have h2:=aa7 Cr.2 h2;have E:=xt E Cr.2;refine al bG (λ_ B2 Av=>?_);have h1:=aa7 B2.2 h1;have h2:=aa7 B2.2 h2;have⟨C1,E⟩:=bn B2.2 C1 E;refine SA C1 (λ_ CG G=>?_);have h1:=ac2 CG (λAb e=>by have:=E6 Ab e;omega) h1;have h2:=ac2 CG (λAb e=>by have:=E0 Ab e;omega) h2;have⟨Av,E,_⟩:=kt CG Av E;refine SA Av (λ_ Ap Af=>?_);have h1:=ac2 Ap (λAb e=>by have:=E6 Ab e;omega) h1;have h2:=ac2 Ap (λAb e=>by have:=E0 Ab e;omega) h2;have G:=pb Ap G;have E:=bi Ap E;refine I ?_;refine bL 5 ?_;refine sf ?_;intro _ _ Az _;have h1:=aa7 Az.2 h1;have h2:=aa7 Az.2 h2;have⟨G,Af,E⟩:=cj Az.2 G Af E;refine I ?_
 refine cg [(9,12),(26,36)] (λK2 e W=>∃Ax:Option Addr,∃nx:Nat,∃Am:Nat,∃x:Nat,∃Ay:Option Addr,∃ny:Nat,∃As:Nat,∃y:Nat,(y=K2)/\(e 9=.slice Ax nx Am)/\(e 10=.slice Ay ny As)/\(nx<=50)/\(ny<=50)/\(Nat.gcd x y=Nat.gcd (aE (body a)) (aE (body b)))/\(aO w W)/\(ap W H2.heap.size 161 #[.bool (neg a),.slice A1 E4 c1])/\(ap W G0.heap.size 161 #[.bool (neg b),.slice A2 n2 c2])/\(qc W w.heap.size Ax nx Am x)/\(qc W w.heap.size Ay ny As y)) (aE (body b)) ⟨A1,E4,c1,aE (body a),A2,n2,c2,aE (body b),rfl,rfl,rfl,H4,EW,rfl,E,G,Af,h1,h2⟩ ?_;rintro _ _ _ ⟨Ax,nx,Am,x,Ay,ny,As,y,rfl,L2,L1,q1,ES,B1,O,G,Af,hx,hy⟩;have Kp:=bz O;by_cases hm:0<ny;have Ao:0<y:=mz (B:=10000) U (by rw[hy.len];omega);refine I ?_;refine clb DL (hc:=sn hx U hy U Ao) (hk:=?_);rintro _ _ CY ⟨Aq,KM,KY,Ar,Ix,FR,rfl,hq,hr⟩;have⟨G,Af⟩:=dZ CY.2 G Af;have hy:=aa7 CY.2 hy;have O:=xt O CY.2;refine I ?_;exact bI (hk:=by exact Nat.mod_lt _ Ao) ⟨Ay,ny,As,y,Ar,Ix,FR,x%y,rfl,rfl,rfl,U,(by rw[<-hr.len];exact qa8 (ek U (Nat.le_of_lt (Nat.mod_lt _ Ao))) (by rw[hy.len];exact ES)),(zS B1),O,G,Af,hy,(hr.mono U)⟩;have Ao:y=0:=jo (B:=10000) U (hy.len.trans U);rw[Ao,Nat.gcd_zero_right]at B1;refine I ?_
 refine aa (bU (vs:=[(1,.slice Ax nx Am)]) (cells:=#[.bool false,.slice Ax nx Am]) (pl:=[(0,1),(1,1)]) kA bG j4 Z j4 ?_);refine clb mi (hc:=fI hx U (ht.ext O)) (hk:=?_);rintro _ _ od rfl;have O:=xt O od.2;refine I ?_;exact bu (t:=4) (u:=5) (v1:=S (rS (ba (bN false x)))) (v2:=.int .i64 (rE (ba (bN false x)))) Z O (by rw[Eu A0,<-B1];rfl) Z Z;have A0:=qE A0;refine aC func87 Z (I ?_);refine cl kB (mS _ _ _ A0) ?_;rintro _ _ K3 rfl;have H:=K3.2;refine I ?_;refine al bG (λ_ E9 Aw=>?_);have H:=xt H E9.2;refine al bG (λ_ H3 CB=>?_);have⟨Aw,H⟩:=bn H3.2 Aw H;refine SA Aw (λ_ KC E1=>?_);have⟨CB,H,_⟩:=kt KC CB H;refine SA CB (λ_ E7 _=>?_);have E1:=pb E7 E1;have H:=bi E7 H;refine I ?_;exact bu (t:=4) (u:=5) (v1:=S []) (v2:=.int .i64 30) Z H (by rw[xT A0];rfl) Z Z
end Go.Proofs.YtlmihmlnpjkblaaGreatDoor
namespace Go.Eng
abbrev R:=List UInt8×List UInt8
def bJ (a:R):Bool:=isInt a.1&&isInt a.2&& !decide (dH a.2 [48]<=0)&&decide (bP a.1 a.2=some [49])
def k8 (n d:Int):Int:=(if d<0 then -n else n)/((Int.gcd n d:Nat):Int)
def df (n d:Int):Int:=(if d<0 then -d else d)/((Int.gcd n d:Nat):Int)
def ie (n d:Int):Option R:=if d=0 then none else some (ae (k8 n d),ae (df n d))
def ig (n d:Int):Option R:=if fits n&&fits d then ie n d else none
def qr (a b:R):Option R:=if bJ a&&bJ b then ig (ah a.1*ah b.1) (ah a.2*ah b.2)else none
def mB (a b:R):Option R:=if bJ a&&bJ b then ig (ah a.1*ah b.2) (ah a.2*ah b.1)else none
def jJ (a b:R):Option R:=if bJ a&&bJ b then(if fits (ah a.1*ah b.2)&&fits (ah b.1*ah a.2)then ig (ah a.1*ah b.2+ah b.1*ah a.2) (ah a.2*ah b.2)else none)else none
def dn (a b:R):Option R:=if bJ a&&bJ b then(if fits (ah a.1*ah b.2)&&fits (ah b.1*ah a.2)then ig (ah a.1*ah b.2-ah b.1*ah a.2) (ah a.2*ah b.2)else none)else none
def rN (o:Option R):List UInt8:=(o.map (·.1)).getD []
def rD (o:Option R):List UInt8:=(o.map (·.2)).getD []
def TL (o:Option R):Int:=if o.isSome then 0 else 40
end Go.Eng
namespace Go.Proofs.YtlmihmlnpjkblaaGreatDoor
variable {bad:Bool}{x y s n d:List UInt8}{b g lo i g0:Nat}{A:Option Addr}{w:World}
set_option maxRecDepth 100000
open Go Go.Eng Go.RowKit Tryz
attribute [local irreducible] wpListIn Code.wpIn Oper.wpIn Exit.then Exit.inBlock Exit.noGoto
set_option maxHeartbeats 40000000
def ai {p:Prop}(h:p:=by assumption):p:=h
def qz (h:isInt x=false):Value.bool false=.bool (bJ (x,y)):=by simp[bJ,h]
def ua (h:isInt y=false):Value.bool false=.bool (bJ (x,y)):=by simp[bJ,h]
def ub (h:dH y [48]<=0):Value.bool false=.bool (bJ (x,y)):=by simp[bJ,h]
def Jt {o:Option (List UInt8)}:(rE o=0/\rS o=s)↔o=some s:=by
 cases o with
 |none=>simp[rE]
 |some t=>simp[rE,rS]
def ud (h1:isInt x=true)(h2:isInt y=true)(h3:¬dH y [48]<=0)(h4:rE (bP x y)=0):Value.bool (decide (rS (bP x y)=[49]))=.bool (bJ (x,y)):=by
 have:(bP x y=some [49])↔(rS (bP x y)=[49]):=by rw[<-Jt];simp[h4]
 simp[bJ,h1,h2,h3,this]
def ue (h1:isInt x=true)(h2:isInt y=true)(h3:¬dH y [48]<=0)(h4:¬rE (bP x y)=0):Value.bool false=.bool (bJ (x,y)):=by
 have:¬(bP x y=some [49]):=by rw[<-Jt];simp[h4]
 simp[bJ,this]
def dB (bad:Bool)(o:Option (List UInt8)):Bool:=bad||o.isNone
def dS (bad:Bool)(o:Option (List UInt8)):List UInt8:=if bad then[]else rS o
def Op2 (g:Nat)(x y:List UInt8)(o:Option (List UInt8)):Prop:=∀W,Tb W->CL g #[S x,S y] W (aG W λv _=>v=iA o)
def Zd (o:Option (List UInt8)):dB false o= !decide (rE o=0):=by cases o <;>rfl
def Ra {o:Option (List UInt8)}(h:bad=true):dB bad o=bad:=by subst h;rfl
def Rb {o:Option (List UInt8)}(h:bad=false):dB bad o= !decide (rE o=0):=by subst h;exact Zd o
def gO (o:Option R):Value:=.tuple #[.agg #[S (rN o),S (rD o)],.int .i64 (TL o)]
def zT (bad:Bool)(n d:List UInt8):Option R:=
 if dB (dB (dB bad (bP n d)) ((dk n (dS bad (bP n d))).map (·.1))) ((dk d (dS bad (bP n d))).map (·.1))=true then none
 else some (dS (dB bad (bP n d)) ((dk n (dS bad (bP n d))).map (·.1)),dS (dB (dB bad (bP n d)) ((dk n (dS bad (bP n d))).map (·.1))) ((dk d (dS bad (bP n d))).map (·.1)))
def gX (bad:Bool)(n d:List UInt8):Option R:=
 if bad=true\/d=[48]then none
 else if dH d [48]<0 then zT (dB (dB bad (aT [48] n)) (aT [48] d)) (dS bad (aT [48] n)) (dS (dB bad (aT [48] n)) (aT [48] d))
 else zT bad n d
def nY (h:bad=true):gX bad n d=none:=if_pos (Or.inl h)
def nZ (h:d=[48]):gX bad n d=none:=if_pos (Or.inr h)
def iB (h1:bad=false)(h2:¬d=[48])(h3:dH d [48]<0):gX bad n d=zT (dB (dB bad (aT [48] n)) (aT [48] d)) (dS bad (aT [48] n)) (dS (dB bad (aT [48] n)) (aT [48] d)):=by
 unfold gX;rw[if_neg (by rw[h1];simp[h2]),if_pos h3]
def iC (h1:bad=false)(h2:¬d=[48])(h3:¬dH d [48]<0):gX bad n d=zT bad n d:=by
 unfold gX;rw[if_neg (by rw[h1];simp[h2]),if_neg h3]
def je (h:dB (dB (dB bad (bP n d)) ((dk n (dS bad (bP n d))).map (·.1))) ((dk d (dS bad (bP n d))).map (·.1))=true):zT bad n d=none:=if_pos h
def jg (h:dB (dB (dB bad (bP n d)) ((dk n (dS bad (bP n d))).map (·.1))) ((dk d (dS bad (bP n d))).map (·.1))=false):zT bad n d=some (dS (dB bad (bP n d)) ((dk n (dS bad (bP n d))).map (·.1)),dS (dB (dB bad (bP n d)) ((dk n (dS bad (bP n d))).map (·.1))) ((dk d (dS bad (bP n d))).map (·.1))):=if_neg (by rw[h];simp)
def eo (x y:List UInt8)(w:World)(ht:Tb w):
 CL 62 #[.agg #[S x,S y]] w (aG w λv w'=>v=.bool (bJ (x,y))):=by
 refine aC func62 Z (I ?_);refine bx (λ_ W G=>?_);have E:=W.2;refine I ?_;rcases qa4 (isInt x)with cr|cr;rcases qa4 (isInt y)with cv|cv;refine I ?_;refine cl te (iz x _) ?_;rintro _ _ H rfl;have⟨G,E⟩:=bn H.2 G E;refine I ?_;refine cl te (iz y _) ?_;rintro _ _ A0 rfl;have⟨G,E⟩:=bn A0.2 G E;refine I ?_;refine cl xm (pf y [48] _) ?_;rintro _ _ Af rfl;have⟨G,E⟩:=bn Af.2 G E;refine I ?_;by_cases fy:(dH y [48])<=0;refine I ?_;exact am (t:=2) (v:=.bool false) Z E RM Z;refine I ?_;refine cl Ib (xY x y _ (ht.ext E)) ?_;rintro _ _ O rfl;have E:=xt E O.2;refine I ?_;by_cases cw:(rE (bP x y))=0;refine I ?_;refine rH (b:=[49]) (I ?_);exact am (t:=2) (v:=.bool (decide ((rS (bP x y))=([49])))) Z E RM Z
 refine I ?_;exact am (t:=2) (v:=.bool false) Z E RM Z;refine I ?_;refine cl te (iz x _) ?_;rintro _ _ A1 rfl;have⟨G,E⟩:=bn A1.2 G E;refine I ?_;refine cl te (iz y _) ?_;rintro _ _ Ab rfl;have E:=xt E Ab.2;refine I ?_;exact am (t:=2) (v:=.bool false) Z E RM Z;refine I ?_;refine cl te (iz x _) ?_;rintro _ _ A2 rfl;have E:=xt E A2.2;refine I ?_;exact am (t:=2) (v:=.bool false) Z E RM Z
def N6 (x y:List UInt8)(w:World)(ht:Tb w):
 CL 143 #[S x,S y] w (aG w λv w'=>v=iA ((dk x y).map (·.1))):=by
 refine aC func143 Z (I ?_);refine cl y6 (j5 x y _ (ht.ext (aa4 _))) ?_;rintro _ _ G rfl;have E:=G.2;refine I ?_;exact bu (t:=4) (u:=5) (v1:=S (rS ((dk x y).map (·.1)))) (v2:=.int .i64 (if(dk x y).isSome then 0 else 30)) Z E (by cases dk x y <;>rfl) Z Z
def rj (hB:ap w b 75 #[.bool bad])(ht:Tb w){o:Option (List UInt8)}(heg:Enters prog g)(hop:Op2 g x y o):
 CL 84 #[pT b,.func (.func g) #[] #[],S x,S y] w (kj λv w'=>w.grownBy w' (some b)/\ap w' b 75 #[.bool (dB bad o)]/\v=S (dS bad o)):=by
 have G:=World.grownBy.refl w (some b);refine zn func84 Z (I ?_);rcases qa4 bad with cm|cm;refine I ?_;refine gT (v:=S []) (bY  rfl ?_) ⟨G,(by first|(rw[Ra ai];exact hB)|(rw[Rb ai];exact hB)),(by simp[dS, *])⟩;exact aL (t:=8) GS _;refine I ?_;refine aa (lW (vs:=[S x,S y]) (lb:=[]) heg Z Z (hop _ ht) ?_);rintro _ _ E rfl;have E:=E.2;have hB:=be E hB;have G:=lj G E;refine I ?_;refine SO hB (λ_ O H=>?_);have G:=B6 G O;refine I ?_;refine gT (v:=S (rS o)) (bY  rfl ?_) ⟨G,(by first|(rw[Ra ai];exact H)|(rw[Rb ai];exact H)),(by simp[dS, *])⟩;exact aL (t:=8) GS _
def mC (hB:ap w b 75 #[.bool bad])(ht:Tb w)(x y:List UInt8):
 CL 36 #[pT b,S x,S y] w (kj λv w'=>w.grownBy w' (some b)/\ap w' b 75 #[.bool (dB bad (ay x y))]/\v=S (dS bad (ay x y))):=by
 have G:=World.grownBy.refl w (some b);refine zn func36 Z (I ?_);refine aa (bH (vs:=[pT b,.func (.func 85) #[] #[],S x,S y]) q9 Z (rj (o:=ay x y) hB ht QM (λW hW=>Ev _ _ W hW)) ?_);rintro _ _ ⟨H,E,rfl⟩;have G:=gu G H;refine I ?_;refine gT (v:=S (dS bad (ay x y))) (bY  rfl ?_) ⟨G,E,rfl⟩;exact aL (t:=6) GS _
def sy (hB:ap w b 75 #[.bool bad])(ht:Tb w)(x y:List UInt8):
 CL 88 #[pT b,S x,S y] w (kj λv w'=>w.grownBy w' (some b)/\ap w' b 75 #[.bool (dB bad ((dk x y).map (·.1)))]/\v=S (dS bad ((dk x y).map (·.1)))):=by
 have G:=World.grownBy.refl w (some b);refine zn func88 Z (I ?_);refine aa (bH (vs:=[pT b,.func (.func 143) #[] #[],S x,S y]) q9 Z (rj (o:=(dk x y).map (·.1)) hB ht Wk (λW hW=>N6 _ _ W hW)) ?_);rintro _ _ ⟨H,E,rfl⟩;have G:=gu G H;refine I ?_;refine gT (v:=S (dS bad ((dk x y).map (·.1)))) (bY  rfl ?_) ⟨G,E,rfl⟩;exact aL (t:=6) GS _
def xZ (hB:ap w b 75 #[.bool bad])(ht:Tb w)(x y:List UInt8):
 CL 37 #[pT b,S x,S y] w (kj λv w'=>w.grownBy w' (some b)/\(∃q,ap w' b 75 #[.bool q])/\v=gO (gX bad x y)):=by
 have G:=World.grownBy.refl w (some b);have K2:=bt hB;refine zn func37 Z (I ?_);refine al aS (λ_ Ar E=>?_);have hB:=be Ar.2 hB;have ht:=ab5 Ar.2 ht;have G:=lj G Ar.2;refine I ?_;rcases qa4 bad with cv|cv;refine I ?_;refine SA E (λ_ Aw E7=>?_);have hB:=pb Aw hB;have G:=jn G Aw U;refine I ?_;refine gT (v:=.tuple #[.agg #[S [],S []],.int .i64 40]) (cO (r1:=.cell 6 33) (r2:=.tmp 7) Z ?_ ?_) ⟨G,⟨_,hB⟩,Vc⟩;refine ak (t:=6) (cs:=[S [],S []]) (b:=w.heap.size) (o:=0) iK Z bX ?_ ?_;exact Z;exact aa0 E7 (i:=0) Z;exact aL (t:=7) GS _;refine I ?_;refine rH (b:=[48]) (I ?_);by_cases wz:y=([48]);refine I ?_;refine SA E (λ_ CB E1=>?_);have hB:=pb CB hB;have G:=jn G CB U;refine I ?_;refine gT (v:=.tuple #[.agg #[S [],S []],.int .i64 40]) (cO (r1:=.cell 6 33) (r2:=.tmp 7) Z ?_ ?_) ⟨G,⟨_,hB⟩,Vc⟩
 refine ak (t:=6) (cs:=[S [],S []]) (b:=w.heap.size) (o:=0) iK Z bX ?_ ?_;exact Z;exact aa0 E1 (i:=0) Z;exact aL (t:=7) GS _;refine I ?_;refine cl xm (pf y [48] _) ?_;rintro _ _ Am rfl;have hB:=be Am.2 hB;have ht:=ab5 Am.2 ht;have E:=be Am.2 E;have G:=lj G Am.2;refine I ?_;by_cases w5:(dH y [48])<0;refine I ?_;refine aa (bH (vs:=[pT b,.func (.func 86) #[] #[],S [48],S x]) q9 Z (rj (o:=aT [48] x) hB ht DX (λW hW=>su _ _ W hW)) ?_);rintro _ _ ⟨nm,Az,rfl⟩;have ht:=Tb.gr nm hB dc ht;have E:=aa3 nm q4 E;have G:=gu G nm;have KY:=nm.size;refine I ?_;refine aa (bH (vs:=[pT b,.func (.func 86) #[] #[],S [48],S y]) q9 Z (rj (o:=aT [48] y) Az ht DX (λW hW=>su _ _ W hW)) ?_);rintro _ _ ⟨Ao,Ax,rfl⟩;have ht:=Tb.gr Ao Az dc ht;have E:=aa3 Ao q4 E;have G:=gu G Ao;have Ix:=Ao.size;refine I ?_;refine aa (bH (vs:=[pT b,.func (.func 87) #[] #[],S (dS bad (aT [48] x)),S (dS (dB bad (aT [48] x)) (aT [48] y))]) q9 Z (rj (o:=bP (dS bad (aT [48] x)) (dS (dB bad (aT [48] x)) (aT [48] y))) Ax ht Ib (λW hW=>xY _ _ W hW)) ?_);rintro _ _ ⟨A0,Cr,rfl⟩;have ht:=Tb.gr A0 Ax dc ht;have E:=aa3 A0 q4 E;have G:=gu G A0;have K3:=A0.size;refine I ?_
 refine aa (bH (vs:=[pT b,S (dS bad (aT [48] x)),S (dS (dB (dB bad (aT [48] x)) (aT [48] y)) (bP (dS bad (aT [48] x)) (dS (dB bad (aT [48] x)) (aT [48] y))))]) DY Z (sy Cr ht (dS bad (aT [48] x)) (dS (dB (dB bad (aT [48] x)) (aT [48] y)) (bP (dS bad (aT [48] x)) (dS (dB bad (aT [48] x)) (aT [48] y))))) ?_);rintro _ _ ⟨A1,E9,rfl⟩;have ht:=Tb.gr A1 Cr dc ht;have E:=aa3 A1 q4 E;have G:=gu G A1;have G0:=A1.size;refine I ?_;refine aa (bH (vs:=[pT b,S (dS (dB bad (aT [48] x)) (aT [48] y)),S (dS (dB (dB bad (aT [48] x)) (aT [48] y)) (bP (dS bad (aT [48] x)) (dS (dB bad (aT [48] x)) (aT [48] y))))]) DY Z (sy E9 ht (dS (dB bad (aT [48] x)) (aT [48] y)) (dS (dB (dB bad (aT [48] x)) (aT [48] y)) (bP (dS bad (aT [48] x)) (dS (dB bad (aT [48] x)) (aT [48] y))))) ?_);rintro _ _ ⟨Av,O,rfl⟩;have E:=aa3 Av q4 E;have G:=gu G Av;have H3:=Av.size;refine I ?_;refine al aS (λ_ ny E0=>?_);have⟨O,E⟩:=dZ ny.2 O E;have G:=lj G ny.2;refine SA E0 (λ_ Aq Ab=>?_);have⟨O,E⟩:=jU Aq O E;have G:=jn G Aq U;have KC:=iM Aq;refine I ?_
 rcases qa4 (dB (dB (dB (dB (dB bad (aT [48] x)) (aT [48] y)) (bP (dS bad (aT [48] x)) (dS (dB bad (aT [48] x)) (aT [48] y)))) ((dk (dS bad (aT [48] x)) (dS (dB (dB bad (aT [48] x)) (aT [48] y)) (bP (dS bad (aT [48] x)) (dS (dB bad (aT [48] x)) (aT [48] y))))).map (·.1))) ((dk (dS (dB bad (aT [48] x)) (aT [48] y)) (dS (dB (dB bad (aT [48] x)) (aT [48] y)) (bP (dS bad (aT [48] x)) (dS (dB bad (aT [48] x)) (aT [48] y))))).map (·.1)))with v7|v7;refine I ?_;refine SA E (λ_ CG E4=>?_);have⟨O,Ab⟩:=jU CG O Ab;have G:=jn G CG U;refine I ?_;refine gT (v:=.tuple #[.agg #[S [],S []],.int .i64 40]) (cO (r1:=.cell 6 33) (r2:=.tmp 7) Z ?_ ?_) ⟨G,⟨_,O⟩,Vc⟩;refine ak (t:=6) (cs:=[S [],S []]) (b:=w.heap.size) (o:=0) iK Z bX ?_ ?_;exact Z;exact aa0 E4 (i:=0) Z
 exact aL (t:=7) GS _;refine I ?_;refine SA E (λ_ CY E5=>?_);have⟨O,Ab⟩:=jU CY O Ab;have G:=jn G CY U;refine I ?_
 refine gT (v:=.tuple #[.agg #[S (dS (dB (dB (dB bad (aT [48] x)) (aT [48] y)) (bP (dS bad (aT [48] x)) (dS (dB bad (aT [48] x)) (aT [48] y)))) ((dk (dS bad (aT [48] x)) (dS (dB (dB bad (aT [48] x)) (aT [48] y)) (bP (dS bad (aT [48] x)) (dS (dB bad (aT [48] x)) (aT [48] y))))).map (·.1))),S (dS (dB (dB (dB (dB bad (aT [48] x)) (aT [48] y)) (bP (dS bad (aT [48] x)) (dS (dB bad (aT [48] x)) (aT [48] y)))) ((dk (dS bad (aT [48] x)) (dS (dB (dB bad (aT [48] x)) (aT [48] y)) (bP (dS bad (aT [48] x)) (dS (dB bad (aT [48] x)) (aT [48] y))))).map (·.1))) ((dk (dS (dB bad (aT [48] x)) (aT [48] y)) (dS (dB (dB bad (aT [48] x)) (aT [48] y)) (bP (dS bad (aT [48] x)) (dS (dB bad (aT [48] x)) (aT [48] y))))).map (·.1)))],.int .i64 0]) (cO (r1:=.cell 6 33) (r2:=.tmp 7) Z ?_ ?_) ⟨G,⟨_,O⟩,Vc⟩
 refine ak (t:=6) (cs:=[S (dS (dB (dB (dB bad (aT [48] x)) (aT [48] y)) (bP (dS bad (aT [48] x)) (dS (dB bad (aT [48] x)) (aT [48] y)))) ((dk (dS bad (aT [48] x)) (dS (dB (dB bad (aT [48] x)) (aT [48] y)) (bP (dS bad (aT [48] x)) (dS (dB bad (aT [48] x)) (aT [48] y))))).map (·.1))),S (dS (dB (dB (dB (dB bad (aT [48] x)) (aT [48] y)) (bP (dS bad (aT [48] x)) (dS (dB bad (aT [48] x)) (aT [48] y)))) ((dk (dS bad (aT [48] x)) (dS (dB (dB bad (aT [48] x)) (aT [48] y)) (bP (dS bad (aT [48] x)) (dS (dB bad (aT [48] x)) (aT [48] y))))).map (·.1))) ((dk (dS (dB bad (aT [48] x)) (aT [48] y)) (dS (dB (dB bad (aT [48] x)) (aT [48] y)) (bP (dS bad (aT [48] x)) (dS (dB bad (aT [48] x)) (aT [48] y))))).map (·.1)))]) (b:=w.heap.size) (o:=0) iK Z bX ?_ ?_;exact Z;exact aa0 E5 (i:=0) Z;exact aL (t:=7) GS _;refine I ?_;refine aa (bH (vs:=[pT b,.func (.func 87) #[] #[],S x,S y]) q9 Z (rj (o:=bP x y) hB ht Ib (λW hW=>xY _ _ W hW)) ?_);rintro _ _ ⟨od,C1,rfl⟩;have ht:=Tb.gr od hB dc ht;have E:=aa3 od q4 E;have G:=gu G od;have KM:=od.size;refine I ?_;refine aa (bH (vs:=[pT b,S x,S (dS bad (bP x y))]) DY Z (sy C1 ht x (dS bad (bP x y))) ?_);rintro _ _ ⟨A2,FR,rfl⟩;have ht:=Tb.gr A2 C1 dc ht
 have E:=aa3 A2 q4 E;have G:=gu G A2;have GC:=A2.size;refine I ?_;refine aa (bH (vs:=[pT b,S y,S (dS bad (bP x y))]) DY Z (sy FR ht y (dS bad (bP x y))) ?_);rintro _ _ ⟨Ap,H,rfl⟩;have E:=aa3 Ap q4 E;have G:=gu G Ap;have H2:=Ap.size;refine I ?_;refine al aS (λ_ B1 E6=>?_);have⟨H,E⟩:=dZ B1.2 H E;have G:=lj G B1.2;refine SA E6 (λ_ As Af=>?_);have⟨H,E⟩:=jU As H E;have G:=jn G As U;have H4:=iM As;refine I ?_;rcases Bool.eq_false_or_eq_true (dB (dB (dB bad (bP x y)) ((dk x (dS bad (bP x y))).map (·.1))) ((dk y (dS bad (bP x y))).map (·.1)))with wr|wr;refine I ?_;refine SA E (λ_ Ay EW=>?_);have⟨H,Af⟩:=jU Ay H Af;have G:=jn G Ay U;refine I ?_;refine gT (v:=.tuple #[.agg #[S [],S []],.int .i64 40]) (cO (r1:=.cell 6 33) (r2:=.tmp 7) Z ?_ ?_) ⟨G,⟨_,H⟩,Vc⟩
 refine ak (t:=6) (cs:=[S [],S []]) (b:=w.heap.size) (o:=0) iK Z bX ?_ ?_;exact Z;exact aa0 EW (i:=0) Z;exact aL (t:=7) GS _;refine I ?_;refine SA E (λ_ B2 ES=>?_);have⟨H,Af⟩:=jU B2 H Af;have G:=jn G B2 U;refine I ?_;refine gT (v:=.tuple #[.agg #[S (dS (dB bad (bP x y)) ((dk x (dS bad (bP x y))).map (·.1))),S (dS (dB (dB bad (bP x y)) ((dk x (dS bad (bP x y))).map (·.1))) ((dk y (dS bad (bP x y))).map (·.1)))],.int .i64 0]) (cO (r1:=.cell 6 33) (r2:=.tmp 7) Z ?_ ?_) ⟨G,⟨_,H⟩,Vc⟩;refine ak (t:=6) (cs:=[S (dS (dB bad (bP x y)) ((dk x (dS bad (bP x y))).map (·.1))),S (dS (dB (dB bad (bP x y)) ((dk x (dS bad (bP x y))).map (·.1))) ((dk y (dS bad (bP x y))).map (·.1)))]) (b:=w.heap.size) (o:=0) iK Z bX ?_ ?_;exact Z;exact aa0 ES (i:=0) Z;exact aL (t:=7) GS _
def ag (l:List R):List Value:=l.flatMap λa=>[S a.1,S a.2]
def fJ (l:List R):(ag l).length=l.length*2:=by
 induction l with
 |nil=>rfl
 |cons a t ih=>simp[ag]at ih ⊢;omega
def oc {l:List R}:∀u∈ag l,u.oneCell'=true:=by
 intro u hu
 obtain⟨a,_,E⟩:=List.mem_flatMap.1 hu
 simp at E
 rcases E with rfl|rfl <;>rfl
def ar (l:List R)(i:Nat):R:=l.getD i ([],[])
def uf:∀{l:List R} {i:Nat},i<l.length->(ag l)[i*2]?=some (S (ar l i).1)/\(ag l)[i*2+1]?=some (S (ar l i).2)
 |a::t,0,_=>by simp[ag,ar]
 | a::t,i+1,h=>by
   have ih:=uf (l:=t) (i:=i) ka6
   rw[show(i+1)*2=i*2+2 by omega,show i*2+2+1=i*2+1+2 by omega]
   simpa[ag,ar]using ih
def Ew {l:List R}(h:Rw w lo A (ag l))(hi:i<l.length):∃b o,A=some ⟨b,o,none⟩/\∀j u,[S (ar l i).1,S (ar l i).2][j]?=some u->w.cell? ⟨b,o+i*2+j,none⟩=some u:=by
 obtain⟨h1,h2⟩:=uf hi
 obtain⟨b,o,hA,G⟩:=h.cells _ _ h1
 obtain⟨_,_,hA',E⟩:=h.cells _ _ h2
 rw[hA]at hA';cases hA'
 refine⟨b,o,hA,λj u hu=>?_⟩
 match j,hu with
 |0,hu=>simp at hu;subst hu;simpa using G
 |1,hu=>simp at hu;subst hu;simpa[Nat.add_assoc]using E
def b9 (bad:Bool)(l:List R):Bool:=bad||l.any λa=>!bJ a
def Ex {l:List R}(hi:i<l.length):b9 bad (l.take (i+1))=(b9 bad (l.take i)|| !bJ (ar l i)):=by
 have:l.take (i+1)=l.take i++[ar l i]:=by
  rw[List.take_succ_eq_append_getElem hi];simp[ar,hi]
 rw[this];simp[b9,Bool.or_assoc]
def Xc {l:List R}(hi:i<l.length)(h:b9 bad (l.take i)=true):b9 bad (l.take (i+1))=true:=by rw[Ex hi,h];rfl
def Xd {l:List R}(hi:i<l.length)(h:b9 bad (l.take i)=false):b9 bad (l.take (i+1))= !bJ ((ar l i).1,(ar l i).2):=by rw[Ex hi,h];rfl
def gL (h:isInt d=true):dH d [48]=aN (ah d) 0:=by unfold dH;rw[if_pos (by rw[h,jH];rfl),kH]
def pg {x y:Int}:aN x y<0↔x<y:=by
 unfold aN;split
 · simp[*]
 · split <;>simp[*]
def c7 {x y:Int}:aN x y<=0↔x<=y:=by
 unfold aN;split
 · simp;omega
 · split <;>simp <;>omega
def mU (h:isInt n=true):aT [48] n=some (ae (-ah n)):=by
 rw[pc (by rw[jH,h];rfl),kH]
 unfold ba
 have hf:fits (0-ah n)=true:=by
  have:=eO h
  unfold fits at *
  rw[decide_eq_true_eq]at *
  omega
 rw[if_pos hf,Int.zero_sub]
def mV (h:isInt n=true):isInt (ae (-ah n))=true:=by
 refine bf ?_
 have:=eO h
 unfold fits at *
 rw[decide_eq_true_eq]at *
 omega
def j6 {a b:Int}(h:fits b=true)(hl:a.natAbs<=b.natAbs):fits a=true:=by
 unfold fits at *
 rw[decide_eq_true_eq]at *
 exact Nat.lt_of_le_of_lt hl h
def j7 (a:Int)(b:Nat)(hb:0<b)(hd:(b:Int)∣a):(a/(b:Int)).natAbs<=a.natAbs:=by
 obtain⟨c,rfl⟩:=hd
 rw[Int.mul_ediv_cancel_left _ U,Int.natAbs_mul]
 exact Nat.le_mul_of_pos_left _ (by simpa using hb)
def wy (hn:isInt n=true)(hd:isInt d=true)(h0:ah d≠0):
 zT false n d=some (ae (ah n/((Int.gcd (ah n) (ah d):Nat):Int)),ae (ah d/((Int.gcd (ah n) (ah d):Nat):Int))):=by
 have E:0<Int.gcd (ah n) (ah d):=Int.gcd_pos_of_ne_zero_right _ h0
 have G:((Int.gcd (ah n) (ah d):Nat):Int)∣ah d:=Int.gcd_dvd_right ..
 have W:((Int.gcd (ah n) (ah d):Nat):Int)∣ah n:=Int.gcd_dvd_left ..
 have H:fits ((Int.gcd (ah n) (ah d):Nat):Int)=true:=j6 (eO hd) (by
  have:=Nat.le_of_dvd U (Int.natAbs_dvd_natAbs.2 G)
  simpa using this)
 have hG:bP n d=some (ae ((Int.gcd (ah n) (ah d):Nat):Int)):=by
  unfold bP;rw[if_pos (by rw[hn,hd];rfl)];unfold ba;rw[if_pos H]
 generalize hg:Int.gcd (ah n) (ah d)=g at *
 have A1:=bf H
 have O:∀{x:List UInt8},isInt x=true->(g:Int)∣ah x->(dk x (ae (g:Int))).map (·.1)=some (ae (ah x/(g:Int))):=by
  intro x hx A0
  rw[lw (by rw[hx,A1];rfl) (by rw[gE,gD];simpa using E),aI]
  unfold ba
  rw[if_pos (j6 (eO hx) (j7 _ _ E A0))]
  rfl
 unfold zT
 rw[hG]
 simp only[dS,Bool.false_eq_true,if_false,rS,Option.getD_some]
 rw[O hn W,O hd G]
 rfl
def wA (hn:isInt n=true)(hd:isInt d=true):gX false n d=ie (ah n) (ah d):=by
 unfold ie
 by_cases h0:ah d=0
 · rw[if_pos h0,nZ ((fY hd).1 h0)]
 · have E:¬d=[48]:=λe=>h0 ((fY hd).2 e)
   rw[if_neg h0]
   unfold k8 df
   by_cases hs:ah d<0
   · rw[iB Z E (by rw[gL hd];exact pg.2 hs),mU hn,mU hd]
     simp only[dB,dS,Bool.false_or,Option.isNone_some,Bool.false_eq_true,if_false,rS,Option.getD_some]
     rw[wy (mV hn) (mV hd) (by rw[aI];omega),aI,aI,if_pos hs,if_pos hs]
     have:Int.gcd (-ah n) (-ah d)=Int.gcd (ah n) (ah d):=by rw[Int.gcd_neg,Int.neg_gcd]
     rw[this]
   · rw[iC Z E (by rw[gL hd];exact λh=>hs (pg.1 h)),wy hn hd h0,if_neg hs,if_neg hs]
def kI (n d:List UInt8):gX true n d=none:=nY Z
def x5 (a b:R):b9 false [a,b]= !(bJ a&&bJ b):=by simp[b9]
def ii {a:R}(h:bJ a=true):isInt a.1=true:=by simp only[bJ,Bool.and_eq_true]at h;exact h.1.1.1
def fK {a:R}(h:bJ a=true):isInt a.2=true:=by simp only[bJ,Bool.and_eq_true]at h;exact h.1.1.2
def i6 (n:Int):(ba n).isNone= !fits n:=by unfold ba;cases fits n <;>rfl
def pi {n:Int}(h:fits n=true):rS (ba n)=ae n:=by unfold ba;rw[if_pos h];rfl
def ug (okk:Bool)(n d:Int){on od:Option (List UInt8)}(hn:okk=true->on=ba n)(hd:okk=true->od=ba d):
 gX (dB (dB (!okk) on) od) (dS (!okk) on) (dS (dB (!okk) on) od)=if okk then ig n d else none:=by
 cases okk with
 |false=>simp only[Bool.not_false,dB,Bool.true_or,kI];rfl
 | true=>
   rw[hn Z,hd Z]
   unfold ig
   simp only[Bool.not_true,dB,dS,Bool.false_or,Bool.false_eq_true,if_false,i6,if_true]
   cases h1:fits n with
   |false=>simp only[Bool.not_false,Bool.true_or,kI,Bool.false_and];rfl
   | true=>
     cases h2:fits d with
     |false=>simp only[Bool.not_false,Bool.or_true,kI,Bool.and_false];rfl
     | true=>
       simp only[Bool.not_true,Bool.or_false,Bool.false_eq_true,if_false,Bool.and_self,if_true]
       rw[pi h1,pi h2,wA (bf h1) (bf h2),aI,aI]
def Ju (x1 x2 y1 y2:List UInt8):gO (gX (dB (dB (b9 false [(x1,x2),(y1,y2)]) (ay x1 y1)) (ay x2 y2)) (dS (b9 false [(x1,x2),(y1,y2)]) (ay x1 y1)) (dS (dB (b9 false [(x1,x2),(y1,y2)]) (ay x1 y1)) (ay x2 y2)))=gO (qr (x1,x2) (y1,y2)):=by
 rw[x5,ug (bJ (x1,x2)&&bJ (y1,y2)) (ah x1*ah y1) (ah x2*ah y2) (λh=>gy (by rw[ii (ic h),ii (gV h)];rfl)) (λh=>gy kc4)]
 rfl
def Jv (x1 x2 y1 y2:List UInt8):gO (gX (dB (dB (b9 false [(x1,x2),(y1,y2)]) (ay x1 y2)) (ay x2 y1)) (dS (b9 false [(x1,x2),(y1,y2)]) (ay x1 y2)) (dS (dB (b9 false [(x1,x2),(y1,y2)]) (ay x1 y2)) (ay x2 y1)))=gO (mB (x1,x2) (y1,y2)):=by
 rw[x5,ug (bJ (x1,x2)&&bJ (y1,y2)) (ah x1*ah y2) (ah x2*ah y1) (λh=>gy kc5) (λh=>gy kc6)]
 rfl
def wB (okk:Bool)(p q s d:Int){op oq od:Option (List UInt8)}{os:List UInt8->List UInt8->Option (List UInt8)}(hp:okk=true->op=ba p)(hq:okk=true->oq=ba q)(hd:okk=true->od=ba d)(hs:fits p=true->fits q=true->os (ae p) (ae q)=ba s):
 gX (dB (dB (dB (dB (!okk) op) oq) (os (dS (!okk) op) (dS (dB (!okk) op) oq))) od) (dS (dB (dB (!okk) op) oq) (os (dS (!okk) op) (dS (dB (!okk) op) oq))) (dS (dB (dB (dB (!okk) op) oq) (os (dS (!okk) op) (dS (dB (!okk) op) oq))) od)
  =if okk then(if fits p&&fits q then ig s d else none)else none:=by
 cases okk with
 |false=>simp only[Bool.not_false,dB,Bool.true_or,kI];rfl
 | true=>
   rw[hp Z,hq Z,hd Z]
   cases h1:fits p with
   |false=>simp only[Bool.not_true,dB,Bool.false_or,i6,h1,Bool.not_false,Bool.true_or,kI,Bool.false_and];rfl
   | true=>
     cases h2:fits q with
     |false=>simp only[Bool.not_true,dB,Bool.false_or,i6,h1,h2,Bool.not_false,Bool.true_or,Bool.or_true,kI,Bool.and_false];rfl
     | true=>
       have G:dS (!true) (ba p)=ae p:=by rw[<-pi h1];rfl
       have e2:dB (!true) (ba p)=false:=by unfold dB;rw[i6,h1];rfl
       have E:dS false (ba q)=ae q:=by rw[<-pi h2];rfl
       have H:dB false (ba q)=false:=by unfold dB;rw[i6,h2];rfl
       rw[e2,H,G,E,hs h1 h2]
       have:=ug true s d (on:=ba s) (od:=ba d) (λ_=>rfl) (λ_=>rfl)
       simpa using this
def Jw (os:List UInt8->List UInt8->Option (List UInt8))(x1 x2 y1 y2:List UInt8)(b:Bool):Option R:=gX (dB (dB (dB (dB b (ay x1 y2)) (ay y1 x2)) (os (dS b (ay x1 y2)) (dS (dB b (ay x1 y2)) (ay y1 x2)))) (ay x2 y2)) (dS (dB (dB b (ay x1 y2)) (ay y1 x2)) (os (dS b (ay x1 y2)) (dS (dB b (ay x1 y2)) (ay y1 x2)))) (dS (dB (dB (dB b (ay x1 y2)) (ay y1 x2)) (os (dS b (ay x1 y2)) (dS (dB b (ay x1 y2)) (ay y1 x2)))) (ay x2 y2))
def Jy (x1 x2 y1 y2:List UInt8):gO (Jw xN x1 x2 y1 y2 (b9 false [(x1,x2),(y1,y2)]))=gO (jJ (x1,x2) (y1,y2)):=
 qb2 gO ((qb2 (Jw xN x1 x2 y1 y2) (x5 (x1,x2) (y1,y2))).trans
  (wB (bJ (x1,x2)&&bJ (y1,y2)) (ah x1*ah y2) (ah y1*ah x2) (ah x1*ah y2+ah y1*ah x2) (ah x2*ah y2) (λh=>gy kc5) (λh=>gy kc6) (λh=>gy kc4)
   (λh1 h2=>by rw[xR (by rw[bf h1,bf h2];rfl),aI,aI])))
def Jz (x1 x2 y1 y2:List UInt8):gO (Jw aT x1 x2 y1 y2 (b9 false [(x1,x2),(y1,y2)]))=gO (dn (x1,x2) (y1,y2)):=
 qb2 gO ((qb2 (Jw aT x1 x2 y1 y2) (x5 (x1,x2) (y1,y2))).trans
  (wB (bJ (x1,x2)&&bJ (y1,y2)) (ah x1*ah y2) (ah y1*ah x2) (ah x1*ah y2-ah y1*ah x2) (ah x2*ah y2) (λh=>gy kc5) (λh=>gy kc6) (λh=>gy kc4)
   (λh1 h2=>by rw[pc (by rw[bf h1,bf h2];rfl),aI,aI])))
def pj (hB:ap w b 75 #[.bool bad])(ht:Tb w){n c:Nat}{rs:List R}(hr:Rw w lo A (ag rs))(hn:rs.length=n)(hnb:n<=1000000)(hAb:∀ad,A=some ad->ad.block≠b):
 CL 35 #[pT b,.slice A n c] w (kj λv w'=>w.grownBy w' (some b)/\ap w' b 75 #[.bool (b9 bad rs)]/\v=.tuple #[]):=by
 have G:=World.grownBy.refl w (some b);have Aw:=bt hB;have Af:=λad e=>And.intro (hr.hi ad e) (hAb ad e);refine zn func35 Z (I ?_);refine cg [(5,5),(8,24)] (λAr e W=>∃i:Nat,(n-i=Ar)/\(e 8=.int .i64 i)/\(w.grownBy W (some b))/\(i<=n)/\(True)/\(Tb W)/\(Rw W lo A (ag rs))/\(ap W b 75 #[.bool (b9 bad (rs.take i))])) (n-0) ⟨0,rfl,rfl,G,(qa7 _),trivial,ht,hr,(by simpa[b9]using hB)⟩ ?_;rintro _ _ _ ⟨i,rfl,Ab,G,hi,Ap,ht,hr,hB⟩;have nm:=World.grownBy.size G;by_cases hlt:i<n;obtain⟨bk,o,hA,As⟩:=Ew hr (i:=i) U;refine I ?_;refine aa (aB (i:=i) (oo:=o+i*2) tc bX Z hA Ab U Z ?_);refine aa (aP (cs:=[S (ar rs i).1,S (ar rs i).2]) (b:=bk) (o:=o+i*2) iK Z bX Z As ?_);refine al aS (λ_ A2 Aq=>?_);have ht:=ab5 A2.2 ht;have hr:=Rw.ext A2.2 hr;have hB:=be A2.2 hB;have G:=lj G A2.2;refine SA Aq (λ_ H E=>?_);have ht:=Tb.put H Aq dc ht;have hr:=Rw.putU H (λad e=>by have:=Af ad e;omega) hr;have hB:=pb H hB;have G:=jn G H U;have Av:=iM H;refine I ?_;rcases qa4 (b9 bad (rs.take i))with cf|cf;refine I ?_;refine SO hB (λ_ O Ao=>?_);have ht:=Tb.put O hB dc ht;have hr:=Rw.putU O (λad e=>by have:=Af ad e;omega) hr
 have E:=pb O E;have G:=B6 G O;refine I ?_;refine aa (ci (a:=(i:Int)) (b:=1) (c:=((i+1:Nat):Int)) Ab Z JT U ?_);refine I ?_;exact bI ⟨i+1,rfl,rfl,G,U,Ap,ht,hr,(by first|(rw[Xc U CA];exact Ao)|(rw[Xd U CA];exact Ao))⟩;refine I ?_;refine cl td (eo ((ar rs i).1) ((ar rs i).2) _ ht) ?_;rintro _ _ A0 rfl;have ht:=ab5 A0.2 ht;have hr:=Rw.ext A0.2 hr;have⟨hB,E⟩:=dZ A0.2 hB E;have G:=lj G A0.2;refine I ?_;refine SO hB (λ_ A1 Am=>?_);have ht:=Tb.put A1 hB dc ht;have hr:=Rw.putU A1 (λad e=>by have:=Af ad e;omega) hr;have E:=pb A1 E;have G:=B6 G A1;refine I ?_;refine aa (ci (a:=(i:Int)) (b:=1) (c:=((i+1:Nat):Int)) Ab Z JT U ?_);refine I ?_;exact bI ⟨i+1,rfl,rfl,G,U,Ap,ht,hr,(by first|(rw[Xc U CA];exact Am)|(rw[Xd U CA];exact Am))⟩;refine I ?_;refine S5 (v:=.tuple #[]) (nh  rfl) ⟨G,(by rw[List.take_of_length_le U]at hB;exact hB),rfl⟩
def N7 (x1 x2 y1 y2:List UInt8)(w:World)(ht:Tb w):
 CL 13 #[.agg #[S x1,S x2],.agg #[S y1,S y2]] w (aG w λv w'=>v=gO (qr (x1,x2) (y1,y2))):=by
 refine aC func13 Z (I ?_);refine bx (λ_ Ao G=>?_);have ht:=ab5 Ao.2 ht;have E:=Ao.2;refine bx (λAy nm H=>?_);have ht:=ab5 nm.2 ht;have⟨G,E⟩:=bn nm.2 G E;refine al aS (λAb Av O=>?_);have ht:=ab5 Av.2 ht;have⟨G,H,E⟩:=cj Av.2 G H E;refine I ?_;refine bx (λAz Ap Am=>?_);have ht:=ab5 Ap.2 ht;have⟨G,H,O,E⟩:=fo Ap.2 G H O E;refine I ?_;refine Q6 (λ_ As _ B1=>?_);have ht:=ab5 As ht;have⟨G,H,O,Am,E⟩:=ku As G H O Am E;refine aa (bH (vs:=[pT Ab.heap.size,.slice (some ⟨Az.heap.size,0,none⟩) 2 2]) DW Z (pj (rs:=[(x1,x2),(y1,y2)]) Am ht (aa8 B1) Z U (λ_ e=>by cases e;simp;omega)) ?_);rintro _ _ ⟨A1,Aq,rfl⟩;have ht:=Tb.gr A1 Am dc ht;have G:=aa3 A1 q4 G;have H:=aa3 A1 q4 H;have O:=aa3 A1 q4 O;have E:=cL E A1 (bz E) (λg W=>by cases W;omega);refine I ?_;refine aa (bH (vs:=[pT Ab.heap.size,S x1,S y1]) q8 Z (mC Aq ht x1 y1) ?_);rintro _ _ ⟨A2,Ax,rfl⟩;have ht:=Tb.gr A2 Aq dc ht;have G:=aa3 A2 q4 G;have H:=aa3 A2 q4 H;have O:=aa3 A2 q4 O;have E:=cL E A2 (bz E) (λg W=>by cases W;omega);refine I ?_;refine aa (bH (vs:=[pT Ab.heap.size,S x2,S y2]) q8 Z (mC Ax ht x2 y2) ?_);rintro _ _ ⟨A0,ny,rfl⟩
 have ht:=Tb.gr A0 Ax dc ht;have G:=aa3 A0 q4 G;have H:=aa3 A0 q4 H;have O:=aa3 A0 q4 O;have E:=cL E A0 (bz E) (λg W=>by cases W;omega);refine aa (bH (vs:=[pT Ab.heap.size,S (dS (b9 false [(x1,x2),(y1,y2)]) (ay x1 y1)),S (dS (dB (b9 false [(x1,x2),(y1,y2)]) (ay x1 y1)) (ay x2 y2))]) tg Z (xZ ny ht (dS (b9 false [(x1,x2),(y1,y2)]) (ay x1 y1)) (dS (dB (b9 false [(x1,x2),(y1,y2)]) (ay x1 y1)) (ay x2 y2))) ?_);rintro _ _ ⟨Af,⟨C1,Ar⟩,rfl⟩;have G:=aa3 Af q4 G;have H:=aa3 Af q4 H;have O:=aa3 Af q4 O;have E:=cL E Af (bz E) (λg W=>by cases W;omega);refine I ?_;refine SA O (λ_ Aw B2=>?_);have⟨G,H,Ar⟩:=p0 Aw G H Ar;have E:=bi Aw E;refine I ?_
 refine aX (v:=.tuple #[.agg #[S (rN (gX (dB (dB (b9 false [(x1,x2),(y1,y2)]) (ay x1 y1)) (ay x2 y2)) (dS (b9 false [(x1,x2),(y1,y2)]) (ay x1 y1)) (dS (dB (b9 false [(x1,x2),(y1,y2)]) (ay x1 y1)) (ay x2 y2)))),S (rD (gX (dB (dB (b9 false [(x1,x2),(y1,y2)]) (ay x1 y1)) (ay x2 y2)) (dS (b9 false [(x1,x2),(y1,y2)]) (ay x1 y1)) (dS (dB (b9 false [(x1,x2),(y1,y2)]) (ay x1 y1)) (ay x2 y2))))],.int .i64 (TL (gX (dB (dB (b9 false [(x1,x2),(y1,y2)]) (ay x1 y1)) (ay x2 y2)) (dS (b9 false [(x1,x2),(y1,y2)]) (ay x1 y1)) (dS (dB (b9 false [(x1,x2),(y1,y2)]) (ay x1 y1)) (ay x2 y2))))]) (cO (r1:=.cell 4 33) (r2:=.tmp 5) Z ?_ ?_) E (Ju x1 x2 y1 y2);refine ak (t:=4) (cs:=[S (rN (gX (dB (dB (b9 false [(x1,x2),(y1,y2)]) (ay x1 y1)) (ay x2 y2)) (dS (b9 false [(x1,x2),(y1,y2)]) (ay x1 y1)) (dS (dB (b9 false [(x1,x2),(y1,y2)]) (ay x1 y1)) (ay x2 y2)))),S (rD (gX (dB (dB (b9 false [(x1,x2),(y1,y2)]) (ay x1 y1)) (ay x2 y2)) (dS (b9 false [(x1,x2),(y1,y2)]) (ay x1 y1)) (dS (dB (b9 false [(x1,x2),(y1,y2)]) (ay x1 y1)) (ay x2 y2))))]) (b:=Ay.heap.size) (o:=0) iK Z bX ?_ ?_;exact Z;exact aa0 B2 (i:=0) Z;exact aL (t:=5) GS _
def N8 (x1 x2 y1 y2:List UInt8)(w:World)(ht:Tb w):
 CL 15 #[.agg #[S x1,S x2],.agg #[S y1,S y2]] w (aG w λv w'=>v=gO (mB (x1,x2) (y1,y2))):=by
 refine aC func15 Z (I ?_);refine bx (λ_ Ao G=>?_);have ht:=ab5 Ao.2 ht;have E:=Ao.2;refine bx (λAy nm H=>?_);have ht:=ab5 nm.2 ht;have⟨G,E⟩:=bn nm.2 G E;refine al aS (λAb Av O=>?_);have ht:=ab5 Av.2 ht;have⟨G,H,E⟩:=cj Av.2 G H E;refine I ?_;refine bx (λAz Ap Am=>?_);have ht:=ab5 Ap.2 ht;have⟨G,H,O,E⟩:=fo Ap.2 G H O E;refine I ?_;refine Q6 (λ_ As _ B1=>?_);have ht:=ab5 As ht;have⟨G,H,O,Am,E⟩:=ku As G H O Am E;refine aa (bH (vs:=[pT Ab.heap.size,.slice (some ⟨Az.heap.size,0,none⟩) 2 2]) DW Z (pj (rs:=[(x1,x2),(y1,y2)]) Am ht (aa8 B1) Z U (λ_ e=>by cases e;simp;omega)) ?_);rintro _ _ ⟨A1,Aq,rfl⟩;have ht:=Tb.gr A1 Am dc ht;have G:=aa3 A1 q4 G;have H:=aa3 A1 q4 H;have O:=aa3 A1 q4 O;have E:=cL E A1 (bz E) (λg W=>by cases W;omega);refine I ?_;refine aa (bH (vs:=[pT Ab.heap.size,S x1,S y2]) q8 Z (mC Aq ht x1 y2) ?_);rintro _ _ ⟨A2,Ax,rfl⟩;have ht:=Tb.gr A2 Aq dc ht;have G:=aa3 A2 q4 G;have H:=aa3 A2 q4 H;have O:=aa3 A2 q4 O;have E:=cL E A2 (bz E) (λg W=>by cases W;omega);refine I ?_;refine aa (bH (vs:=[pT Ab.heap.size,S x2,S y1]) q8 Z (mC Ax ht x2 y1) ?_);rintro _ _ ⟨A0,ny,rfl⟩
 have ht:=Tb.gr A0 Ax dc ht;have G:=aa3 A0 q4 G;have H:=aa3 A0 q4 H;have O:=aa3 A0 q4 O;have E:=cL E A0 (bz E) (λg W=>by cases W;omega);refine aa (bH (vs:=[pT Ab.heap.size,S (dS (b9 false [(x1,x2),(y1,y2)]) (ay x1 y2)),S (dS (dB (b9 false [(x1,x2),(y1,y2)]) (ay x1 y2)) (ay x2 y1))]) tg Z (xZ ny ht (dS (b9 false [(x1,x2),(y1,y2)]) (ay x1 y2)) (dS (dB (b9 false [(x1,x2),(y1,y2)]) (ay x1 y2)) (ay x2 y1))) ?_);rintro _ _ ⟨Af,⟨C1,Ar⟩,rfl⟩;have G:=aa3 Af q4 G;have H:=aa3 Af q4 H;have O:=aa3 Af q4 O;have E:=cL E Af (bz E) (λg W=>by cases W;omega);refine I ?_;refine SA O (λ_ Aw B2=>?_);have⟨G,H,Ar⟩:=p0 Aw G H Ar;have E:=bi Aw E;refine I ?_
 refine aX (v:=.tuple #[.agg #[S (rN (gX (dB (dB (b9 false [(x1,x2),(y1,y2)]) (ay x1 y2)) (ay x2 y1)) (dS (b9 false [(x1,x2),(y1,y2)]) (ay x1 y2)) (dS (dB (b9 false [(x1,x2),(y1,y2)]) (ay x1 y2)) (ay x2 y1)))),S (rD (gX (dB (dB (b9 false [(x1,x2),(y1,y2)]) (ay x1 y2)) (ay x2 y1)) (dS (b9 false [(x1,x2),(y1,y2)]) (ay x1 y2)) (dS (dB (b9 false [(x1,x2),(y1,y2)]) (ay x1 y2)) (ay x2 y1))))],.int .i64 (TL (gX (dB (dB (b9 false [(x1,x2),(y1,y2)]) (ay x1 y2)) (ay x2 y1)) (dS (b9 false [(x1,x2),(y1,y2)]) (ay x1 y2)) (dS (dB (b9 false [(x1,x2),(y1,y2)]) (ay x1 y2)) (ay x2 y1))))]) (cO (r1:=.cell 4 33) (r2:=.tmp 5) Z ?_ ?_) E (Jv x1 x2 y1 y2);refine ak (t:=4) (cs:=[S (rN (gX (dB (dB (b9 false [(x1,x2),(y1,y2)]) (ay x1 y2)) (ay x2 y1)) (dS (b9 false [(x1,x2),(y1,y2)]) (ay x1 y2)) (dS (dB (b9 false [(x1,x2),(y1,y2)]) (ay x1 y2)) (ay x2 y1)))),S (rD (gX (dB (dB (b9 false [(x1,x2),(y1,y2)]) (ay x1 y2)) (ay x2 y1)) (dS (b9 false [(x1,x2),(y1,y2)]) (ay x1 y2)) (dS (dB (b9 false [(x1,x2),(y1,y2)]) (ay x1 y2)) (ay x2 y1))))]) (b:=Ay.heap.size) (o:=0) iK Z bX ?_ ?_;exact Z;exact aa0 B2 (i:=0) Z;exact aL (t:=5) GS _
def Ey {os:List UInt8->List UInt8->Option (List UInt8)}(heg:Enters prog g0)(hop:∀a b,Op2 g0 a b (os a b))(x1 x2 y1 y2:List UInt8)(w:World)(ht:Tb w):
 CL 155 #[.func (.func g0) #[] #[],.agg #[S x1,S x2],.agg #[S y1,S y2]] w (aG w λv w'=>v=gO (Jw os x1 x2 y1 y2 (b9 false [(x1,x2),(y1,y2)]))):=by
 refine aC func155 Z (I ?_);refine bx (λAy Az G=>?_);have ht:=ab5 Az.2 ht;have E:=Az.2;refine bx (λCB CY H=>?_);have ht:=ab5 CY.2 ht;have⟨G,E⟩:=bn CY.2 G E;refine al aS (λA2 Cr O=>?_);have ht:=ab5 Cr.2 ht;have⟨G,H,E⟩:=cj Cr.2 G H E;refine I ?_;refine bx (λcc B1 ny=>?_);have ht:=ab5 B1.2 ht;have⟨G,H,O,E⟩:=fo B1.2 G H O E;refine I ?_;refine Q6 (λ_ B2 _ a8=>?_);have ht:=ab5 B2 ht;have⟨G,H,O,ny,E⟩:=ku B2 G H O ny E;refine aa (bH (vs:=[pT A2.heap.size,.slice (some ⟨cc.heap.size,0,none⟩) 2 2]) DW Z (pj (rs:=[(x1,x2),(y1,y2)]) ny ht (aa8 a8) Z U (λ_ e=>by cases e;simp;omega)) ?_);rintro _ C1 ⟨Aq,A0,rfl⟩;have ht:=Tb.gr Aq ny dc ht;have G:=aa3 Aq q4 G;have H:=aa3 Aq q4 H;have O:=aa3 Aq q4 O;have E:=cL E Aq (bz E) (λg Ab=>by cases Ab;omega);refine I ?_;have Af:=ac3 C1
 refine S7 tm 15 (λ_ _=>True) (λ_=>trivial) (λ_ _ _ _ _=>trivial) [λv _=>v=pT A2.heap.size,λv _=>v=.func (.func g0) #[] #[],λv _=>v=pT A2.heap.size,λv _=>v=pT w.heap.size,λv _=>v=S x1,λv _=>v=.pointer (some ⟨Ay.heap.size,1,none⟩),λv _=>v=S y2,λv _=>v=S (dS (b9 false [(x1,x2),(y1,y2)]) (ay x1 y2)),λv _=>v=pT A2.heap.size,λv _=>v=pT Ay.heap.size,λv _=>v=S y1,λv _=>v=.pointer (some ⟨w.heap.size,1,none⟩),λv _=>v=S x2,λv _=>v=S (dS (dB (b9 false [(x1,x2),(y1,y2)]) (ay x1 y2)) (ay y1 x2)),λv _=>v=S (dS (dB (dB (b9 false [(x1,x2),(y1,y2)]) (ay x1 y2)) (ay y1 x2)) (os (dS (b9 false [(x1,x2),(y1,y2)]) (ay x1 y2)) (dS (dB (b9 false [(x1,x2),(y1,y2)]) (ay x1 y2)) (ay y1 x2))))] ⟨λ_ _ _ _ h=>h,λ_ _ _ _ h=>h,λ_ _ _ _ h=>h,λ_ _ _ _ h=>h,λ_ _ _ _ h=>h,λ_ _ _ _ h=>h,λ_ _ _ _ h=>h,λ_ _ _ _ h=>h,λ_ _ _ _ h=>h,λ_ _ _ _ h=>h,λ_ _ _ _ h=>h,λ_ _ _ _ h=>h,λ_ _ _ _ h=>h,λ_ _ _ _ h=>h,λ_ _ _ _ h=>h,trivial⟩ q0 q0 q0 [7,13,14] q0 q0 q0 (λk W=>(aO w W)/\(C1.heap.size<=W.heap.size)/\(Tb W)/\(ap W w.heap.size 33 #[S x1,S x2])/\(ap W Ay.heap.size 33 #[S y1,S y2])/\(ap W CB.heap.size 33 #[S [],S []])/\(ap W A2.heap.size 75 #[.bool (([b9 false [(x1,x2),(y1,y2)],dB (b9 false [(x1,x2),(y1,y2)]) (ay x1 y2),dB (dB (b9 false [(x1,x2),(y1,y2)]) (ay x1 y2)) (ay y1 x2),dB (dB (dB (b9 false [(x1,x2),(y1,y2)]) (ay x1 y2)) (ay y1 x2)) (os (dS (b9 false [(x1,x2),(y1,y2)]) (ay x1 y2)) (dS (dB (b9 false [(x1,x2),(y1,y2)]) (ay x1 y2)) (ay y1 x2)))]:List Bool).getD k false)])) ⟨(xt E Af),(bz Af),(ab5 Af ht),(be Af G),(be Af H),(be Af O),(be Af A0)⟩ ?_ ?_
 refine⟨λP0 d0 eZ bp cx _ N0 d4=>?_,?_⟩;obtain⟨P0,rfl⟩:=dX N0;obtain⟨E,A1,ht,G,H,O,A0⟩:=bp;refine I ?_;exact⟨rfl,_,(aw _ _ _ _ _).symm,trivial,rfl,⟨E,U,ht,G,H,O,A0⟩⟩;refine⟨λE5 e5 ch L3 co _ an ej=>?_,?_⟩;obtain⟨E5,rfl⟩:=dX an;obtain⟨E,A1,ht,G,H,O,A0⟩:=L3;refine I ?_;exact⟨rfl,_,(aw _ _ _ _ _).symm,trivial,rfl,⟨E,U,ht,G,H,O,A0⟩⟩;refine⟨λbb dq ed L4 eq _ Q0 f7=>?_,?_⟩;obtain⟨bb,rfl⟩:=dX Q0;obtain⟨E,A1,ht,G,H,O,A0⟩:=L4;refine I ?_;exact⟨rfl,_,(aw _ _ _ _ _).symm,trivial,rfl,⟨E,U,ht,G,H,O,A0⟩⟩;refine⟨λWV cm fN EW cy _ E0 f3=>?_,?_⟩;obtain⟨WV,rfl⟩:=dX E0;obtain⟨E,A1,ht,G,H,O,A0⟩:=EW;refine I ?_;exact⟨rfl,_,(aw _ _ _ _ _).symm,trivial,rfl,⟨E,U,ht,G,H,O,A0⟩⟩;refine⟨λKC eC e6 W2 e4 _ X2 a6=>?_,?_⟩;obtain⟨KC,rfl⟩:=dX X2;obtain⟨E,A1,ht,G,H,O,A0⟩:=W2;have cq:=gm (a6 3 20 Z Z);refine I ?_;exact⟨rfl,_,(aw _ _ _ _ _).symm,trivial,rfl,⟨E,U,ht,G,H,O,A0⟩⟩;refine⟨λLk ct f9 P1 e1 _ E7 eX=>?_,?_⟩;obtain⟨Lk,rfl⟩:=dX E7;obtain⟨E,A1,ht,G,H,O,A0⟩:=P1;refine I ?_;exact⟨rfl,_,(aw _ _ _ _ _).symm,trivial,rfl,⟨E,U,ht,G,H,O,A0⟩⟩;refine⟨λK2 eg cr Lj fG _ KY cf=>?_,?_⟩;obtain⟨K2,rfl⟩:=dX KY
 obtain⟨E,A1,ht,G,H,O,A0⟩:=Lj;have cw:=gm (cf 5 22 Z Z);refine I ?_;exact⟨rfl,_,(aw _ _ _ _ _).symm,trivial,rfl,⟨E,U,ht,G,H,O,A0⟩⟩;refine⟨λwr cb arr W3 bd _ K3 Aw=>?_,?_⟩;obtain⟨wr,rfl⟩:=dX K3;obtain⟨E,A1,ht,G,H,O,A0⟩:=W3;obtain rfl:=bd 0 Z;have A0:ap cb A2.heap.size 75 #[.bool (b9 false [(x1,x2),(y1,y2)])]:=A0;have bv:=gm (Aw 2 19 Z Z);have H3:=gm (Aw 4 21 Z Z);have G0:=gm (Aw 6 23 Z Z);refine aa (bH (vs:=[pT A2.heap.size,S x1,S y2]) q8 (av bv (av H3 (av G0 Z))) (mC A0 ht x1 y2) ?_);rintro _ _ ⟨Am,a4,rfl⟩;have ht:=Tb.gr Am A0 dc ht;have G:=aa3 Am q4 G;have H:=aa3 Am q4 H;have O:=aa3 Am q4 O;have E:=cL E Am (bz E) (λg Ab=>by cases Ab;omega);have dd:=Am.size;refine I ?_;exact⟨rfl,_,(aw _ _ _ _ _).symm,trivial,rfl,⟨E,U,ht,G,H,O,a4⟩⟩;refine⟨λE9 e3 eS E1 fB _ Kp d6=>?_,?_⟩;obtain⟨E9,rfl⟩:=dX Kp;obtain⟨E,A1,ht,G,H,O,A0⟩:=E1;refine I ?_;exact⟨rfl,_,(aw _ _ _ _ _).symm,trivial,rfl,⟨E,U,ht,G,H,O,A0⟩⟩;refine⟨λL2 et ea La fC _ VW eD=>?_,?_⟩;obtain⟨L2,rfl⟩:=dX VW;obtain⟨E,A1,ht,G,H,O,A0⟩:=La;refine I ?_;exact⟨rfl,_,(aw _ _ _ _ _).symm,trivial,rfl,⟨E,U,ht,G,H,O,A0⟩⟩
 refine⟨λbW cp eG c9 dC _ Li S9=>?_,?_⟩;obtain⟨bW,rfl⟩:=dX Li;obtain⟨E,A1,ht,G,H,O,A0⟩:=c9;have d3:=gm (S9 9 26 Z Z);refine I ?_;exact⟨rfl,_,(aw _ _ _ _ _).symm,trivial,rfl,⟨E,U,ht,G,H,O,A0⟩⟩;refine⟨λa2 er dL Wa eW _ bq eB=>?_,?_⟩;obtain⟨a2,rfl⟩:=dX bq;obtain⟨E,A1,ht,G,H,O,A0⟩:=Wa;refine I ?_;exact⟨rfl,_,(aw _ _ _ _ _).symm,trivial,rfl,⟨E,U,ht,G,H,O,A0⟩⟩;refine⟨λb0 ask eb P2 cv _ S0 a0=>?_,?_⟩;obtain⟨b0,rfl⟩:=dX S0;obtain⟨E,A1,ht,G,H,O,A0⟩:=P2;have d5:=gm (a0 11 28 Z Z);refine I ?_;exact⟨rfl,_,(aw _ _ _ _ _).symm,trivial,rfl,⟨E,U,ht,G,H,O,A0⟩⟩;refine⟨λcT H4 f0 E6 bZ _ W1 Ax=>?_,?_⟩;obtain⟨cT,rfl⟩:=dX W1;obtain⟨E,A1,ht,G,H,O,A0⟩:=E6;obtain rfl:=bZ 1 Z;have A0:ap H4 A2.heap.size 75 #[.bool (dB (b9 false [(x1,x2),(y1,y2)]) (ay x1 y2))]:=A0;have ad:=gm (Ax 8 25 Z Z);have a5:=gm (Ax 10 27 Z Z);have T3:=gm (Ax 12 29 Z Z);refine aa (bH (vs:=[pT A2.heap.size,S y1,S x2]) q8 (av ad (av a5 (av T3 Z))) (mC A0 ht y1 x2) ?_);rintro _ _ ⟨Ao,GC,rfl⟩;have ht:=Tb.gr Ao A0 dc ht;have G:=aa3 Ao q4 G;have H:=aa3 Ao q4 H;have O:=aa3 Ao q4 O;have E:=cL E Ao (bz E) (λg Ab=>by cases Ab;omega)
 have fD:=Ao.size;refine I ?_;exact⟨rfl,_,(aw _ _ _ _ _).symm,trivial,rfl,⟨E,U,ht,G,H,O,GC⟩⟩;refine⟨λES a3 cz FR KM _ No Av=>?_,?_⟩;obtain⟨ES,rfl⟩:=dX No;obtain⟨E,A1,ht,G,H,O,A0⟩:=FR;obtain rfl:=KM 2 Z;have A0:ap a3 A2.heap.size 75 #[.bool (dB (dB (b9 false [(x1,x2),(y1,y2)]) (ay x1 y2)) (ay y1 x2))]:=A0;have E4:=gm (Av 0 17 Z Z);have T2:=gm (Av 1 18 Z Z);have Vm:=gm (Av 7 24 Z Z);have ac:=gm (Av 13 30 Z Z);refine aa (bH (vs:=[pT A2.heap.size,.func (.func g0) #[] #[],S (dS (b9 false [(x1,x2),(y1,y2)]) (ay x1 y2)),S (dS (dB (b9 false [(x1,x2),(y1,y2)]) (ay x1 y2)) (ay y1 x2))]) q9 (av E4 (av T2 (av Vm (av ac Z)))) (rj (o:=os (dS (b9 false [(x1,x2),(y1,y2)]) (ay x1 y2)) (dS (dB (b9 false [(x1,x2),(y1,y2)]) (ay x1 y2)) (ay y1 x2))) A0 ht heg (hop _ _)) ?_);rintro _ _ ⟨Ap,Ne,rfl⟩;have ht:=Tb.gr Ap A0 dc ht;have G:=aa3 Ap q4 G;have H:=aa3 Ap q4 H;have O:=aa3 Ap q4 O;have E:=cL E Ap (bz E) (λg Ab=>by cases Ab;omega);have eQ:=Ap.size;refine I ?_;exact⟨rfl,_,(aw _ _ _ _ _).symm,trivial,rfl,⟨E,U,ht,G,H,O,Ne⟩⟩;exact trivial;intro L1 Ix Rm _ H2 ce;obtain⟨L1,rfl⟩:=dX H2;obtain⟨E,A1,ht,G,H,O,A0⟩:=Rm
 have A0:ap Ix A2.heap.size 75 #[.bool (dB (dB (dB (b9 false [(x1,x2),(y1,y2)]) (ay x1 y2)) (ay y1 x2)) (os (dS (b9 false [(x1,x2),(y1,y2)]) (ay x1 y2)) (dS (dB (b9 false [(x1,x2),(y1,y2)]) (ay x1 y2)) (ay y1 x2))))]:=A0;have d1:=gm (ce 14 31 Z Z);refine I ?_;refine aa (bH (vs:=[pT A2.heap.size,S x2,S y2]) q8 Z (mC A0 ht x2 y2) ?_);rintro _ _ ⟨Ar,a9,rfl⟩;have ht:=Tb.gr Ar A0 dc ht;have G:=aa3 Ar q4 G;have H:=aa3 Ar q4 H;have O:=aa3 Ar q4 O;have E:=cL E Ar (bz E) (λg Ab=>by cases Ab;omega)
 refine aa (bH (vs:=[pT A2.heap.size,S (dS (dB (dB (b9 false [(x1,x2),(y1,y2)]) (ay x1 y2)) (ay y1 x2)) (os (dS (b9 false [(x1,x2),(y1,y2)]) (ay x1 y2)) (dS (dB (b9 false [(x1,x2),(y1,y2)]) (ay x1 y2)) (ay y1 x2)))),S (dS (dB (dB (dB (b9 false [(x1,x2),(y1,y2)]) (ay x1 y2)) (ay y1 x2)) (os (dS (b9 false [(x1,x2),(y1,y2)]) (ay x1 y2)) (dS (dB (b9 false [(x1,x2),(y1,y2)]) (ay x1 y2)) (ay y1 x2)))) (ay x2 y2))]) tg Z (xZ a9 ht (dS (dB (dB (b9 false [(x1,x2),(y1,y2)]) (ay x1 y2)) (ay y1 x2)) (os (dS (b9 false [(x1,x2),(y1,y2)]) (ay x1 y2)) (dS (dB (b9 false [(x1,x2),(y1,y2)]) (ay x1 y2)) (ay y1 x2)))) (dS (dB (dB (dB (b9 false [(x1,x2),(y1,y2)]) (ay x1 y2)) (ay y1 x2)) (os (dS (b9 false [(x1,x2),(y1,y2)]) (ay x1 y2)) (dS (dB (b9 false [(x1,x2),(y1,y2)]) (ay x1 y2)) (ay y1 x2)))) (ay x2 y2))) ?_);rintro _ _ ⟨As,⟨eP,CG⟩,rfl⟩;have G:=aa3 As q4 G;have H:=aa3 As q4 H;have O:=aa3 As q4 O;have E:=cL E As (bz E) (λg Ab=>by cases Ab;omega);refine I ?_;refine SA O (λ_ nm X0=>?_);have⟨G,H,CG⟩:=p0 nm G H CG;have E:=bi nm E;refine I ?_
 refine aX (v:=.tuple #[.agg #[S (rN (gX (dB (dB (dB (dB (b9 false [(x1,x2),(y1,y2)]) (ay x1 y2)) (ay y1 x2)) (os (dS (b9 false [(x1,x2),(y1,y2)]) (ay x1 y2)) (dS (dB (b9 false [(x1,x2),(y1,y2)]) (ay x1 y2)) (ay y1 x2)))) (ay x2 y2)) (dS (dB (dB (b9 false [(x1,x2),(y1,y2)]) (ay x1 y2)) (ay y1 x2)) (os (dS (b9 false [(x1,x2),(y1,y2)]) (ay x1 y2)) (dS (dB (b9 false [(x1,x2),(y1,y2)]) (ay x1 y2)) (ay y1 x2)))) (dS (dB (dB (dB (b9 false [(x1,x2),(y1,y2)]) (ay x1 y2)) (ay y1 x2)) (os (dS (b9 false [(x1,x2),(y1,y2)]) (ay x1 y2)) (dS (dB (b9 false [(x1,x2),(y1,y2)]) (ay x1 y2)) (ay y1 x2)))) (ay x2 y2)))),S (rD (gX (dB (dB (dB (dB (b9 false [(x1,x2),(y1,y2)]) (ay x1 y2)) (ay y1 x2)) (os (dS (b9 false [(x1,x2),(y1,y2)]) (ay x1 y2)) (dS (dB (b9 false [(x1,x2),(y1,y2)]) (ay x1 y2)) (ay y1 x2)))) (ay x2 y2)) (dS (dB (dB (b9 false [(x1,x2),(y1,y2)]) (ay x1 y2)) (ay y1 x2)) (os (dS (b9 false [(x1,x2),(y1,y2)]) (ay x1 y2)) (dS (dB (b9 false [(x1,x2),(y1,y2)]) (ay x1 y2)) (ay y1 x2)))) (dS (dB (dB (dB (b9 false [(x1,x2),(y1,y2)]) (ay x1 y2)) (ay y1 x2)) (os (dS (b9 false [(x1,x2),(y1,y2)]) (ay x1 y2)) (dS (dB (b9 false [(x1,x2),(y1,y2)]) (ay x1 y2)) (ay y1 x2)))) (ay x2 y2))))],.int .i64 (TL (gX (dB (dB (dB (dB (b9 false [(x1,x2),(y1,y2)]) (ay x1 y2)) (ay y1 x2)) (os (dS (b9 false [(x1,x2),(y1,y2)]) (ay x1 y2)) (dS (dB (b9 false [(x1,x2),(y1,y2)]) (ay x1 y2)) (ay y1 x2)))) (ay x2 y2)) (dS (dB (dB (b9 false [(x1,x2),(y1,y2)]) (ay x1 y2)) (ay y1 x2)) (os (dS (b9 false [(x1,x2),(y1,y2)]) (ay x1 y2)) (dS (dB (b9 false [(x1,x2),(y1,y2)]) (ay x1 y2)) (ay y1 x2)))) (dS (dB (dB (dB (b9 false [(x1,x2),(y1,y2)]) (ay x1 y2)) (ay y1 x2)) (os (dS (b9 false [(x1,x2),(y1,y2)]) (ay x1 y2)) (dS (dB (b9 false [(x1,x2),(y1,y2)]) (ay x1 y2)) (ay y1 x2)))) (ay x2 y2))))]) (cO (r1:=.cell 6 33) (r2:=.tmp 7) Z ?_ ?_) E Z
 refine ak (t:=6) (cs:=[S (rN (gX (dB (dB (dB (dB (b9 false [(x1,x2),(y1,y2)]) (ay x1 y2)) (ay y1 x2)) (os (dS (b9 false [(x1,x2),(y1,y2)]) (ay x1 y2)) (dS (dB (b9 false [(x1,x2),(y1,y2)]) (ay x1 y2)) (ay y1 x2)))) (ay x2 y2)) (dS (dB (dB (b9 false [(x1,x2),(y1,y2)]) (ay x1 y2)) (ay y1 x2)) (os (dS (b9 false [(x1,x2),(y1,y2)]) (ay x1 y2)) (dS (dB (b9 false [(x1,x2),(y1,y2)]) (ay x1 y2)) (ay y1 x2)))) (dS (dB (dB (dB (b9 false [(x1,x2),(y1,y2)]) (ay x1 y2)) (ay y1 x2)) (os (dS (b9 false [(x1,x2),(y1,y2)]) (ay x1 y2)) (dS (dB (b9 false [(x1,x2),(y1,y2)]) (ay x1 y2)) (ay y1 x2)))) (ay x2 y2)))),S (rD (gX (dB (dB (dB (dB (b9 false [(x1,x2),(y1,y2)]) (ay x1 y2)) (ay y1 x2)) (os (dS (b9 false [(x1,x2),(y1,y2)]) (ay x1 y2)) (dS (dB (b9 false [(x1,x2),(y1,y2)]) (ay x1 y2)) (ay y1 x2)))) (ay x2 y2)) (dS (dB (dB (b9 false [(x1,x2),(y1,y2)]) (ay x1 y2)) (ay y1 x2)) (os (dS (b9 false [(x1,x2),(y1,y2)]) (ay x1 y2)) (dS (dB (b9 false [(x1,x2),(y1,y2)]) (ay x1 y2)) (ay y1 x2)))) (dS (dB (dB (dB (b9 false [(x1,x2),(y1,y2)]) (ay x1 y2)) (ay y1 x2)) (os (dS (b9 false [(x1,x2),(y1,y2)]) (ay x1 y2)) (dS (dB (b9 false [(x1,x2),(y1,y2)]) (ay x1 y2)) (ay y1 x2)))) (ay x2 y2))))]) (b:=CB.heap.size) (o:=0) iK Z bX ?_ ?_;exact Z;exact aa0 X0 (i:=0) Z;exact aL (t:=7) GS _
def N9 (x1 x2 y1 y2:List UInt8)(w:World)(ht:Tb w):CL 155 #[.func (.func 186) #[] #[],.agg #[S x1,S x2],.agg #[S y1,S y2]] w (aG w λv w'=>v=gO (jJ (x1,x2) (y1,y2))):=Jy x1 x2 y1 y2▸Ey Ij (λa b W hW=>xX a b W hW) x1 x2 y1 y2 w ht
def Oa (x1 x2 y1 y2:List UInt8)(w:World)(ht:Tb w):CL 155 #[.func (.func 86) #[] #[],.agg #[S x1,S x2],.agg #[S y1,S y2]] w (aG w λv w'=>v=gO (dn (x1,x2) (y1,y2))):=Jz x1 x2 y1 y2▸Ey DX (λa b W hW=>su a b W hW) x1 x2 y1 y2 w ht
def Ob (x1 x2 y1 y2:List UInt8)(w:World)(ht:Tb w):
 CL 312 #[.agg #[S x1,S x2],.agg #[S y1,S y2]] w (aG w λv w'=>v=gO (jJ (x1,x2) (y1,y2))):=by
 refine aC func312 Z (I ?_);refine bx (λ_ A0 G=>?_);have ht:=ab5 A0.2 ht;have E:=A0.2;refine bx (λAf A2 H=>?_);have ht:=ab5 A2.2 ht;have⟨G,E⟩:=bn A2.2 G E;refine al aS (λ_ W O=>?_);have ht:=ab5 W.2 ht;have⟨G,H,E⟩:=cj W.2 G H E;refine I ?_;refine cl QJ (N9 x1 x2 y1 y2 _ ht) ?_;rintro _ _ Ab rfl;have⟨G,H,O,E⟩:=fo Ab.2 G H O E;refine I ?_;refine SA O (λ_ A1 Am=>?_);have⟨G,H⟩:=jU A1 G H;have E:=bi A1 E;refine I ?_;refine aX (v:=.tuple #[.agg #[S (rN (jJ (x1,x2) (y1,y2))),S (rD (jJ (x1,x2) (y1,y2)))],.int .i64 (TL (jJ (x1,x2) (y1,y2)))]) (cO (r1:=.cell 4 33) (r2:=.tmp 5) Z ?_ ?_) E Z;refine ak (t:=4) (cs:=[S (rN (jJ (x1,x2) (y1,y2))),S (rD (jJ (x1,x2) (y1,y2)))]) (b:=Af.heap.size) (o:=0) iK Z bX ?_ ?_;exact Z;exact aa0 Am (i:=0) Z;exact aL (t:=5) GS _
def Ez (x1 x2 y1 y2:List UInt8)(w:World)(ht:Tb w):
 CL 117 #[.agg #[S x1,S x2],.agg #[S y1,S y2]] w (aG w λv w'=>v=gO (dn (x1,x2) (y1,y2))):=by
 refine aC func117 Z (I ?_);refine bx (λ_ A0 G=>?_);have ht:=ab5 A0.2 ht;have E:=A0.2;refine bx (λAf A2 H=>?_);have ht:=ab5 A2.2 ht;have⟨G,E⟩:=bn A2.2 G E;refine al aS (λ_ W O=>?_);have ht:=ab5 W.2 ht;have⟨G,H,E⟩:=cj W.2 G H E;refine I ?_;refine cl QJ (Oa x1 x2 y1 y2 _ ht) ?_;rintro _ _ Ab rfl;have⟨G,H,O,E⟩:=fo Ab.2 G H O E;refine I ?_;refine SA O (λ_ A1 Am=>?_);have⟨G,H⟩:=jU A1 G H;have E:=bi A1 E;refine I ?_;refine aX (v:=.tuple #[.agg #[S (rN (dn (x1,x2) (y1,y2))),S (rD (dn (x1,x2) (y1,y2)))],.int .i64 (TL (dn (x1,x2) (y1,y2)))]) (cO (r1:=.cell 4 33) (r2:=.tmp 5) Z ?_ ?_) E Z;refine ak (t:=4) (cs:=[S (rN (dn (x1,x2) (y1,y2))),S (rD (dn (x1,x2) (y1,y2)))]) (b:=Af.heap.size) (o:=0) iK Z bX ?_ ?_;exact Z;exact aa0 Am (i:=0) Z;exact aL (t:=5) GS _
end Go.Proofs.YtlmihmlnpjkblaaGreatDoor
