/- Part of the proof of a statement about an adjustment. -/
import Derived.Test.YtlmihmlnpjkblaaGreatDoorInt6ToInt12X
set_option linter.all false
namespace Go.Proofs.YtlmihmlnpjkblaaGreatDoor
variable {ng nx ny:Bool}{a l b:List UInt8}{lo q:Nat}{A:Option Addr}{p:Prop}{w w':World}
set_option maxRecDepth 100000
open Go Go.Eng Go.RowKit Tryz
attribute [local irreducible] wpListIn Code.wpIn Oper.wpIn Exit.then Exit.inBlock Exit.noGoto
set_option maxHeartbeats 40000000
def bD (h:p:=by assumption):p:=h
def cM {n c a k:Nat}(h:ee w lo A n c a)(hl:a<10000^k):n<=k:=by rw[<-h.len];exact(ba 10000 U a k).2 hl
def ew (h:isInt l=true):aH (body l)<10000^50:=qb1 (sK (eu h)) dc
def mT (l:List UInt8):bO (neg l) (aH (body l))=aj l:=rfl
def EB (ng:Bool)(a:Nat):bO (!ng) a=-bO ng a:=by cases ng <;>simp[bO]
def qO {a b:Bool}(h:¬(a&&b)=true):(a&&b)=false:=by simpa using h
def ig {a b:Bool}(h:(a&&b)=true):a=true:=by simp at h;exact h.1
def g5 {a b:Bool}(h:(a&&b)=true):b=true:=by simp at h;exact h.2
def xU (h:(isInt a&&isInt b)=true):xQ a b=bc (aj a+aj b):=by unfold xQ;rw[if_pos h]
def Oc (h:(isInt a&&isInt b)=false):xQ a b=none:=by unfold xQ;rw[h];rfl
def pj (h:(isInt a&&isInt b)=true):aW a b=bc (aj a-aj b):=by unfold aW;rw[if_pos h]
def xV (h:(isInt a&&isInt b)=false):aW a b=none:=by unfold aW;rw[h];rfl
def gz (h:(isInt a&&isInt b)=true):az a b=bc (aj a*aj b):=by unfold az;rw[if_pos h]
def Od (h:(isInt a&&isInt b)=false):az a b=none:=by unfold az;rw[h];rfl
def xW (h:(isInt a&&isInt b)=false):bQ a b=none:=by unfold bQ;rw[h];rfl
def xX (h:(isInt a&&isInt b)=false):dM a b=0:=by unfold dM;rw[h];rfl
def EC (h:(isInt a&&isInt b)=true):bQ a b=bc (bO false (Nat.gcd (aH (body a)) (aH (body b)))):=by
 unfold bQ;rw[if_pos h]
 have:Int.gcd (aj a) (aj b)=Nat.gcd (aH (body a)) (aH (body b)):=by rw[Int.gcd,dX,dX]
 rw[this];rfl
def Oe (x y:Bool)(a b:Nat):bO (!(x==y)) (a*b)=bO x a*bO y b:=by cases x <;>cases y <;>simp[bO,Int.neg_mul,Int.mul_neg]
def sum_lt (ha:isInt a=true)(hb:isInt b=true){r:Nat}{s:Int}(h:bO ng r=aj a+s)(hs:s=aj b\/s=-aj b):r<10000^51:=by
 have h1:=ew ha
 have h2:=ew hb
 have e:(bO ng r).natAbs=r:=jK ng r
 have E:=dX a
 have G:=dX b
 have:(10000:Nat)^51=10000^50*10000:=by rw[<-Nat.pow_succ]
 generalize (10000:Nat)^50=M at *
 omega
def ue (h:(isInt a&&isInt b)=true)(ha:neg a=true)(hb:neg b=true):aO ((aH (body b):Nat):Int) ((aH (body a):Nat):Int)=dM a b:=by
 unfold dM;rw[if_pos h]
 refine oc ?_ ?_ <;>(unfold aj;rw[if_pos ha,if_pos hb];omega)
def uf (h:(isInt a&&isInt b)=true)(ha:neg a=true)(hb:neg b=false):(-1:Int)=dM a b:=by
 unfold dM;rw[if_pos h,fV]
 have:=o7 (eu (ig h)) (og (ig h) ha)
 unfold aj;rw[if_pos ha,if_neg (by simp[hb])];omega
def ug (h:(isInt a&&isInt b)=true)(ha:neg a=false)(hb:neg b=true):(1:Int)=dM a b:=by
 unfold dM;rw[if_pos h,eL]
 have:=o7 (eu (g5 h)) (og (g5 h) hb)
 have E:aj a=(aH (body a):Int):=by unfold aj;rw[if_neg (by simp[ha])]
 have e2:aj b=-(aH (body b):Int):=by unfold aj;rw[if_pos hb]
 rw[E,e2];omega
def uh (h:(isInt a&&isInt b)=true)(ha:neg a=false)(hb:neg b=false):aO ((aH (body a):Nat):Int) ((aH (body b):Nat):Int)=dM a b:=by
 unfold dM;rw[if_pos h]
 unfold aj;rw[if_neg (by simp[ha]),if_neg (by simp[hb])]
def vT (o:Option (List UInt8×List UInt8)):Value:=.tuple #[S (rS (o.map (·.1))),S (rS (o.map (·.2))),.int .i64 (if o.isSome then 0 else 30)]
def xY (h:(isInt a&&isInt b)=false):dm a b=none:=by unfold dm;rw[h];rfl
def mA (h:aH (body b)=0):dm a b=none:=by
 unfold dm
 by_cases hb:isInt b=true
 · have:b=[48]:=(fY hb).1 (by have:=dX b;omega)
   simp[this]
 · simp[hb]
def lz (h:(isInt a&&isInt b)=true)(h0:0<aH (body b)):dm a b=(bc (aj a/aj b)).map λq=>(q,ae (aj a%aj b)):=by
 have hb:b≠[48]:=by intro e;subst e;exact absurd qJ (by have:body [48]=[48]:=rfl;rw[this]at h0;omega)
 unfold dm
 rw[h,decide_eq_true hb];rfl
def zT (ny:Bool)(x:Int)(b:Nat):x/bO ny b=(if ny then -(x/(b:Int))else x/(b:Int))/\x%bO ny b=x%(b:Int):=by
 cases ny
 · simp[bO]
 · simp[bO,Int.ediv_neg,Int.emod_neg]
def GA {a b:Nat}(hb:0<b)(hc:nx=false\/a%b=0):bO (!(nx==ny)) (a/b)=bO nx a/bO ny b/\((a%b:Nat):Int)=bO nx a%bO ny b:=by
 obtain⟨G,e2⟩:=zT ny (bO nx a) b
 rw[G,e2]
 cases nx with
 | false=>
   simp only[bO,Bool.false_eq_true,if_false]
   cases ny <;>simp
 | true=>
   have E:a%b=0:=by rcases hc with h|h;cases h;exact h
   have hd:(b:Int)∣(a:Int):=Int.natCast_dvd_natCast.2 (Nat.dvd_of_mod_eq_zero E)
   simp only[bO,if_true]
   rw[Int.neg_ediv_of_dvd hd,Int.emod_eq_zero_of_dvd (Int.dvd_neg.2 hd),E]
   cases ny <;>simp
def GB {a b:Nat}(hb:0<b)(hr:0<a%b):bO (!(true==ny)) (a/b+1)=bO true a/bO ny b/\((b-a%b:Nat):Int)=bO true a%bO ny b:=by
 obtain⟨G,e2⟩:=zT ny (bO true a) b
 rw[G,e2]
 have hlt:=Nat.mod_lt a hb
 have E:=Nat.div_add_mod a b
 have key:(-(a:Int))/(b:Int)=-((a/b:Nat):Int)-1/\(-(a:Int))%(b:Int)=((b-a%b:Nat):Int):=by
  refine(Int.ediv_emod_unique U).2 ⟨?_,by omega,by omega⟩
  have h3:(a:Int)=(b:Int)*((a/b:Nat):Int)+((a%b:Nat):Int):=by rw[<-Int.natCast_mul,<-Int.natCast_add,E]
  rw[Int.mul_sub,Int.mul_neg]
  omega
 simp only[bO,if_true]
 rw[key.1,key.2]
 cases ny <;>simp <;>omega
def TI {r:Nat}{x:Int}(hr:r<10^200)(h:(r:Int)=x):rS (bc (bO false r))=ae x:=by
 have hf:fits x=true:=by unfold fits;rw[decide_eq_true_eq];omega
 have e:bO false r=x:=h
 rw[e];unfold bc;rw[if_pos hf];rfl
def lA {r:Nat}(hb:isInt b=true)(h:r<=aH (body b)):r<10^200:=Nat.lt_of_le_of_lt h (sK (eu hb))
def Of {o:Option (List UInt8)}(h:rE o=0):∃s,o=some s:=by cases o with|none=>simp[rE]at h|some s=>exact⟨s,rfl⟩
def Xc {o:Option (List UInt8)}(h:¬rE o=0):o=none:=by cases o with|none=>rfl|some s=>simp[rE]at h
def qi {r:Nat}(h:(isInt a&&isInt b)=true)(h0:0<aH (body b))(hq:bO ng q=aj a/aj b)(hr:(r:Int)=aj a%aj b)(hl:r<=aH (body b))(hE:rE (bc (bO ng q))=0):
 Value.tuple #[S (rS (bc (bO ng q))),S (rS (bc (bO false r))),.int .i64 0]=vT (dm a b):=by
 rw[lz h h0,TI (lA (g5 h) hl) hr,<-hq]
 obtain⟨s,hs⟩:=Of hE
 rw[hs];rfl
def qp (h:(isInt a&&isInt b)=true)(h0:0<aH (body b))(hq:bO ng q=aj a/aj b)(hE:¬rE (bc (bO ng q))=0):
 Value.tuple #[S [],S [],.int .i64 (rE (bc (bO ng q)))]=vT (dm a b):=by
 rw[lz h h0,<-hq,Xc hE];rfl
def Og (ha:isInt a=true)(hb:isInt b=true):aH (body a)*aH (body b)<10000^100:=by
 have h1:=ew ha
 have h2:=ew hb
 have:(10000:Nat)^100=10000^50*10000^50:=by rw[<-Nat.pow_add]
 rw[this]
 exact Nat.mul_lt_mul'' h1 h2
def xZ (lo:Nat)(ng:Bool)(a:Nat)(v:Value)(w:World):Prop:=∃A n c,v=.agg #[.bool ng,.slice A n c]/\ee w lo A n c a
def xZ.ext {a:Nat}{v:Value}(k:aP w w')(h:xZ lo ng a v w):xZ lo ng a v w':=by
 obtain⟨A,n,c,hv,E⟩:=h
 exact⟨A,n,c,hv,E.ext k⟩
def x5 (a b:List UInt8)(w:World)(ht:Tb w):
 CL 186 #[S a,S b] w (aI w λv w'=>v=iC (xQ a b)):=by
 by_cases H:(isInt a&&isInt b)=true;have Af:=ig H;have hb:=g5 H;refine aE func186 Z (I ?_);refine cl kE (lx _ _ _ Af hb) ?_;rintro _ _ B2 ⟨A1,CB,c1,A2,n2,c2,rfl,h1,h2⟩;have E:=B2.2;have Cr:=cM h1 (ew Af);have CG:=cM h2 (ew hb);have As:=h1.hi;have Av:=h2.hi;refine I ?_;refine al bG (λ_ Am Ab=>?_);have h1:=aa6 Am.2 h1;have h2:=aa6 Am.2 h2;have E:=xt E Am.2;refine al bG (λ_ A0 Ap=>?_);have h1:=aa6 A0.2 h1;have h2:=aa6 A0.2 h2;have⟨Ab,E⟩:=bn A0.2 Ab E;refine SA Ab (λ_ Aq Aw=>?_);have h1:=ac0 Aq (λO e=>by have:=As O e;omega) h1;have h2:=ac0 Aq (λO e=>by have:=Av O e;omega) h2;have⟨Ap,E,_⟩:=ku Aq Ap E;refine SA Ap (λ_ W _=>?_);have h1:=ac0 W (λO e=>by have:=As O e;omega) h1;have h2:=ac0 W (λO e=>by have:=Av O e;omega) h2;have Aw:=pb W Aw;have E:=bh W E;refine I ?_;refine clb QO (hc:=zP h1 U h2 U) (hk:=?_);rintro _ _ Ay ⟨ng,r,A,n,c,rfl,hr,hs⟩;have E:=xt E Ay.2;rw[mT,mT]at hs;have CY:=cM hr (sum_lt Af hb hs (by exact Or.inl Z));refine clb mj (hc:=fH hr U (ht.ext E)) (hk:=?_);rintro _ _ B1 rfl;have E:=xt E B1.2;refine I ?_
 exact bw (t:=4) (u:=5) (v1:=S (rS (bc (bO ng r)))) (v2:=.int .i64 (rE (bc (bO ng r)))) Z E (by rw[xU H];exact qb2 (λx=>iC (bc x)) hs) Z Z;have H:=qO H;refine aE func186 Z (I ?_);refine cl kE (mS _ _ _ H) ?_;rintro _ _ wr rfl;have G:=wr.2;refine I ?_;refine al bG (λ_ Az nm=>?_);have G:=xt G Az.2;refine al bG (λ_ B0 Ao=>?_);have⟨nm,G⟩:=bn B0.2 nm G;refine SA nm (λ_ C1 Ax=>?_);have⟨Ao,G,_⟩:=ku C1 Ao G;refine SA Ao (λ_ Ar _=>?_);have Ax:=pb Ar Ax;have G:=bh Ar G;refine I ?_;exact bw (t:=4) (u:=5) (v1:=S []) (v2:=.int .i64 30) Z G (by rw[Oc H];rfl) Z Z
def sQ (a b:List UInt8)(w:World)(ht:Tb w):
 CL 86 #[S a,S b] w (aI w λv w'=>v=iC (aW a b)):=by
 by_cases O:(isInt a&&isInt b)=true;have Ao:=ig O;have hb:=g5 O;refine aE func86 Z (I ?_);refine cl kE (lx _ _ _ Ao hb) ?_;rintro _ _ wr ⟨A1,CG,c1,A2,n2,c2,rfl,h1,h2⟩;have E:=wr.2;have D1:=cM h1 (ew Ao);have CY:=cM h2 (ew hb);have Ar:=h1.hi;have Av:=h2.hi;refine I ?_;refine al bG (λ_ As nm=>?_);have h1:=aa6 As.2 h1;have h2:=aa6 As.2 h2;have E:=xt E As.2;refine al bG (λ_ Af Ap=>?_);have h1:=aa6 Af.2 h1;have h2:=aa6 Af.2 h2;have⟨nm,E⟩:=bn Af.2 nm E;refine SA nm (λ_ Aq A0=>?_);have h1:=ac0 Aq (λG e=>by have:=Ar G e;omega) h1;have h2:=ac0 Aq (λG e=>by have:=Av G e;omega) h2;have⟨Ap,E,_⟩:=ku Aq Ap E;refine SA Ap (λ_ Ab CB=>?_);have h1:=ac0 Ab (λG e=>by have:=Ar G e;omega) h1;have h2:=ac0 Ab (λG e=>by have:=Av G e;omega) h2;have⟨A0,E,_⟩:=ku Ab A0 E;refine I ?_;refine SO CB (λ_ W _=>?_);have h1:=ac0 W (λG e=>by have:=Ar G e;omega) h1;have h2:=ac0 W (λG e=>by have:=Av G e;omega) h2;have A0:=pb W A0;have E:=bh W E;refine I ?_;refine clb QO (hc:=zP h1 U h2 U) (hk:=?_);rintro _ _ Az ⟨ng,r,A,n,c,rfl,hr,hs⟩;have E:=xt E Az.2;rw[mT,EB,mT]at hs;have Cr:=cM hr (sum_lt Ao hb hs (by exact Or.inr Z))
 refine clb mj (hc:=fH hr U (ht.ext E)) (hk:=?_);rintro _ _ B2 rfl;have E:=xt E B2.2;refine I ?_;exact bw (t:=4) (u:=5) (v1:=S (rS (bc (bO ng r)))) (v2:=.int .i64 (rE (bc (bO ng r)))) Z E (by rw[pj O];rw[show aj a-aj b=aj a+-aj b from rfl];exact qb2 (λx=>iC (bc x)) hs) Z Z;have O:=qO O;refine aE func86 Z (I ?_);refine cl kE (mS _ _ _ O) ?_;rintro _ _ B0 rfl;have H:=B0.2;refine I ?_;refine al bG (λ_ B1 Aw=>?_);have H:=xt H B1.2;refine al bG (λ_ C1 Am=>?_);have⟨Aw,H⟩:=bn C1.2 Aw H;refine SA Aw (λ_ od Ax=>?_);have⟨Am,H,_⟩:=ku od Am H;refine SA Am (λ_ Ay _=>?_);have Ax:=pb Ay Ax;have H:=bh Ay H;refine I ?_;exact bw (t:=4) (u:=5) (v1:=S []) (v2:=.int .i64 30) Z H (by rw[xV O];rfl) Z Z
def ED (a b:List UInt8)(w:World)(ht:Tb w):
 CL 85 #[S a,S b] w (aI w λv w'=>v=iC (az a b)):=by
 by_cases H:(isInt a&&isInt b)=true;have Ap:=ig H;have hb:=g5 H;refine aE func85 Z (I ?_);refine cl kE (lx _ _ _ Ap hb) ?_;rintro _ _ E1 ⟨A1,EW,c1,A2,n2,c2,rfl,h1,h2⟩;have E:=E1.2;have GC:=cM h1 (ew Ap);have FR:=cM h2 (ew hb);have B0:=h1.hi;have B1:=h2.hi;refine I ?_;refine al bG (λ_ Ax Ao=>?_);have h1:=aa6 Ax.2 h1;have h2:=aa6 Ax.2 h2;have E:=xt E Ax.2;refine al bG (λ_ Aw Av=>?_);have h1:=aa6 Aw.2 h1;have h2:=aa6 Aw.2 h2;have⟨Ao,E⟩:=bn Aw.2 Ao E;refine SA Ao (λ_ Am Az=>?_);have h1:=ac0 Am (λO e=>by have:=B0 O e;omega) h1;have h2:=ac0 Am (λO e=>by have:=B1 O e;omega) h2;have⟨Av,E,_⟩:=ku Am Av E;refine SA Av (λD1 Ab _=>?_);have h1:=ac0 Ab (λO e=>by have:=B0 O e;omega) h1;have h2:=ac0 Ab (λO e=>by have:=B1 O e;omega) h2;have Az:=pb Ab Az;have E:=bh Ab E;refine I ?_;obtain⟨L,_⟩:∃L,L=D1.heap.size:=⟨_,rfl⟩;refine bH 14 ?_;refine sf ?_;refine aB (λ_ _ _ _=>by refine aa (md (a:=neg a) (b:=neg b) (q:=(!((neg a)==(neg b)))) U4 Z Z Z ?_);refine I ?_;exact aG) ?_;refine sf ?_;refine bC (λv w=>dW L (aH (body a)*aH (body b)) v w) (hs:=λ_ _ _ k h=>h.ext k) (λ_ _ Aq _=>?_) ?_;have h1:=aa6 Aq h1;have h2:=aa6 Aq h2
 refine clb Wk (hc:=Jg h1 U h2 U) (hk:=?_);rintro _ _ CB ⟨Ar,W,A0,rfl,hr⟩;have C1:=CB.2;have hr:=hr.mono (lo':=L) (by have:=bz Aq;omega);refine I ?_;exact fs ⟨C1,⟨Ar,W,A0,rfl,hr⟩⟩;refine bC (λv w=>xZ L (!(neg a==neg b)) (aH (body a)*aH (body b)) v w) (hs:=λ_ _ _ k h=>h.ext k) (λ_ _ _ E4=>?_) ?_;obtain⟨Ar,W,A0,E9,hr⟩:=(E4 9 27 Z Z);refine aa (bR (vs:=[(0,.bool (!((neg a)==(neg b)))),(1,.slice Ar W A0)]) (cells:=#[.bool (!((neg a)==(neg b))),.slice Ar W A0]) (pl:=[(0,1),(1,1)]) kD bG q0 (c6 Z (c6 E9 Z)) q0 ?_);refine I ?_;exact fs ⟨aa1 _,⟨Ar,W,A0,rfl,hr⟩⟩;refine aR (V:=.tuple #[S (rS (bc (bO (!(neg a==neg b)) (aH (body a)*aH (body b))))),.int .i64 (rE (bc (bO (!(neg a==neg b)) (aH (body a)*aH (body b)))))]) (λ_ _ E5 E0=>?_) ?_;obtain⟨_,_,_,E6,hq⟩:=(E0 10 28 Z Z);have G0:=cM hq (Og Ap hb);refine clb mj (hc:=fH hq U (ht.ext (xt E E5))) (hk:=?_) (hv:=au E6 Z);rintro _ _ E7 rfl;have Cr:=E7.2;refine I ?_;exact fs ⟨Cr,rfl⟩;refine sf ?_;intro _ _ nm _;have E:=xt E nm.2;refine I ?_
 exact bw (t:=4) (u:=5) (v1:=S (rS (bc (bO (!(neg a==neg b)) (aH (body a)*aH (body b)))))) (v2:=.int .i64 (rE (bc (bO (!(neg a==neg b)) (aH (body a)*aH (body b)))))) Z E (by rw[gz H,<-mT,<-mT,<-Oe];rfl) Z Z;have H:=qO H;refine aE func85 Z (I ?_);refine cl kE (mS _ _ _ H) ?_;rintro _ _ CG rfl;have G:=CG.2;refine I ?_;refine al bG (λ_ ES As=>?_);have G:=xt G ES.2;refine al bG (λ_ D2 Af=>?_);have⟨As,G⟩:=bn D2.2 As G;refine SA As (λ_ CY B2=>?_);have⟨Af,G,_⟩:=ku CY Af G;refine SA Af (λ_ Ay _=>?_);have B2:=pb Ay B2;have G:=bh Ay G;refine I ?_;exact bw (t:=4) (u:=5) (v1:=S []) (v2:=.int .i64 30) Z G (by rw[Od H];rfl) Z Z
def pm (a b:List UInt8)(w:World):
 CL 64 #[S a,S b] w (aI w λv w'=>v=.int .i64 (dM a b)):=by
 by_cases E:(isInt a&&isInt b)=true;have Ar:=ig E;have hb:=g5 E;refine aE func64 Z (I ?_);refine cl kE (lx _ _ _ Ar hb) ?_;rintro _ _ B2 ⟨A1,CB,c1,A2,n2,c2,rfl,h1,h2⟩;have G:=B2.2;have CY:=cM h1 (ew Ar);have CG:=cM h2 (ew hb);have As:=h1.hi;have Av:=h2.hi;refine I ?_;refine al bG (λ_ nm Af=>?_);have h1:=aa6 nm.2 h1;have h2:=aa6 nm.2 h2;have G:=xt G nm.2;refine al bG (λ_ Am Ap=>?_);have h1:=aa6 Am.2 h1;have h2:=aa6 Am.2 h2;have⟨Af,G⟩:=bn Am.2 Af G;refine SA Af (λ_ A0 Aw=>?_);have h1:=ac0 A0 (λO e=>by have:=As O e;omega) h1;have h2:=ac0 A0 (λO e=>by have:=Av O e;omega) h2;have⟨Ap,G,_⟩:=ku A0 Ap G;refine SA Ap (λ_ W _=>?_);have h1:=ac0 W (λO e=>by have:=As O e;omega) h1;have h2:=ac0 W (λO e=>by have:=Av O e;omega) h2;have Aw:=pb W Aw;have G:=bh W G;refine I ?_;rcases qa4 (neg a)with cx|cx;refine I ?_;rcases qa4 (neg b)with nv|nv;refine I ?_;refine clb zf (hc:=jH h2 U h1) (hk:=?_);rintro _ _ B0 rfl;have G:=xt G B0.2;refine I ?_;exact am (t:=4) (v:=.int .i64 (aO ((aH (body b):Nat):Int) ((aH (body a):Nat):Int))) Z G (qb2 (Value.int .i64) Bx) Z
 refine I ?_;exact am (t:=4) (v:=.int .i64 (-1)) Z G (qb2 (Value.int .i64) Bx) rfl;refine I ?_;rcases qa4 (neg b)with od|od;refine I ?_;exact am (t:=4) (v:=.int .i64 1) Z G (qb2 (Value.int .i64) Bx) rfl;refine I ?_;refine clb zf (hc:=jH h1 U h2) (hk:=?_);rintro _ _ Ay rfl;have G:=xt G Ay.2;refine I ?_;exact am (t:=4) (v:=.int .i64 (aO ((aH (body a):Nat):Int) ((aH (body b):Nat):Int))) Z G (qb2 (Value.int .i64) Bx) rfl;have E:=qO E;refine aE func64 Z (I ?_);refine cl kE (mS _ _ _ E) ?_;rintro _ _ B1 rfl;have H:=B1.2;refine I ?_;refine al bG (λ_ Az Ao=>?_);have H:=xt H Az.2;refine al bG (λ_ Aq Ab=>?_);have Ao:=be Aq.2 Ao;have H:=xt H Aq.2
 refine SA Ao (λ_ C1 wr=>?_);have⟨Ab,H,_⟩:=ku C1 Ab H;refine SA Ab (λ_ Ax _=>?_);have wr:=pb Ax wr;have H:=bh Ax H;refine I ?_;exact am (t:=4) (v:=.int .i64 0) Z H (by rw[xX E]) Z
def j5 (h:p:=by kernel_rfl):p:=h
def dY (h:p:=by assumption):p:=h
def Oh (h:Rw w lo A [Value.int .i64 1]):ee w lo A 1 1 1:=by
 have e:ap 10000 1=[1]:=by decide
 exact⟨by rw[e];exact h,by rw[e];rfl,qa0 _⟩
def YB (h0:0<aH (body b))(hc:neg a=false\/aH (body a)%aH (body b)=0):bO (!(neg a==neg b)) (aH (body a)/aH (body b))=aj a/aj b/\((aH (body a)%aH (body b):Nat):Int)=aj a%aj b:=
 GA h0 hc
def Z8 (h0:0<aH (body b))(ha:neg a=true)(hr:0<aH (body a)%aH (body b)):bO (!(neg a==neg b)) (aH (body a)/aH (body b)+1)=aj a/aj b/\((aH (body b)-aH (body a)%aH (body b):Nat):Int)=aj a%aj b:=by
 have:=GB (ny:=neg b) h0 hr
 rw[<-ha]at this
 exact this
def zU {a b:Nat}(h:a<10000^50):a/b<10000^50:=Nat.lt_of_le_of_lt (Nat.div_le_self a b) h
def GD {a:Nat}(h:a<10000^50):a+1<10000^51:=by
 have:(10000:Nat)^51=10000^50*10000:=by rw[<-Nat.pow_succ]
 generalize (10000:Nat)^50=M at *
 omega
def zV {x y G:Nat}(h:Nat.gcd x y=G):Nat.gcd y (x%y)=G:=by rw[Nat.gcd_comm,<-Nat.gcd_rec,Nat.gcd_comm];exact h
def TJ :
 CL 122 #[] w (aI w λv w'=>∃A n c,v=.slice A n c/\ee w' w.heap.size A n c 1):=by
 refine aE func122 Z (I ?_);refine BS (λ_ E _ G=>?_);have H:=E;refine I ?_;exact am (t:=0) (v:=.slice (some ⟨w.heap.size,0,none⟩) 1 1) Z H ⟨_,_,_,rfl,Oh (aa7 G)⟩ Z
def j6 (a b:List UInt8)(w:World)(ht:Tb w):
 CL 63 #[S a,S b] w (aI w λv w'=>v=vT (dm a b)):=by
 by_cases O:(isInt a&&isInt b)=true;have Ay:=ig O;have hb:=g5 O;refine aE func63 Z (I ?_);refine cl kE (lx _ _ _ Ay hb) ?_;rintro _ _ Li ⟨A1,P2,c1,A2,n2,c2,rfl,h1,h2⟩;have E:=Li.2;have S9:=cM h1 (ew Ay);have Q0:=cM h2 (ew hb);have G0:=h1.hi;have H2:=h2.hi;refine I ?_;refine al bG (λ_ CB B2=>?_);have h1:=aa6 CB.2 h1;have h2:=aa6 CB.2 h2;have E:=xt E CB.2;refine al bG (λ_ CG CY=>?_);have h1:=aa6 CG.2 h1;have h2:=aa6 CG.2 h2;have⟨B2,E⟩:=bn CG.2 B2 E;refine SA B2 (λ_ B1 Av=>?_);have h1:=ac0 B1 (λAb e=>by have:=G0 Ab e;omega) h1;have h2:=ac0 B1 (λAb e=>by have:=H2 Ab e;omega) h2;have⟨CY,E,_⟩:=ku B1 CY E;refine SA CY (λ_ Aw Az=>?_);have h1:=ac0 Aw (λAb e=>by have:=G0 Ab e;omega) h1;have h2:=ac0 Aw (λAb e=>by have:=H2 Ab e;omega) h2;have Av:=pb Aw Av;have E:=bh Aw E;refine I ?_;by_cases aoz:(n2:Int)=0;have G:aH (body b)=0:=jq (B:=10000) U (h2.len.trans U);refine I ?_;exact fq (t:=4) (u:=5) (s:=6) (v1:=S []) (v2:=S []) (v3:=.int .i64 30) Z E Rd Z Z Z;have G:0<aH (body b):=mz (B:=10000) U kc9;refine I ?_
 refine clb DX (hc:=sJ h1 U h2 U G) (hk:=?_);rintro _ KM ES ⟨Aq,T3,T2,Ar,Ao,B0,rfl,hq,hr⟩;have h2:=aa6 ES.2 h2;have⟨Av,Az,E⟩:=cj ES.2 Av Az E;have Ne:=cM hq (zU (ew Ay));have VW:=cM hr (Nat.lt_trans (Nat.mod_lt _ G) (ew hb));refine I ?_;rcases qa4 (neg a)with ly|ly;refine I ?_;by_cases ao0:0<(Ao:Int);have C1:0<aH (body a)%aH (body b):=mz (B:=10000) U (by rw[hr.len];omega);have H:=Z8 G ly C1;have W:aH (body b)-aH (body a)%aH (body b)<=aH (body b):=Nat.sub_le _ _;refine I ?_;obtain⟨L,_⟩:∃L,L=KM.heap.size:=⟨_,rfl⟩;have EW:aH (body a)%aH (body b)<=aH (body b):=Nat.le_of_lt (Nat.mod_lt _ G);have L4:Ao<=n2:=by rw[<-hr.len,<-h2.len];exact ep U EW
 have l1':=Ne;refine bH 7 ?_;refine sf ?_;refine bC (λv w=>dW L 1 v w) (hs:=λ_ _ _ k h=>h.ext k) (λ_ _ Lk _=>?_) ?_;refine cl V6 TJ ?_;rintro _ _ L2 ⟨A1c,E7,E0,rfl,As⟩;have KY:=L2.2;have As:=As.mono (lo':=L) (by have:=bz Lk;omega);refine I ?_;exact fs ⟨KY,⟨A1c,E7,E0,rfl,As⟩⟩;refine bC (λv w=>dW L (aH (body a)/aH (body b)+1) v w) (hs:=λ_ _ _ k h=>h.ext k) (λ_ _ E9 K3=>?_) ?_;obtain⟨A1c,E7,E0,N0,As⟩:=(K3 1 47 Z Z);have S0:=cM (k:=1) As dc;have hq:=aa6 E9 hq;refine clb ze (hc:=o5 hq U As U) (hk:=?_) (hv:=au Z (au N0 Z));rintro _ _ od ⟨Ap,FR,E4,rfl,Af⟩;have P0:=od.2;have Af:=Af.mono (lo':=L) (by have:=bz E9;omega);refine I ?_;exact fs ⟨P0,⟨Ap,FR,E4,rfl,Af⟩⟩;refine sf ?_;refine bC (λv w=>dW L (aH (body b)-aH (body a)%aH (body b)) v w) (hs:=λ_ _ _ k h=>h.ext k) (λ_ _ D1 _=>?_) ?_;have h2:=aa6 D1 h2;have hr:=aa6 D1 hr;refine clb DY (hc:=o6 h2 U hr U EW L4) (hk:=?_);rintro _ _ Kp ⟨Am,nm,Ax,rfl,hm⟩;have L3:=Kp.2;have hm:=hm.mono (lo':=L) (by have:=bz D1;omega);refine I ?_;exact fs ⟨L3,⟨Am,nm,Ax,rfl,hm⟩⟩;refine sf ?_;intro _ _ wr E1;have⟨Av,Az,E⟩:=cj wr.2 Av Az E;obtain⟨Ap,FR,E4,_,Af⟩:=(E1 2 48 Z Z);obtain⟨Am,nm,Ax,_,hm⟩:=(E1 6 52 Z Z);refine I ?_
 have Rm:=cM Af (GD (zU (ew Ay)));have P1:=cM hm (Nat.lt_of_le_of_lt (Nat.sub_le _ _) (ew hb));refine I ?_;refine aa (md (a:=neg a) (b:=neg b) (q:=(!((neg a)==(neg b)))) U4 Z Z Z ?_);refine I ?_;refine clb mj (hc:=fH Af U (ht.ext E)) (hk:=?_);rintro _ _ GC rfl;have hm:=aa6 GC.2 hm;have E:=xt E GC.2;refine I ?_;by_cases ao2:(rE (bc (bO (!((neg a)==(neg b))) (aH (body a)/aH (body b)+1))))=0;refine I ?_;refine aa (bR (vs:=[(1,.slice Am nm Ax)]) (cells:=#[.bool false,.slice Am nm Ax]) (pl:=[(0,1),(1,1)]) kD bG j5 Z j5 ?_);refine clb mj (hc:=fH hm U (ht.ext E)) (hk:=?_);rintro _ _ No rfl;have E:=xt E No.2;refine I ?_;exact fq (t:=4) (u:=5) (s:=6) (v1:=S (rS (bc (bO (!((neg a)==(neg b))) (aH (body a)/aH (body b)+1))))) (v2:=S (rS (bc (bO false (aH (body b)-aH (body a)%aH (body b)))))) (v3:=.int .i64 0) Z E Rd Z Z Z;refine I ?_
 exact fq (t:=4) (u:=5) (s:=6) (v1:=S []) (v2:=S []) (v3:=.int .i64 (rE (bc (bO (!((neg a)==(neg b))) (aH (body a)/aH (body b)+1))))) Z E Rd Z Z Z;have C1:aH (body a)%aH (body b)=0:=jq (B:=10000) U (hr.len.trans U);have H:=YB (a:=a) G (Or.inr C1);have W:aH (body a)%aH (body b)<=aH (body b):=Nat.le_of_lt (Nat.mod_lt _ G);refine I ?_;refine aa (md (a:=neg a) (b:=neg b) (q:=(!((neg a)==(neg b)))) U4 Z Z Z ?_);refine I ?_;refine clb mj (hc:=fH hq U (ht.ext E)) (hk:=?_);rintro _ _ E6 rfl;have hr:=aa6 E6.2 hr;have E:=xt E E6.2;refine I ?_;by_cases ao3:(rE (bc (bO (!((neg a)==(neg b))) (aH (body a)/aH (body b)))))=0;refine I ?_;refine aa (bR (vs:=[(1,.slice Ar Ao B0)]) (cells:=#[.bool false,.slice Ar Ao B0]) (pl:=[(0,1),(1,1)]) kD bG j5 Z j5 ?_);refine clb mj (hc:=fH hr U (ht.ext E)) (hk:=?_);rintro _ _ Ix rfl;have E:=xt E Ix.2;refine I ?_
 exact fq (t:=4) (u:=5) (s:=6) (v1:=S (rS (bc (bO (!((neg a)==(neg b))) (aH (body a)/aH (body b)))))) (v2:=S (rS (bc (bO false (aH (body a)%aH (body b)))))) (v3:=.int .i64 0) Z E Rd Z Z Z;refine I ?_;exact fq (t:=4) (u:=5) (s:=6) (v1:=S []) (v2:=S []) (v3:=.int .i64 (rE (bc (bO (!((neg a)==(neg b))) (aH (body a)/aH (body b)))))) Z E Rd Z Z Z;have H:=YB G (Or.inl ly);have W:aH (body a)%aH (body b)<=aH (body b):=Nat.le_of_lt (Nat.mod_lt _ G);refine I ?_;refine aa (md (a:=neg a) (b:=neg b) (q:=(!((neg a)==(neg b)))) U4 Z Z Z ?_);refine I ?_;refine clb mj (hc:=fH hq U (ht.ext E)) (hk:=?_);rintro _ _ E5 rfl;have hr:=aa6 E5.2 hr;have E:=xt E E5.2;refine I ?_;by_cases ao4:(rE (bc (bO (!((neg a)==(neg b))) (aH (body a)/aH (body b)))))=0;refine I ?_;refine aa (bR (vs:=[(1,.slice Ar Ao B0)]) (cells:=#[.bool false,.slice Ar Ao B0]) (pl:=[(0,1),(1,1)]) kD bG j5 Z j5 ?_);refine clb mj (hc:=fH hr U (ht.ext E)) (hk:=?_);rintro _ _ La rfl;have E:=xt E La.2;refine I ?_
 exact fq (t:=4) (u:=5) (s:=6) (v1:=S (rS (bc (bO (!((neg a)==(neg b))) (aH (body a)/aH (body b)))))) (v2:=S (rS (bc (bO false (aH (body a)%aH (body b)))))) (v3:=.int .i64 0) Z E Rd Z Z Z;refine I ?_;exact fq (t:=4) (u:=5) (s:=6) (v1:=S []) (v2:=S []) (v3:=.int .i64 (rE (bc (bO (!((neg a)==(neg b))) (aH (body a)/aH (body b)))))) Z E Rd Z Z Z;have O:=qO O;refine aE func63 Z (I ?_);refine cl kE (mS _ _ _ O) ?_;rintro _ _ Lj rfl;have A0:=Lj.2;refine I ?_;refine al bG (λ_ KC Cr=>?_);have A0:=xt A0 KC.2;refine al bG (λ_ K2 D2=>?_);have⟨Cr,A0⟩:=bn K2.2 Cr A0;refine SA Cr (λ_ L1 H3=>?_);have⟨D2,A0,_⟩:=ku L1 D2 A0;refine SA D2 (λ_ H4 _=>?_);have H3:=pb H4 H3;have A0:=bh H4 A0;refine I ?_;exact fq (t:=4) (u:=5) (s:=6) (v1:=S []) (v2:=S []) (v3:=.int .i64 30) Z A0 (by rw[xY O];rfl) Z Z Z
def x6 (a b:List UInt8)(w:World)(ht:Tb w):
 CL 87 #[S a,S b] w (aI w λv w'=>v=iC (bQ a b)):=by
 by_cases A0:(isInt a&&isInt b)=true;have D1:=ig A0;have hb:=g5 A0;refine aE func87 Z (I ?_);refine cl kE (lx _ _ _ D1 hb) ?_;rintro _ H2 E7 ⟨A1,Cr,c1,A2,n2,c2,rfl,h1,h2⟩;have E:=E7.2;have H4:=cM h1 (ew D1);have E6:=cM h2 (ew hb);have E1:=h1.hi;have E4:=h2.hi;refine I ?_;refine al bG (λEW CB B1=>?_);have h1:=aa6 CB.2 h1;have h2:=aa6 CB.2 h2;have E:=xt E CB.2;refine al bG (λ_ CY C1=>?_);have h1:=aa6 CY.2 h1;have h2:=aa6 CY.2 h2;have⟨B1,E⟩:=bn CY.2 B1 E;refine SA B1 (λ_ Aw H=>?_);have h1:=ac0 Aw (λAb e=>by have:=E1 Ab e;omega) h1;have h2:=ac0 Aw (λAb e=>by have:=E4 Ab e;omega) h2;have⟨C1,E,_⟩:=ku Aw C1 E;refine SA C1 (λ_ As Af=>?_);have h1:=ac0 As (λAb e=>by have:=E1 Ab e;omega) h1;have h2:=ac0 As (λAb e=>by have:=E4 Ab e;omega) h2;have H:=pb As H;have E:=bh As E;refine I ?_;refine bH 5 ?_;refine sf ?_;intro _ _ CG _;have h1:=aa6 CG.2 h1;have h2:=aa6 CG.2 h2;have⟨H,Af,E⟩:=cj CG.2 H Af E;refine I ?_
 refine cg [(9,12),(26,36)] (λGC e W=>∃Ax:Option Addr,∃nx:Nat,∃Ao:Nat,∃x:Nat,∃Ay:Option Addr,∃ny:Nat,∃Ap:Nat,∃y:Nat,(y=GC)/\(e 9=.slice Ax nx Ao)/\(e 10=.slice Ay ny Ap)/\(nx<=50)/\(ny<=50)/\(Nat.gcd x y=Nat.gcd (aH (body a)) (aH (body b)))/\(aP w W)/\(ao W H2.heap.size 161 #[.bool (neg a),.slice A1 Cr c1])/\(ao W EW.heap.size 161 #[.bool (neg b),.slice A2 n2 c2])/\(ee W w.heap.size Ax nx Ao x)/\(ee W w.heap.size Ay ny Ap y)) (aH (body b)) ⟨A1,Cr,c1,aH (body a),A2,n2,c2,aH (body b),rfl,rfl,rfl,H4,E6,rfl,E,H,Af,h1,h2⟩ ?_;rintro _ _ _ ⟨Ax,nx,Ao,x,Ay,ny,Ap,y,rfl,KM,KC,K3,ES,Az,O,H,Af,hx,hy⟩;have KY:=bz O;by_cases hm:0<ny;have Am:0<y:=mz (B:=10000) U (by rw[hy.len];omega);refine I ?_;refine clb DX (hc:=sJ hx U hy U Am) (hk:=?_);rintro _ _ B0 ⟨Aq,K2,Kp,Ar,H3,Ix,rfl,hq,hr⟩;have⟨H,Af⟩:=gg B0.2 H Af;have hy:=aa6 B0.2 hy;have O:=xt O B0.2;refine I ?_;exact bJ (hk:=by exact Nat.mod_lt _ Am) ⟨Ay,ny,Ap,y,Ar,H3,Ix,x%y,rfl,rfl,rfl,U,(by rw[<-hr.len];exact qa8 (ep U (Nat.le_of_lt (Nat.mod_lt _ Am))) (by rw[hy.len];exact ES)),(zV Az),O,H,Af,hy,(hr.mono U)⟩;have Am:y=0:=jq (B:=10000) U (hy.len.trans U);rw[Am,Nat.gcd_zero_right]at Az;refine I ?_
 refine aa (bR (vs:=[(1,.slice Ax nx Ao)]) (cells:=#[.bool false,.slice Ax nx Ao]) (pl:=[(0,1),(1,1)]) kD bG j5 Z j5 ?_);refine clb mj (hc:=fH hx U (ht.ext O)) (hk:=?_);rintro _ _ od rfl;have O:=xt O od.2;refine I ?_;exact bw (t:=4) (u:=5) (v1:=S (rS (bc (bO false x)))) (v2:=.int .i64 (rE (bc (bO false x)))) Z O (by rw[EC A0,<-Az];rfl) Z Z;have A0:=qO A0;refine aE func87 Z (I ?_);refine cl kE (mS _ _ _ A0) ?_;rintro _ _ FR rfl;have G:=FR.2;refine I ?_;refine al bG (λ_ E9 B2=>?_);have G:=xt G E9.2;refine al bG (λ_ G0 Av=>?_);have⟨B2,G⟩:=bn G0.2 B2 G;refine SA B2 (λ_ E5 E0=>?_);have⟨Av,G,_⟩:=ku E5 Av G;refine SA Av (λ_ D2 _=>?_);have E0:=pb D2 E0;have G:=bh D2 G;refine I ?_;exact bw (t:=4) (u:=5) (v1:=S []) (v2:=.int .i64 30) Z G (by rw[xW A0];rfl) Z Z
end Go.Proofs.YtlmihmlnpjkblaaGreatDoor
namespace Go.Eng
abbrev R:=List UInt8×List UInt8
def bL (a:R):Bool:=isInt a.1&&isInt a.2&& !decide (dM a.2 [48]<=0)&&decide (bQ a.1 a.2=some [49])
def qc (n d:Int):Int:=(if d<0 then -n else n)/((Int.gcd n d:Nat):Int)
def dh (n d:Int):Int:=(if d<0 then -d else d)/((Int.gcd n d:Nat):Int)
def ii (n d:Int):Option R:=if d=0 then none else some (ae (qc n d),ae (dh n d))
def ij (n d:Int):Option R:=if fits n&&fits d then ii n d else none
def qr (a b:R):Option R:=if bL a&&bL b then ij (aj a.1*aj b.1) (aj a.2*aj b.2)else none
def mB (a b:R):Option R:=if bL a&&bL b then ij (aj a.1*aj b.2) (aj a.2*aj b.1)else none
def jL (a b:R):Option R:=if bL a&&bL b then(if fits (aj a.1*aj b.2)&&fits (aj b.1*aj a.2)then ij (aj a.1*aj b.2+aj b.1*aj a.2) (aj a.2*aj b.2)else none)else none
def dx (a b:R):Option R:=if bL a&&bL b then(if fits (aj a.1*aj b.2)&&fits (aj b.1*aj a.2)then ij (aj a.1*aj b.2-aj b.1*aj a.2) (aj a.2*aj b.2)else none)else none
def rN (o:Option R):List UInt8:=(o.map (·.1)).getD []
def rD (o:Option R):List UInt8:=(o.map (·.2)).getD []
def TK (o:Option R):Int:=if o.isSome then 0 else 40
end Go.Eng
namespace Go.Proofs.YtlmihmlnpjkblaaGreatDoor
variable {bad:Bool}{x y s n d:List UInt8}{b g lo i g0:Nat}{A:Option Addr}{w:World}
set_option maxRecDepth 100000
open Go Go.Eng Go.RowKit Tryz
attribute [local irreducible] wpListIn Code.wpIn Oper.wpIn Exit.then Exit.inBlock Exit.noGoto
set_option maxHeartbeats 40000000
def ah {p:Prop}(h:p:=by assumption):p:=h
def ui (h:isInt x=false):Value.bool false=.bool (bL (x,y)):=by simp[bL,h]
def uj (h:isInt y=false):Value.bool false=.bool (bL (x,y)):=by simp[bL,h]
def uk (h:dM y [48]<=0):Value.bool false=.bool (bL (x,y)):=by simp[bL,h]
def Jy {o:Option (List UInt8)}:(rE o=0/\rS o=s)↔o=some s:=by
 cases o with
 |none=>simp[rE]
 |some t=>simp[rE,rS]
def ul (h1:isInt x=true)(h2:isInt y=true)(h3:¬dM y [48]<=0)(h4:rE (bQ x y)=0):Value.bool (decide (rS (bQ x y)=[49]))=.bool (bL (x,y)):=by
 have:(bQ x y=some [49])↔(rS (bQ x y)=[49]):=by rw[<-Jy];simp[h4]
 simp[bL,h1,h2,h3,this]
def um (h1:isInt x=true)(h2:isInt y=true)(h3:¬dM y [48]<=0)(h4:¬rE (bQ x y)=0):Value.bool false=.bool (bL (x,y)):=by
 have:¬(bQ x y=some [49]):=by rw[<-Jy];simp[h4]
 simp[bL,this]
def dB (bad:Bool)(o:Option (List UInt8)):Bool:=bad||o.isNone
def dS (bad:Bool)(o:Option (List UInt8)):List UInt8:=if bad then[]else rS o
def Z9 (g:Nat)(x y:List UInt8)(o:Option (List UInt8)):Prop:=∀W,Tb W->CL g #[S x,S y] W (aI W λv _=>v=iC o)
def Ze (o:Option (List UInt8)):dB false o= !decide (rE o=0):=by cases o <;>rfl
def Rb {o:Option (List UInt8)}(h:bad=true):dB bad o=bad:=by subst h;rfl
def Rc {o:Option (List UInt8)}(h:bad=false):dB bad o= !decide (rE o=0):=by subst h;exact Ze o
def gT (o:Option R):Value:=.tuple #[.agg #[S (rN o),S (rD o)],.int .i64 (TK o)]
def zX (bad:Bool)(n d:List UInt8):Option R:=
 if dB (dB (dB bad (bQ n d)) ((dm n (dS bad (bQ n d))).map (·.1))) ((dm d (dS bad (bQ n d))).map (·.1))=true then none
 else some (dS (dB bad (bQ n d)) ((dm n (dS bad (bQ n d))).map (·.1)),dS (dB (dB bad (bQ n d)) ((dm n (dS bad (bQ n d))).map (·.1))) ((dm d (dS bad (bQ n d))).map (·.1)))
def g6 (bad:Bool)(n d:List UInt8):Option R:=
 if bad=true\/d=[48]then none
 else if dM d [48]<0 then zX (dB (dB bad (aW [48] n)) (aW [48] d)) (dS bad (aW [48] n)) (dS (dB bad (aW [48] n)) (aW [48] d))
 else zX bad n d
def oh (h:bad=true):g6 bad n d=none:=if_pos (Or.inl h)
def oi (h:d=[48]):g6 bad n d=none:=if_pos (Or.inr h)
def iD (h1:bad=false)(h2:¬d=[48])(h3:dM d [48]<0):g6 bad n d=zX (dB (dB bad (aW [48] n)) (aW [48] d)) (dS bad (aW [48] n)) (dS (dB bad (aW [48] n)) (aW [48] d)):=by
 unfold g6;rw[if_neg (by rw[h1];simp[h2]),if_pos h3]
def iE (h1:bad=false)(h2:¬d=[48])(h3:¬dM d [48]<0):g6 bad n d=zX bad n d:=by
 unfold g6;rw[if_neg (by rw[h1];simp[h2]),if_neg h3]
def jg (h:dB (dB (dB bad (bQ n d)) ((dm n (dS bad (bQ n d))).map (·.1))) ((dm d (dS bad (bQ n d))).map (·.1))=true):zX bad n d=none:=if_pos h
def jh (h:dB (dB (dB bad (bQ n d)) ((dm n (dS bad (bQ n d))).map (·.1))) ((dm d (dS bad (bQ n d))).map (·.1))=false):zX bad n d=some (dS (dB bad (bQ n d)) ((dm n (dS bad (bQ n d))).map (·.1)),dS (dB (dB bad (bQ n d)) ((dm n (dS bad (bQ n d))).map (·.1))) ((dm d (dS bad (bQ n d))).map (·.1))):=if_neg (by rw[h];simp)
def dU (x y:List UInt8)(w:World)(ht:Tb w):
 CL 62 #[.agg #[S x,S y]] w (aI w λv w'=>v=.bool (bL (x,y))):=by
 refine aE func62 Z (I ?_);refine bx (λ_ Ab G=>?_);have E:=Ab.2;refine I ?_;rcases qa4 (isInt x)with cr|cr;rcases qa4 (isInt y)with cv|cv;refine I ?_;refine cl tv (iB x _) ?_;rintro _ _ A0 rfl;have⟨G,E⟩:=bn A0.2 G E;refine I ?_;refine cl tv (iB y _) ?_;rintro _ _ O rfl;have⟨G,E⟩:=bn O.2 G E;refine I ?_;refine cl xr (pm y [48] _) ?_;rintro _ _ W rfl;have⟨G,E⟩:=bn W.2 G E;refine I ?_;by_cases fy:(dM y [48])<=0;refine I ?_;exact am (t:=2) (v:=.bool false) Z E RK Z;refine I ?_;refine cl If (x6 x y _ (ht.ext E)) ?_;rintro _ _ H rfl;have E:=xt E H.2;refine I ?_;by_cases cw:(rE (bQ x y))=0;refine I ?_;refine sh (b:=[49]) (I ?_);exact am (t:=2) (v:=.bool (decide ((rS (bQ x y))=([49])))) Z E RK Z
 refine I ?_;exact am (t:=2) (v:=.bool false) Z E RK Z;refine I ?_;refine cl tv (iB x _) ?_;rintro _ _ Af rfl;have⟨G,E⟩:=bn Af.2 G E;refine I ?_;refine cl tv (iB y _) ?_;rintro _ _ A1 rfl;have E:=xt E A1.2;refine I ?_;exact am (t:=2) (v:=.bool false) Z E RK Z;refine I ?_;refine cl tv (iB x _) ?_;rintro _ _ A2 rfl;have E:=xt E A2.2;refine I ?_;exact am (t:=2) (v:=.bool false) Z E RK Z
def Oi (x y:List UInt8)(w:World)(ht:Tb w):
 CL 143 #[S x,S y] w (aI w λv w'=>v=iC ((dm x y).map (·.1))):=by
 refine aE func143 Z (I ?_);refine cl za (j6 x y _ (ht.ext (aa1 _))) ?_;rintro _ _ E rfl;have G:=E.2;refine I ?_;exact bw (t:=4) (u:=5) (v1:=S (rS ((dm x y).map (·.1)))) (v2:=.int .i64 (if(dm x y).isSome then 0 else 30)) Z G (by cases dm x y <;>rfl) Z Z
def rJ (hB:ao w b 75 #[.bool bad])(ht:Tb w){o:Option (List UInt8)}(heg:Enters prog g)(hop:Z9 g x y o):
 CL 84 #[pT b,.func (.func g) #[] #[],S x,S y] w (kn λv w'=>w.grownBy w' (some b)/\ao w' b 75 #[.bool (dB bad o)]/\v=S (dS bad o)):=by
 have G:=World.grownBy.refl w (some b);refine zt func84 Z (I ?_);rcases qa4 bad with cm|cm;refine I ?_;refine gY (v:=S []) (bY  rfl ?_) ⟨G,(by first|(rw[Rb ah];exact hB)|(rw[Rc ah];exact hB)),(by simp[dS, *])⟩;exact aM (t:=8) WD _;refine I ?_;refine aa (lV (vs:=[S x,S y]) (lb:=[]) heg Z Z (hop _ ht) ?_);rintro _ _ E rfl;have E:=E.2;have hB:=be E hB;have G:=lk G E;refine I ?_;refine SO hB (λ_ O H=>?_);have G:=Ce G O;refine I ?_;refine gY (v:=S (rS o)) (bY  rfl ?_) ⟨G,(by first|(rw[Rb ah];exact H)|(rw[Rc ah];exact H)),(by simp[dS, *])⟩;exact aM (t:=8) WD _
def mC (hB:ao w b 75 #[.bool bad])(ht:Tb w)(x y:List UInt8):
 CL 36 #[pT b,S x,S y] w (kn λv w'=>w.grownBy w' (some b)/\ao w' b 75 #[.bool (dB bad (az x y))]/\v=S (dS bad (az x y))):=by
 have G:=World.grownBy.refl w (some b);refine zt func36 Z (I ?_);refine aa (bK (vs:=[pT b,.func (.func 85) #[] #[],S x,S y]) ru Z (rJ (o:=az x y) hB ht QP (λW hW=>ED _ _ W hW)) ?_);rintro _ _ ⟨E,H,rfl⟩;have G:=gq G E;refine I ?_;refine gY (v:=S (dS bad (az x y))) (bY  rfl ?_) ⟨G,H,rfl⟩;exact aM (t:=6) WD _
def sR (hB:ao w b 75 #[.bool bad])(ht:Tb w)(x y:List UInt8):
 CL 88 #[pT b,S x,S y] w (kn λv w'=>w.grownBy w' (some b)/\ao w' b 75 #[.bool (dB bad ((dm x y).map (·.1)))]/\v=S (dS bad ((dm x y).map (·.1)))):=by
 have G:=World.grownBy.refl w (some b);refine zt func88 Z (I ?_);refine aa (bK (vs:=[pT b,.func (.func 143) #[] #[],S x,S y]) ru Z (rJ (o:=(dm x y).map (·.1)) hB ht Wl (λW hW=>Oi _ _ W hW)) ?_);rintro _ _ ⟨E,H,rfl⟩;have G:=gq G E;refine I ?_;refine gY (v:=S (dS bad ((dm x y).map (·.1)))) (bY  rfl ?_) ⟨G,H,rfl⟩;exact aM (t:=6) WD _
def x7 (hB:ao w b 75 #[.bool bad])(ht:Tb w)(x y:List UInt8):
 CL 37 #[pT b,S x,S y] w (kn λv w'=>w.grownBy w' (some b)/\(∃q,ao w' b 75 #[.bool q])/\v=gT (g6 bad x y)):=by
 have G:=World.grownBy.refl w (some b);have K2:=bt hB;refine zt func37 Z (I ?_);refine al aY (λ_ Av E=>?_);have hB:=be Av.2 hB;have ht:=ab6 Av.2 ht;have G:=lk G Av.2;refine I ?_;rcases qa4 bad with cv|cv;refine I ?_;refine SA E (λ_ B2 E7=>?_);have hB:=pb B2 hB;have G:=jp G B2 U;refine I ?_;refine gY (v:=.tuple #[.agg #[S [],S []],.int .i64 40]) (cQ (r1:=.cell 6 33) (r2:=.tmp 7) Z ?_ ?_) ⟨G,⟨_,hB⟩,Vc⟩;refine ai (t:=6) (cs:=[S [],S []]) (b:=w.heap.size) (o:=0) iO Z bV ?_ ?_;exact Z;exact aa0 E7 (i:=0) Z;exact aM (t:=7) WD _;refine I ?_;refine sh (b:=[48]) (I ?_);by_cases wz:y=([48]);refine I ?_;refine SA E (λ_ Ay E5=>?_);have hB:=pb Ay hB;have G:=jp G Ay U;refine I ?_;refine gY (v:=.tuple #[.agg #[S [],S []],.int .i64 40]) (cQ (r1:=.cell 6 33) (r2:=.tmp 7) Z ?_ ?_) ⟨G,⟨_,hB⟩,Vc⟩
 refine ai (t:=6) (cs:=[S [],S []]) (b:=w.heap.size) (o:=0) iO Z bV ?_ ?_;exact Z;exact aa0 E5 (i:=0) Z;exact aM (t:=7) WD _;refine I ?_;refine cl xr (pm y [48] _) ?_;rintro _ _ Ab rfl;have hB:=be Ab.2 hB;have ht:=ab6 Ab.2 ht;have E:=be Ab.2 E;have G:=lk G Ab.2;refine I ?_;by_cases w5:(dM y [48])<0;refine I ?_;refine aa (bK (vs:=[pT b,.func (.func 86) #[] #[],S [48],S x]) ru Z (rJ (o:=aW [48] x) hB ht D9 (λW hW=>sQ _ _ W hW)) ?_);rintro _ _ ⟨nm,CB,rfl⟩;have ht:=Tb.gr nm hB dc ht;have E:=aa3 nm j0 E;have G:=gq G nm;have FR:=nm.size;refine I ?_;refine aa (bK (vs:=[pT b,.func (.func 86) #[] #[],S [48],S y]) ru Z (rJ (o:=aW [48] y) CB ht D9 (λW hW=>sQ _ _ W hW)) ?_);rintro _ _ ⟨A2,B0,rfl⟩;have ht:=Tb.gr A2 CB dc ht;have E:=aa3 A2 j0 E;have G:=gq G A2;have Ix:=A2.size;refine I ?_;refine aa (bK (vs:=[pT b,.func (.func 87) #[] #[],S (dS bad (aW [48] x)),S (dS (dB bad (aW [48] x)) (aW [48] y))]) ru Z (rJ (o:=bQ (dS bad (aW [48] x)) (dS (dB bad (aW [48] x)) (aW [48] y))) B0 ht If (λW hW=>x6 _ _ W hW)) ?_);rintro _ _ ⟨A1,C1,rfl⟩;have ht:=Tb.gr A1 B0 dc ht;have E:=aa3 A1 j0 E;have G:=gq G A1;have K3:=A1.size;refine I ?_
 refine aa (bK (vs:=[pT b,S (dS bad (aW [48] x)),S (dS (dB (dB bad (aW [48] x)) (aW [48] y)) (bQ (dS bad (aW [48] x)) (dS (dB bad (aW [48] x)) (aW [48] y))))]) Ea Z (sR C1 ht (dS bad (aW [48] x)) (dS (dB (dB bad (aW [48] x)) (aW [48] y)) (bQ (dS bad (aW [48] x)) (dS (dB bad (aW [48] x)) (aW [48] y))))) ?_);rintro _ _ ⟨Ao,E0,rfl⟩;have ht:=Tb.gr Ao C1 dc ht;have E:=aa3 Ao j0 E;have G:=gq G Ao;have ES:=Ao.size;refine I ?_;refine aa (bK (vs:=[pT b,S (dS (dB bad (aW [48] x)) (aW [48] y)),S (dS (dB (dB bad (aW [48] x)) (aW [48] y)) (bQ (dS bad (aW [48] x)) (dS (dB bad (aW [48] x)) (aW [48] y))))]) Ea Z (sR E0 ht (dS (dB bad (aW [48] x)) (aW [48] y)) (dS (dB (dB bad (aW [48] x)) (aW [48] y)) (bQ (dS bad (aW [48] x)) (dS (dB bad (aW [48] x)) (aW [48] y))))) ?_);rintro _ _ ⟨Ap,H,rfl⟩;have E:=aa3 Ap j0 E;have G:=gq G Ap;have GC:=Ap.size;refine I ?_;refine al aY (λ_ ny E4=>?_);have⟨H,E⟩:=gg ny.2 H E;have G:=lk G ny.2;refine SA E4 (λ_ As Am=>?_);have⟨H,E⟩:=kI As H E;have G:=jp G As U;have H2:=iQ As;refine I ?_
 rcases qa4 (dB (dB (dB (dB (dB bad (aW [48] x)) (aW [48] y)) (bQ (dS bad (aW [48] x)) (dS (dB bad (aW [48] x)) (aW [48] y)))) ((dm (dS bad (aW [48] x)) (dS (dB (dB bad (aW [48] x)) (aW [48] y)) (bQ (dS bad (aW [48] x)) (dS (dB bad (aW [48] x)) (aW [48] y))))).map (·.1))) ((dm (dS (dB bad (aW [48] x)) (aW [48] y)) (dS (dB (dB bad (aW [48] x)) (aW [48] y)) (bQ (dS bad (aW [48] x)) (dS (dB bad (aW [48] x)) (aW [48] y))))).map (·.1)))with v7|v7;refine I ?_;refine SA E (λ_ B1 D2=>?_);have⟨H,Am⟩:=kI B1 H Am;have G:=jp G B1 U;refine I ?_;refine gY (v:=.tuple #[.agg #[S [],S []],.int .i64 40]) (cQ (r1:=.cell 6 33) (r2:=.tmp 7) Z ?_ ?_) ⟨G,⟨_,H⟩,Vc⟩;refine ai (t:=6) (cs:=[S [],S []]) (b:=w.heap.size) (o:=0) iO Z bV ?_ ?_;exact Z;exact aa0 D2 (i:=0) Z
 exact aM (t:=7) WD _;refine I ?_;refine SA E (λ_ Aw Cr=>?_);have⟨H,Am⟩:=kI Aw H Am;have G:=jp G Aw U;refine I ?_
 refine gY (v:=.tuple #[.agg #[S (dS (dB (dB (dB bad (aW [48] x)) (aW [48] y)) (bQ (dS bad (aW [48] x)) (dS (dB bad (aW [48] x)) (aW [48] y)))) ((dm (dS bad (aW [48] x)) (dS (dB (dB bad (aW [48] x)) (aW [48] y)) (bQ (dS bad (aW [48] x)) (dS (dB bad (aW [48] x)) (aW [48] y))))).map (·.1))),S (dS (dB (dB (dB (dB bad (aW [48] x)) (aW [48] y)) (bQ (dS bad (aW [48] x)) (dS (dB bad (aW [48] x)) (aW [48] y)))) ((dm (dS bad (aW [48] x)) (dS (dB (dB bad (aW [48] x)) (aW [48] y)) (bQ (dS bad (aW [48] x)) (dS (dB bad (aW [48] x)) (aW [48] y))))).map (·.1))) ((dm (dS (dB bad (aW [48] x)) (aW [48] y)) (dS (dB (dB bad (aW [48] x)) (aW [48] y)) (bQ (dS bad (aW [48] x)) (dS (dB bad (aW [48] x)) (aW [48] y))))).map (·.1)))],.int .i64 0]) (cQ (r1:=.cell 6 33) (r2:=.tmp 7) Z ?_ ?_) ⟨G,⟨_,H⟩,Vc⟩
 refine ai (t:=6) (cs:=[S (dS (dB (dB (dB bad (aW [48] x)) (aW [48] y)) (bQ (dS bad (aW [48] x)) (dS (dB bad (aW [48] x)) (aW [48] y)))) ((dm (dS bad (aW [48] x)) (dS (dB (dB bad (aW [48] x)) (aW [48] y)) (bQ (dS bad (aW [48] x)) (dS (dB bad (aW [48] x)) (aW [48] y))))).map (·.1))),S (dS (dB (dB (dB (dB bad (aW [48] x)) (aW [48] y)) (bQ (dS bad (aW [48] x)) (dS (dB bad (aW [48] x)) (aW [48] y)))) ((dm (dS bad (aW [48] x)) (dS (dB (dB bad (aW [48] x)) (aW [48] y)) (bQ (dS bad (aW [48] x)) (dS (dB bad (aW [48] x)) (aW [48] y))))).map (·.1))) ((dm (dS (dB bad (aW [48] x)) (aW [48] y)) (dS (dB (dB bad (aW [48] x)) (aW [48] y)) (bQ (dS bad (aW [48] x)) (dS (dB bad (aW [48] x)) (aW [48] y))))).map (·.1)))]) (b:=w.heap.size) (o:=0) iO Z bV ?_ ?_;exact Z;exact aa0 Cr (i:=0) Z;exact aM (t:=7) WD _;refine I ?_;refine aa (bK (vs:=[pT b,.func (.func 87) #[] #[],S x,S y]) ru Z (rJ (o:=bQ x y) hB ht If (λW hW=>x6 _ _ W hW)) ?_);rintro _ _ ⟨od,Ax,rfl⟩;have ht:=Tb.gr od hB dc ht;have E:=aa3 od j0 E;have G:=gq G od;have H4:=od.size;refine I ?_;refine aa (bK (vs:=[pT b,S x,S (dS bad (bQ x y))]) Ea Z (sR Ax ht x (dS bad (bQ x y))) ?_);rintro _ _ ⟨Af,D1,rfl⟩;have ht:=Tb.gr Af Ax dc ht
 have E:=aa3 Af j0 E;have G:=gq G Af;have G0:=Af.size;refine I ?_;refine aa (bK (vs:=[pT b,S y,S (dS bad (bQ x y))]) Ea Z (sR D1 ht y (dS bad (bQ x y))) ?_);rintro _ _ ⟨Ar,O,rfl⟩;have E:=aa3 Ar j0 E;have G:=gq G Ar;have EW:=Ar.size;refine I ?_;refine al aY (λ_ CY E1=>?_);have⟨O,E⟩:=gg CY.2 O E;have G:=lk G CY.2;refine SA E1 (λ_ Aq A0=>?_);have⟨O,E⟩:=kI Aq O E;have G:=jp G Aq U;have H3:=iQ Aq;refine I ?_;rcases Bool.eq_false_or_eq_true (dB (dB (dB bad (bQ x y)) ((dm x (dS bad (bQ x y))).map (·.1))) ((dm y (dS bad (bQ x y))).map (·.1)))with wr|wr;refine I ?_;refine SA E (λ_ Az E6=>?_);have⟨O,A0⟩:=kI Az O A0;have G:=jp G Az U;refine I ?_;refine gY (v:=.tuple #[.agg #[S [],S []],.int .i64 40]) (cQ (r1:=.cell 6 33) (r2:=.tmp 7) Z ?_ ?_) ⟨G,⟨_,O⟩,Vc⟩
 refine ai (t:=6) (cs:=[S [],S []]) (b:=w.heap.size) (o:=0) iO Z bV ?_ ?_;exact Z;exact aa0 E6 (i:=0) Z;exact aM (t:=7) WD _;refine I ?_;refine SA E (λ_ CG E9=>?_);have⟨O,A0⟩:=kI CG O A0;have G:=jp G CG U;refine I ?_;refine gY (v:=.tuple #[.agg #[S (dS (dB bad (bQ x y)) ((dm x (dS bad (bQ x y))).map (·.1))),S (dS (dB (dB bad (bQ x y)) ((dm x (dS bad (bQ x y))).map (·.1))) ((dm y (dS bad (bQ x y))).map (·.1)))],.int .i64 0]) (cQ (r1:=.cell 6 33) (r2:=.tmp 7) Z ?_ ?_) ⟨G,⟨_,O⟩,Vc⟩;refine ai (t:=6) (cs:=[S (dS (dB bad (bQ x y)) ((dm x (dS bad (bQ x y))).map (·.1))),S (dS (dB (dB bad (bQ x y)) ((dm x (dS bad (bQ x y))).map (·.1))) ((dm y (dS bad (bQ x y))).map (·.1)))]) (b:=w.heap.size) (o:=0) iO Z bV ?_ ?_;exact Z;exact aa0 E9 (i:=0) Z;exact aM (t:=7) WD _
def ag (l:List R):List Value:=l.flatMap λa=>[S a.1,S a.2]
def fI (l:List R):(ag l).length=l.length*2:=by
 induction l with
 |nil=>rfl
 |cons a t ih=>simp[ag]at ih ⊢;omega
def ol {l:List R}:∀u∈ag l,u.oneCell'=true:=by
 intro u hu
 obtain⟨a,_,E⟩:=List.mem_flatMap.1 hu
 simp at E
 rcases E with rfl|rfl <;>rfl
def ar (l:List R)(i:Nat):R:=l.getD i ([],[])
def un:∀{l:List R} {i:Nat},i<l.length->(ag l)[i*2]?=some (S (ar l i).1)/\(ag l)[i*2+1]?=some (S (ar l i).2)
 |a::t,0,_=>by simp[ag,ar]
 | a::t,i+1,h=>by
   have ih:=un (l:=t) (i:=i) ka5
   rw[show(i+1)*2=i*2+2 by omega,show i*2+2+1=i*2+1+2 by omega]
   simpa[ag,ar]using ih
def EE {l:List R}(h:Rw w lo A (ag l))(hi:i<l.length):∃b o,A=some ⟨b,o,none⟩/\∀j u,[S (ar l i).1,S (ar l i).2][j]?=some u->w.cell? ⟨b,o+i*2+j,none⟩=some u:=by
 obtain⟨h1,h2⟩:=un hi
 obtain⟨b,o,hA,G⟩:=h.cells _ _ h1
 obtain⟨_,_,hA',E⟩:=h.cells _ _ h2
 rw[hA]at hA';cases hA'
 refine⟨b,o,hA,λj u hu=>?_⟩
 match j,hu with
 |0,hu=>simp at hu;subst hu;simpa using G
 |1,hu=>simp at hu;subst hu;simpa[Nat.add_assoc]using E
def ck (bad:Bool)(l:List R):Bool:=bad||l.any λa=>!bL a
def EF {l:List R}(hi:i<l.length):ck bad (l.take (i+1))=(ck bad (l.take i)|| !bL (ar l i)):=by
 have:l.take (i+1)=l.take i++[ar l i]:=by
  rw[List.take_succ_eq_append_getElem hi];simp[ar,hi]
 rw[this];simp[ck,Bool.or_assoc]
def Xd {l:List R}(hi:i<l.length)(h:ck bad (l.take i)=true):ck bad (l.take (i+1))=true:=by rw[EF hi,h];rfl
def Xe {l:List R}(hi:i<l.length)(h:ck bad (l.take i)=false):ck bad (l.take (i+1))= !bL ((ar l i).1,(ar l i).2):=by rw[EF hi,h];rfl
def gP (h:isInt d=true):dM d [48]=aO (aj d) 0:=by unfold dM;rw[if_pos (by rw[h,jJ];rfl),kL]
def pn {x y:Int}:aO x y<0↔x<y:=by
 unfold aO;split
 · simp[*]
 · split <;>simp[*]
def da {x y:Int}:aO x y<=0↔x<=y:=by
 unfold aO;split
 · simp;omega
 · split <;>simp <;>omega
def mU (h:isInt n=true):aW [48] n=some (ae (-aj n)):=by
 rw[pj (by rw[jJ,h];rfl),kL]
 unfold bc
 have hf:fits (0-aj n)=true:=by
  have:=eU h
  unfold fits at *
  rw[decide_eq_true_eq]at *
  omega
 rw[if_pos hf,Int.zero_sub]
def mV (h:isInt n=true):isInt (ae (-aj n))=true:=by
 refine bi ?_
 have:=eU h
 unfold fits at *
 rw[decide_eq_true_eq]at *
 omega
def j7 {a b:Int}(h:fits b=true)(hl:a.natAbs<=b.natAbs):fits a=true:=by
 unfold fits at *
 rw[decide_eq_true_eq]at *
 exact Nat.lt_of_le_of_lt hl h
def j8 (a:Int)(b:Nat)(hb:0<b)(hd:(b:Int)∣a):(a/(b:Int)).natAbs<=a.natAbs:=by
 obtain⟨c,rfl⟩:=hd
 rw[Int.mul_ediv_cancel_left _ U,Int.natAbs_mul]
 exact Nat.le_mul_of_pos_left _ (by simpa using hb)
def wB (hn:isInt n=true)(hd:isInt d=true)(h0:aj d≠0):
 zX false n d=some (ae (aj n/((Int.gcd (aj n) (aj d):Nat):Int)),ae (aj d/((Int.gcd (aj n) (aj d):Nat):Int))):=by
 have E:0<Int.gcd (aj n) (aj d):=Int.gcd_pos_of_ne_zero_right _ h0
 have H:((Int.gcd (aj n) (aj d):Nat):Int)∣aj d:=Int.gcd_dvd_right ..
 have W:((Int.gcd (aj n) (aj d):Nat):Int)∣aj n:=Int.gcd_dvd_left ..
 have O:fits ((Int.gcd (aj n) (aj d):Nat):Int)=true:=j7 (eU hd) (by
  have:=Nat.le_of_dvd U (Int.natAbs_dvd_natAbs.2 H)
  simpa using this)
 have hG:bQ n d=some (ae ((Int.gcd (aj n) (aj d):Nat):Int)):=by
  unfold bQ;rw[if_pos (by rw[hn,hd];rfl)];unfold bc;rw[if_pos O]
 generalize hg:Int.gcd (aj n) (aj d)=g at *
 have A1:=bi O
 have G:∀{x:List UInt8},isInt x=true->(g:Int)∣aj x->(dm x (ae (g:Int))).map (·.1)=some (ae (aj x/(g:Int))):=by
  intro x hx A0
  rw[lz (by rw[hx,A1];rfl) (by rw[gE,gD];simpa using E),aK]
  unfold bc
  rw[if_pos (j7 (eU hx) (j8 _ _ E A0))]
  rfl
 unfold zX
 rw[hG]
 simp only[dS,Bool.false_eq_true,if_false,rS,Option.getD_some]
 rw[G hn W,G hd H]
 rfl
def wC (hn:isInt n=true)(hd:isInt d=true):g6 false n d=ii (aj n) (aj d):=by
 unfold ii
 by_cases h0:aj d=0
 · rw[if_pos h0,oi ((fY hd).1 h0)]
 · have E:¬d=[48]:=λe=>h0 ((fY hd).2 e)
   rw[if_neg h0]
   unfold qc dh
   by_cases hs:aj d<0
   · rw[iD Z E (by rw[gP hd];exact pn.2 hs),mU hn,mU hd]
     simp only[dB,dS,Bool.false_or,Option.isNone_some,Bool.false_eq_true,if_false,rS,Option.getD_some]
     rw[wB (mV hn) (mV hd) (by rw[aK];omega),aK,aK,if_pos hs,if_pos hs]
     have:Int.gcd (-aj n) (-aj d)=Int.gcd (aj n) (aj d):=by rw[Int.gcd_neg,Int.neg_gcd]
     rw[this]
   · rw[iE Z E (by rw[gP hd];exact λh=>hs (pn.1 h)),wB hn hd h0,if_neg hs,if_neg hs]
def kM (n d:List UInt8):g6 true n d=none:=oh Z
def x8 (a b:R):ck false [a,b]= !(bL a&&bL b):=by simp[ck]
def jo {a:R}(h:bL a=true):isInt a.1=true:=by simp only[bL,Bool.and_eq_true]at h;exact h.1.1.1
def gu {a:R}(h:bL a=true):isInt a.2=true:=by simp only[bL,Bool.and_eq_true]at h;exact h.1.1.2
def i7 (n:Int):(bc n).isNone= !fits n:=by unfold bc;cases fits n <;>rfl
def po {n:Int}(h:fits n=true):rS (bc n)=ae n:=by unfold bc;rw[if_pos h];rfl
def uo (okk:Bool)(n d:Int){on od:Option (List UInt8)}(hn:okk=true->on=bc n)(hd:okk=true->od=bc d):
 g6 (dB (dB (!okk) on) od) (dS (!okk) on) (dS (dB (!okk) on) od)=if okk then ij n d else none:=by
 cases okk with
 |false=>simp only[Bool.not_false,dB,Bool.true_or,kM];rfl
 | true=>
   rw[hn Z,hd Z]
   unfold ij
   simp only[Bool.not_true,dB,dS,Bool.false_or,Bool.false_eq_true,if_false,i7,if_true]
   cases h1:fits n with
   |false=>simp only[Bool.not_false,Bool.true_or,kM,Bool.false_and];rfl
   | true=>
     cases h2:fits d with
     |false=>simp only[Bool.not_false,Bool.or_true,kM,Bool.and_false];rfl
     | true=>
       simp only[Bool.not_true,Bool.or_false,Bool.false_eq_true,if_false,Bool.and_self,if_true]
       rw[po h1,po h2,wC (bi h1) (bi h2),aK,aK]
def Jz (x1 x2 y1 y2:List UInt8):gT (g6 (dB (dB (ck false [(x1,x2),(y1,y2)]) (az x1 y1)) (az x2 y2)) (dS (ck false [(x1,x2),(y1,y2)]) (az x1 y1)) (dS (dB (ck false [(x1,x2),(y1,y2)]) (az x1 y1)) (az x2 y2)))=gT (qr (x1,x2) (y1,y2)):=by
 rw[x8,uo (bL (x1,x2)&&bL (y1,y2)) (aj x1*aj y1) (aj x2*aj y2) (λh=>gz (by rw[jo (ig h),jo (g5 h)];rfl)) (λh=>gz kc3)]
 rfl
def JB (x1 x2 y1 y2:List UInt8):gT (g6 (dB (dB (ck false [(x1,x2),(y1,y2)]) (az x1 y2)) (az x2 y1)) (dS (ck false [(x1,x2),(y1,y2)]) (az x1 y2)) (dS (dB (ck false [(x1,x2),(y1,y2)]) (az x1 y2)) (az x2 y1)))=gT (mB (x1,x2) (y1,y2)):=by
 rw[x8,uo (bL (x1,x2)&&bL (y1,y2)) (aj x1*aj y2) (aj x2*aj y1) (λh=>gz kc4) (λh=>gz kc5)]
 rfl
def wD (okk:Bool)(p q s d:Int){op oq od:Option (List UInt8)}{os:List UInt8->List UInt8->Option (List UInt8)}(hp:okk=true->op=bc p)(hq:okk=true->oq=bc q)(hd:okk=true->od=bc d)(hs:fits p=true->fits q=true->os (ae p) (ae q)=bc s):
 g6 (dB (dB (dB (dB (!okk) op) oq) (os (dS (!okk) op) (dS (dB (!okk) op) oq))) od) (dS (dB (dB (!okk) op) oq) (os (dS (!okk) op) (dS (dB (!okk) op) oq))) (dS (dB (dB (dB (!okk) op) oq) (os (dS (!okk) op) (dS (dB (!okk) op) oq))) od)
  =if okk then(if fits p&&fits q then ij s d else none)else none:=by
 cases okk with
 |false=>simp only[Bool.not_false,dB,Bool.true_or,kM];rfl
 | true=>
   rw[hp Z,hq Z,hd Z]
   cases h1:fits p with
   |false=>simp only[Bool.not_true,dB,Bool.false_or,i7,h1,Bool.not_false,Bool.true_or,kM,Bool.false_and];rfl
   | true=>
     cases h2:fits q with
     |false=>simp only[Bool.not_true,dB,Bool.false_or,i7,h1,h2,Bool.not_false,Bool.true_or,Bool.or_true,kM,Bool.and_false];rfl
     | true=>
       have E:dS (!true) (bc p)=ae p:=by rw[<-po h1];rfl
       have e2:dB (!true) (bc p)=false:=by unfold dB;rw[i7,h1];rfl
       have H:dS false (bc q)=ae q:=by rw[<-po h2];rfl
       have G:dB false (bc q)=false:=by unfold dB;rw[i7,h2];rfl
       rw[e2,G,E,H,hs h1 h2]
       have:=uo true s d (on:=bc s) (od:=bc d) (λ_=>rfl) (λ_=>rfl)
       simpa using this
def JC (os:List UInt8->List UInt8->Option (List UInt8))(x1 x2 y1 y2:List UInt8)(b:Bool):Option R:=g6 (dB (dB (dB (dB b (az x1 y2)) (az y1 x2)) (os (dS b (az x1 y2)) (dS (dB b (az x1 y2)) (az y1 x2)))) (az x2 y2)) (dS (dB (dB b (az x1 y2)) (az y1 x2)) (os (dS b (az x1 y2)) (dS (dB b (az x1 y2)) (az y1 x2)))) (dS (dB (dB (dB b (az x1 y2)) (az y1 x2)) (os (dS b (az x1 y2)) (dS (dB b (az x1 y2)) (az y1 x2)))) (az x2 y2))
def JD (x1 x2 y1 y2:List UInt8):gT (JC xQ x1 x2 y1 y2 (ck false [(x1,x2),(y1,y2)]))=gT (jL (x1,x2) (y1,y2)):=
 qb2 gT ((qb2 (JC xQ x1 x2 y1 y2) (x8 (x1,x2) (y1,y2))).trans
  (wD (bL (x1,x2)&&bL (y1,y2)) (aj x1*aj y2) (aj y1*aj x2) (aj x1*aj y2+aj y1*aj x2) (aj x2*aj y2) (λh=>gz kc4) (λh=>gz kc5) (λh=>gz kc3)
   (λh1 h2=>by rw[xU (by rw[bi h1,bi h2];rfl),aK,aK])))
def JE (x1 x2 y1 y2:List UInt8):gT (JC aW x1 x2 y1 y2 (ck false [(x1,x2),(y1,y2)]))=gT (dx (x1,x2) (y1,y2)):=
 qb2 gT ((qb2 (JC aW x1 x2 y1 y2) (x8 (x1,x2) (y1,y2))).trans
  (wD (bL (x1,x2)&&bL (y1,y2)) (aj x1*aj y2) (aj y1*aj x2) (aj x1*aj y2-aj y1*aj x2) (aj x2*aj y2) (λh=>gz kc4) (λh=>gz kc5) (λh=>gz kc3)
   (λh1 h2=>by rw[pj (by rw[bi h1,bi h2];rfl),aK,aK])))
def pp (hB:ao w b 75 #[.bool bad])(ht:Tb w){n c:Nat}{rs:List R}(hr:Rw w lo A (ag rs))(hn:rs.length=n)(hnb:n<=1000000)(hAb:∀ad,A=some ad->ad.block≠b):
 CL 35 #[pT b,.slice A n c] w (kn λv w'=>w.grownBy w' (some b)/\ao w' b 75 #[.bool (ck bad rs)]/\v=.tuple #[]):=by
 have G:=World.grownBy.refl w (some b);have Aw:=bt hB;have Ab:=λad e=>And.intro (hr.hi ad e) (hAb ad e);refine zt func35 Z (I ?_);refine cg [(5,5),(8,24)] (λAr e W=>∃i:Nat,(n-i=Ar)/\(e 8=.int .i64 i)/\(w.grownBy W (some b))/\(i<=n)/\(True)/\(Tb W)/\(Rw W lo A (ag rs))/\(ao W b 75 #[.bool (ck bad (rs.take i))])) (n-0) ⟨0,rfl,rfl,G,(qa7 _),trivial,ht,hr,(by simpa[ck]using hB)⟩ ?_;rintro _ _ _ ⟨i,rfl,Af,G,hi,Am,ht,hr,hB⟩;have nm:=World.grownBy.size G;by_cases hlt:i<n;obtain⟨bk,o,hA,As⟩:=EE hr (i:=i) U;refine I ?_;refine aa (aD (i:=i) (oo:=o+i*2) sE bV Z hA Af U Z ?_);refine aa (aN (cs:=[S (ar rs i).1,S (ar rs i).2]) (b:=bk) (o:=o+i*2) iO Z bV Z As ?_);refine al aY (λ_ O Aq=>?_);have ht:=ab6 O.2 ht;have hr:=Rw.ext O.2 hr;have hB:=be O.2 hB;have G:=lk G O.2;refine SA Aq (λ_ H E=>?_);have ht:=Tb.put H Aq dc ht;have hr:=Rw.putU H (λad e=>by have:=Ab ad e;omega) hr;have hB:=pb H hB;have G:=jp G H U;have Av:=iQ H;refine I ?_;rcases qa4 (ck bad (rs.take i))with cf|cf;refine I ?_;refine SO hB (λ_ A1 Ap=>?_);have ht:=Tb.put A1 hB dc ht;have hr:=Rw.putU A1 (λad e=>by have:=Ab ad e;omega) hr
 have E:=pb A1 E;have G:=Ce G A1;refine I ?_;refine aa (cC (a:=(i:Int)) (b:=1) (c:=((i+1:Nat):Int)) Af Z zd U ?_);refine I ?_;exact bJ ⟨i+1,rfl,rfl,G,U,Am,ht,hr,(by first|(rw[Xd U BT];exact Ap)|(rw[Xe U BT];exact Ap))⟩;refine I ?_;refine cl r9 (dU ((ar rs i).1) ((ar rs i).2) _ ht) ?_;rintro _ _ A2 rfl;have ht:=ab6 A2.2 ht;have hr:=Rw.ext A2.2 hr;have⟨hB,E⟩:=gg A2.2 hB E;have G:=lk G A2.2;refine I ?_;refine SO hB (λ_ A0 Ao=>?_);have ht:=Tb.put A0 hB dc ht;have hr:=Rw.putU A0 (λad e=>by have:=Ab ad e;omega) hr;have E:=pb A0 E;have G:=Ce G A0;refine I ?_;refine aa (cC (a:=(i:Int)) (b:=1) (c:=((i+1:Nat):Int)) Af Z zd U ?_);refine I ?_;exact bJ ⟨i+1,rfl,rfl,G,U,Am,ht,hr,(by first|(rw[Xd U BT];exact Ao)|(rw[Xe U BT];exact Ao))⟩;refine I ?_;refine S4 (v:=.tuple #[]) (mg  rfl) ⟨G,(by rw[List.take_of_length_le U]at hB;exact hB),rfl⟩
def Oj (x1 x2 y1 y2:List UInt8)(w:World)(ht:Tb w):
 CL 13 #[.agg #[S x1,S x2],.agg #[S y1,S y2]] w (aI w λv w'=>v=gT (qr (x1,x2) (y1,y2))):=by
 refine aE func13 Z (I ?_);refine bx (λ_ Ap G=>?_);have ht:=ab6 Ap.2 ht;have E:=Ap.2;refine bx (λAz nm H=>?_);have ht:=ab6 nm.2 ht;have⟨G,E⟩:=bn nm.2 G E;refine al aY (λAf Ar O=>?_);have ht:=ab6 Ar.2 ht;have⟨G,H,E⟩:=cj Ar.2 G H E;refine I ?_;refine bx (λB1 Aq Am=>?_);have ht:=ab6 Aq.2 ht;have⟨G,H,O,E⟩:=eY Aq.2 G H O E;refine I ?_;refine NW (λ_ Av _ B0=>?_);have ht:=ab6 Av ht;have⟨G,H,O,Am,E⟩:=kv Av G H O Am E;refine aa (bK (vs:=[pT Af.heap.size,.slice (some ⟨B1.heap.size,0,none⟩) 2 2]) D8 Z (pp (rs:=[(x1,x2),(y1,y2)]) Am ht (aa7 B0) Z U (λ_ e=>by cases e;simp;omega)) ?_);rintro _ _ ⟨A0,Aw,rfl⟩;have ht:=Tb.gr A0 Am dc ht;have G:=aa3 A0 j0 G;have H:=aa3 A0 j0 H;have O:=aa3 A0 j0 O;have E:=cO E A0 (bz E) (λg W=>by cases W;omega);refine I ?_;refine aa (bK (vs:=[pT Af.heap.size,S x1,S y1]) rt Z (mC Aw ht x1 y1) ?_);rintro _ _ ⟨A1,As,rfl⟩;have ht:=Tb.gr A1 Aw dc ht;have G:=aa3 A1 j0 G;have H:=aa3 A1 j0 H;have O:=aa3 A1 j0 O;have E:=cO E A1 (bz E) (λg W=>by cases W;omega);refine I ?_;refine aa (bK (vs:=[pT Af.heap.size,S x2,S y2]) rt Z (mC As ht x2 y2) ?_);rintro _ _ ⟨A2,ny,rfl⟩
 have ht:=Tb.gr A2 As dc ht;have G:=aa3 A2 j0 G;have H:=aa3 A2 j0 H;have O:=aa3 A2 j0 O;have E:=cO E A2 (bz E) (λg W=>by cases W;omega);refine aa (bK (vs:=[pT Af.heap.size,S (dS (ck false [(x1,x2),(y1,y2)]) (az x1 y1)),S (dS (dB (ck false [(x1,x2),(y1,y2)]) (az x1 y1)) (az x2 y2))]) tw Z (x7 ny ht (dS (ck false [(x1,x2),(y1,y2)]) (az x1 y1)) (dS (dB (ck false [(x1,x2),(y1,y2)]) (az x1 y1)) (az x2 y2))) ?_);rintro _ _ ⟨Ab,⟨B2,Ao⟩,rfl⟩;have G:=aa3 Ab j0 G;have H:=aa3 Ab j0 H;have O:=aa3 Ab j0 O;have E:=cO E Ab (bz E) (λg W=>by cases W;omega);refine I ?_;refine SA O (λ_ Ax Ay=>?_);have⟨G,H,Ao⟩:=mO Ax G H Ao;have E:=bh Ax E;refine I ?_
 refine aX (v:=.tuple #[.agg #[S (rN (g6 (dB (dB (ck false [(x1,x2),(y1,y2)]) (az x1 y1)) (az x2 y2)) (dS (ck false [(x1,x2),(y1,y2)]) (az x1 y1)) (dS (dB (ck false [(x1,x2),(y1,y2)]) (az x1 y1)) (az x2 y2)))),S (rD (g6 (dB (dB (ck false [(x1,x2),(y1,y2)]) (az x1 y1)) (az x2 y2)) (dS (ck false [(x1,x2),(y1,y2)]) (az x1 y1)) (dS (dB (ck false [(x1,x2),(y1,y2)]) (az x1 y1)) (az x2 y2))))],.int .i64 (TK (g6 (dB (dB (ck false [(x1,x2),(y1,y2)]) (az x1 y1)) (az x2 y2)) (dS (ck false [(x1,x2),(y1,y2)]) (az x1 y1)) (dS (dB (ck false [(x1,x2),(y1,y2)]) (az x1 y1)) (az x2 y2))))]) (cQ (r1:=.cell 4 33) (r2:=.tmp 5) Z ?_ ?_) E (Jz x1 x2 y1 y2);refine ai (t:=4) (cs:=[S (rN (g6 (dB (dB (ck false [(x1,x2),(y1,y2)]) (az x1 y1)) (az x2 y2)) (dS (ck false [(x1,x2),(y1,y2)]) (az x1 y1)) (dS (dB (ck false [(x1,x2),(y1,y2)]) (az x1 y1)) (az x2 y2)))),S (rD (g6 (dB (dB (ck false [(x1,x2),(y1,y2)]) (az x1 y1)) (az x2 y2)) (dS (ck false [(x1,x2),(y1,y2)]) (az x1 y1)) (dS (dB (ck false [(x1,x2),(y1,y2)]) (az x1 y1)) (az x2 y2))))]) (b:=Az.heap.size) (o:=0) iO Z bV ?_ ?_;exact Z;exact aa0 Ay (i:=0) Z;exact aM (t:=5) WD _
def Ol (x1 x2 y1 y2:List UInt8)(w:World)(ht:Tb w):
 CL 15 #[.agg #[S x1,S x2],.agg #[S y1,S y2]] w (aI w λv w'=>v=gT (mB (x1,x2) (y1,y2))):=by
 refine aE func15 Z (I ?_);refine bx (λ_ Ap G=>?_);have ht:=ab6 Ap.2 ht;have E:=Ap.2;refine bx (λAz nm H=>?_);have ht:=ab6 nm.2 ht;have⟨G,E⟩:=bn nm.2 G E;refine al aY (λAf Ar O=>?_);have ht:=ab6 Ar.2 ht;have⟨G,H,E⟩:=cj Ar.2 G H E;refine I ?_;refine bx (λB1 Aq Am=>?_);have ht:=ab6 Aq.2 ht;have⟨G,H,O,E⟩:=eY Aq.2 G H O E;refine I ?_;refine NW (λ_ Av _ B0=>?_);have ht:=ab6 Av ht;have⟨G,H,O,Am,E⟩:=kv Av G H O Am E;refine aa (bK (vs:=[pT Af.heap.size,.slice (some ⟨B1.heap.size,0,none⟩) 2 2]) D8 Z (pp (rs:=[(x1,x2),(y1,y2)]) Am ht (aa7 B0) Z U (λ_ e=>by cases e;simp;omega)) ?_);rintro _ _ ⟨A0,Aw,rfl⟩;have ht:=Tb.gr A0 Am dc ht;have G:=aa3 A0 j0 G;have H:=aa3 A0 j0 H;have O:=aa3 A0 j0 O;have E:=cO E A0 (bz E) (λg W=>by cases W;omega);refine I ?_;refine aa (bK (vs:=[pT Af.heap.size,S x1,S y2]) rt Z (mC Aw ht x1 y2) ?_);rintro _ _ ⟨A1,As,rfl⟩;have ht:=Tb.gr A1 Aw dc ht;have G:=aa3 A1 j0 G;have H:=aa3 A1 j0 H;have O:=aa3 A1 j0 O;have E:=cO E A1 (bz E) (λg W=>by cases W;omega);refine I ?_;refine aa (bK (vs:=[pT Af.heap.size,S x2,S y1]) rt Z (mC As ht x2 y1) ?_);rintro _ _ ⟨A2,ny,rfl⟩
 have ht:=Tb.gr A2 As dc ht;have G:=aa3 A2 j0 G;have H:=aa3 A2 j0 H;have O:=aa3 A2 j0 O;have E:=cO E A2 (bz E) (λg W=>by cases W;omega);refine aa (bK (vs:=[pT Af.heap.size,S (dS (ck false [(x1,x2),(y1,y2)]) (az x1 y2)),S (dS (dB (ck false [(x1,x2),(y1,y2)]) (az x1 y2)) (az x2 y1))]) tw Z (x7 ny ht (dS (ck false [(x1,x2),(y1,y2)]) (az x1 y2)) (dS (dB (ck false [(x1,x2),(y1,y2)]) (az x1 y2)) (az x2 y1))) ?_);rintro _ _ ⟨Ab,⟨B2,Ao⟩,rfl⟩;have G:=aa3 Ab j0 G;have H:=aa3 Ab j0 H;have O:=aa3 Ab j0 O;have E:=cO E Ab (bz E) (λg W=>by cases W;omega);refine I ?_;refine SA O (λ_ Ax Ay=>?_);have⟨G,H,Ao⟩:=mO Ax G H Ao;have E:=bh Ax E;refine I ?_
 refine aX (v:=.tuple #[.agg #[S (rN (g6 (dB (dB (ck false [(x1,x2),(y1,y2)]) (az x1 y2)) (az x2 y1)) (dS (ck false [(x1,x2),(y1,y2)]) (az x1 y2)) (dS (dB (ck false [(x1,x2),(y1,y2)]) (az x1 y2)) (az x2 y1)))),S (rD (g6 (dB (dB (ck false [(x1,x2),(y1,y2)]) (az x1 y2)) (az x2 y1)) (dS (ck false [(x1,x2),(y1,y2)]) (az x1 y2)) (dS (dB (ck false [(x1,x2),(y1,y2)]) (az x1 y2)) (az x2 y1))))],.int .i64 (TK (g6 (dB (dB (ck false [(x1,x2),(y1,y2)]) (az x1 y2)) (az x2 y1)) (dS (ck false [(x1,x2),(y1,y2)]) (az x1 y2)) (dS (dB (ck false [(x1,x2),(y1,y2)]) (az x1 y2)) (az x2 y1))))]) (cQ (r1:=.cell 4 33) (r2:=.tmp 5) Z ?_ ?_) E (JB x1 x2 y1 y2);refine ai (t:=4) (cs:=[S (rN (g6 (dB (dB (ck false [(x1,x2),(y1,y2)]) (az x1 y2)) (az x2 y1)) (dS (ck false [(x1,x2),(y1,y2)]) (az x1 y2)) (dS (dB (ck false [(x1,x2),(y1,y2)]) (az x1 y2)) (az x2 y1)))),S (rD (g6 (dB (dB (ck false [(x1,x2),(y1,y2)]) (az x1 y2)) (az x2 y1)) (dS (ck false [(x1,x2),(y1,y2)]) (az x1 y2)) (dS (dB (ck false [(x1,x2),(y1,y2)]) (az x1 y2)) (az x2 y1))))]) (b:=Az.heap.size) (o:=0) iO Z bV ?_ ?_;exact Z;exact aa0 Ay (i:=0) Z;exact aM (t:=5) WD _
def EG {os:List UInt8->List UInt8->Option (List UInt8)}(heg:Enters prog g0)(hop:∀a b,Z9 g0 a b (os a b))(x1 x2 y1 y2:List UInt8)(w:World)(ht:Tb w):
 CL 155 #[.func (.func g0) #[] #[],.agg #[S x1,S x2],.agg #[S y1,S y2]] w (aI w λv w'=>v=gT (JC os x1 x2 y1 y2 (ck false [(x1,x2),(y1,y2)]))):=by
 refine aE func155 Z (I ?_);refine bx (λAx Az G=>?_);have ht:=ab6 Az.2 ht;have E:=Az.2;refine bx (λC1 B1 H=>?_);have ht:=ab6 B1.2 ht;have⟨G,E⟩:=bn B1.2 G E;refine al aY (λA2 B2 O=>?_);have ht:=ab6 B2.2 ht;have⟨G,H,E⟩:=cj B2.2 G H E;refine I ?_;refine bx (λP1 CG ny=>?_);have ht:=ab6 CG.2 ht;have⟨G,H,O,E⟩:=eY CG.2 G H O E;refine I ?_;refine NW (λ_ B0 _ E0=>?_);have ht:=ab6 B0 ht;have⟨G,H,O,ny,E⟩:=kv B0 G H O ny E;refine aa (bK (vs:=[pT A2.heap.size,.slice (some ⟨P1.heap.size,0,none⟩) 2 2]) D8 Z (pp (rs:=[(x1,x2),(y1,y2)]) ny ht (aa7 E0) Z U (λ_ e=>by cases e;simp;omega)) ?_);rintro _ CY ⟨Aq,A0,rfl⟩;have ht:=Tb.gr Aq ny dc ht;have G:=aa3 Aq j0 G;have H:=aa3 Aq j0 H;have O:=aa3 Aq j0 O;have E:=cO E Aq (bz E) (λg Ab=>by cases Ab;omega);refine I ?_;have Af:=ac1 CY
 refine S6 sd 15 (λ_ _=>True) (λ_=>trivial) (λ_ _ _ _ _=>trivial) [λv _=>v=pT A2.heap.size,λv _=>v=.func (.func g0) #[] #[],λv _=>v=pT A2.heap.size,λv _=>v=pT w.heap.size,λv _=>v=S x1,λv _=>v=.pointer (some ⟨Ax.heap.size,1,none⟩),λv _=>v=S y2,λv _=>v=S (dS (ck false [(x1,x2),(y1,y2)]) (az x1 y2)),λv _=>v=pT A2.heap.size,λv _=>v=pT Ax.heap.size,λv _=>v=S y1,λv _=>v=.pointer (some ⟨w.heap.size,1,none⟩),λv _=>v=S x2,λv _=>v=S (dS (dB (ck false [(x1,x2),(y1,y2)]) (az x1 y2)) (az y1 x2)),λv _=>v=S (dS (dB (dB (ck false [(x1,x2),(y1,y2)]) (az x1 y2)) (az y1 x2)) (os (dS (ck false [(x1,x2),(y1,y2)]) (az x1 y2)) (dS (dB (ck false [(x1,x2),(y1,y2)]) (az x1 y2)) (az y1 x2))))] ⟨λ_ _ _ _ h=>h,λ_ _ _ _ h=>h,λ_ _ _ _ h=>h,λ_ _ _ _ h=>h,λ_ _ _ _ h=>h,λ_ _ _ _ h=>h,λ_ _ _ _ h=>h,λ_ _ _ _ h=>h,λ_ _ _ _ h=>h,λ_ _ _ _ h=>h,λ_ _ _ _ h=>h,λ_ _ _ _ h=>h,λ_ _ _ _ h=>h,λ_ _ _ _ h=>h,λ_ _ _ _ h=>h,trivial⟩ q0 q0 q0 [7,13,14] q0 q0 q0 (λk W=>(aP w W)/\(CY.heap.size<=W.heap.size)/\(Tb W)/\(ao W w.heap.size 33 #[S x1,S x2])/\(ao W Ax.heap.size 33 #[S y1,S y2])/\(ao W C1.heap.size 33 #[S [],S []])/\(ao W A2.heap.size 75 #[.bool (([ck false [(x1,x2),(y1,y2)],dB (ck false [(x1,x2),(y1,y2)]) (az x1 y2),dB (dB (ck false [(x1,x2),(y1,y2)]) (az x1 y2)) (az y1 x2),dB (dB (dB (ck false [(x1,x2),(y1,y2)]) (az x1 y2)) (az y1 x2)) (os (dS (ck false [(x1,x2),(y1,y2)]) (az x1 y2)) (dS (dB (ck false [(x1,x2),(y1,y2)]) (az x1 y2)) (az y1 x2)))]:List Bool).getD k false)])) ⟨(xt E Af),(bz Af),(ab6 Af ht),(be Af G),(be Af H),(be Af O),(be Af A0)⟩ ?_ ?_
 refine⟨λVW cc eD L1 d6 _ W0 ea=>?_,?_⟩;obtain⟨VW,rfl⟩:=dK W0;obtain⟨E,A1,ht,G,H,O,A0⟩:=L1;refine I ?_;exact⟨rfl,_,(ax _ _ _ _ _).symm,trivial,rfl,⟨E,U,ht,G,H,O,A0⟩⟩;refine⟨λS0 f0 eC E1 f8 _ Rm cm=>?_,?_⟩;obtain⟨S0,rfl⟩:=dK Rm;obtain⟨E,A1,ht,G,H,O,A0⟩:=E1;refine I ?_;exact⟨rfl,_,(ax _ _ _ _ _).symm,trivial,rfl,⟨E,U,ht,G,H,O,A0⟩⟩;refine⟨λH3 f9 dC Ix eb _ Lj dd=>?_,?_⟩;obtain⟨H3,rfl⟩:=dK Lj;obtain⟨E,A1,ht,G,H,O,A0⟩:=Ix;refine I ?_;exact⟨rfl,_,(ax _ _ _ _ _).symm,trivial,rfl,⟨E,U,ht,G,H,O,A0⟩⟩;refine⟨λE7 e1 dq bq cv _ L2 e6=>?_,?_⟩;obtain⟨E7,rfl⟩:=dK L2;obtain⟨E,A1,ht,G,H,O,A0⟩:=bq;refine I ?_;exact⟨rfl,_,(ax _ _ _ _ _).symm,trivial,rfl,⟨E,U,ht,G,H,O,A0⟩⟩;refine⟨λbW e5 d0 KY f3 _ KM Li=>?_,?_⟩;obtain⟨bW,rfl⟩:=dK KM;obtain⟨E,A1,ht,G,H,O,A0⟩:=KY;have dL:=fA (Li 3 20 Z Z);refine I ?_;exact⟨rfl,_,(ax _ _ _ _ _).symm,trivial,rfl,⟨E,U,ht,G,H,O,A0⟩⟩;refine⟨λWa cp e3 ac e4 _ GC d1=>?_,?_⟩;obtain⟨Wa,rfl⟩:=dK GC;obtain⟨E,A1,ht,G,H,O,A0⟩:=ac;refine I ?_;exact⟨rfl,_,(ax _ _ _ _ _).symm,trivial,rfl,⟨E,U,ht,G,H,O,A0⟩⟩;refine⟨λa9 cw ch T2 d3 _ Q0 Lk=>?_,?_⟩;obtain⟨a9,rfl⟩:=dK Q0
 obtain⟨E,A1,ht,G,H,O,A0⟩:=T2;have cz:=fA (Lk 5 22 Z Z);refine I ?_;exact⟨rfl,_,(ax _ _ _ _ _).symm,trivial,rfl,⟨E,U,ht,G,H,O,A0⟩⟩;refine⟨λwr EW arr G0 W3 _ KC Ay=>?_,?_⟩;obtain⟨wr,rfl⟩:=dK KC;obtain⟨E,A1,ht,G,H,O,A0⟩:=G0;obtain rfl:=W3 0 Z;have A0:ao EW A2.heap.size 75 #[.bool (ck false [(x1,x2),(y1,y2)])]:=A0;have bd:=fA (Ay 2 19 Z Z);have cT:=fA (Ay 4 21 Z Z);have La:=fA (Ay 6 23 Z Z);refine aa (bK (vs:=[pT A2.heap.size,S x1,S y2]) rt (au bd (au cT (au La Z))) (mC A0 ht x1 y2) ?_);rintro _ _ ⟨Am,X0,rfl⟩;have ht:=Tb.gr Am A0 dc ht;have G:=aa3 Am j0 G;have H:=aa3 Am j0 H;have O:=aa3 Am j0 O;have E:=cO E Am (bz E) (λg Ab=>by cases Ab;omega);have d4:=Am.size;refine I ?_;exact⟨rfl,_,(ax _ _ _ _ _).symm,trivial,rfl,⟨E,U,ht,G,H,O,X0⟩⟩;refine⟨λa5 fB cq P0 cy _ T3 fC=>?_,?_⟩;obtain⟨a5,rfl⟩:=dK T3;obtain⟨E,A1,ht,G,H,O,A0⟩:=P0;refine I ?_;exact⟨rfl,_,(ax _ _ _ _ _).symm,trivial,rfl,⟨E,U,ht,G,H,O,A0⟩⟩;refine⟨λW2 cb ct bb ed _ D2 d5=>?_,?_⟩;obtain⟨W2,rfl⟩:=dK D2;obtain⟨E,A1,ht,G,H,O,A0⟩:=bb;refine I ?_;exact⟨rfl,_,(ax _ _ _ _ _).symm,trivial,rfl,⟨E,U,ht,G,H,O,A0⟩⟩
 refine⟨λWV eG cf E6 eB _ Kp Cr=>?_,?_⟩;obtain⟨WV,rfl⟩:=dK Kp;obtain⟨E,A1,ht,G,H,O,A0⟩:=E6;have eS:=fA (Cr 9 26 Z Z);refine I ?_;exact⟨rfl,_,(ax _ _ _ _ _).symm,trivial,rfl,⟨E,U,ht,G,H,O,A0⟩⟩;refine⟨λbp eq eP X2 ce _ H2 eW=>?_,?_⟩;obtain⟨bp,rfl⟩:=dK H2;obtain⟨E,A1,ht,G,H,O,A0⟩:=X2;refine I ?_;exact⟨rfl,_,(ax _ _ _ _ _).symm,trivial,rfl,⟨E,U,ht,G,H,O,A0⟩⟩;refine⟨λad ask eg L3 cr _ a2 a0=>?_,?_⟩;obtain⟨ad,rfl⟩:=dK a2;obtain⟨E,A1,ht,G,H,O,A0⟩:=L3;have cx:=fA (a0 11 28 Z Z);refine I ?_;exact⟨rfl,_,(ax _ _ _ _ _).symm,trivial,rfl,⟨E,U,ht,G,H,O,A0⟩⟩;refine⟨λS9 c9 co W1 P2 _ b0 Aw=>?_,?_⟩;obtain⟨S9,rfl⟩:=dK b0;obtain⟨E,A1,ht,G,H,O,A0⟩:=W1;obtain rfl:=P2 1 Z;have A0:ao c9 A2.heap.size 75 #[.bool (dB (ck false [(x1,x2),(y1,y2)]) (az x1 y2))]:=A0;have a4:=fA (Aw 8 25 Z Z);have N0:=fA (Aw 10 27 Z Z);have H4:=fA (Aw 12 29 Z Z);refine aa (bK (vs:=[pT A2.heap.size,S y1,S x2]) rt (au a4 (au N0 (au H4 Z))) (mC A0 ht y1 x2) ?_);rintro _ _ ⟨Ap,E9,rfl⟩;have ht:=Tb.gr Ap A0 dc ht;have G:=aa3 Ap j0 G;have H:=aa3 Ap j0 H;have O:=aa3 Ap j0 O;have E:=cO E Ap (bz E) (λg Ab=>by cases Ab;omega)
 have ej:=Ap.size;refine I ?_;exact⟨rfl,_,(ax _ _ _ _ _).symm,trivial,rfl,⟨E,U,ht,G,H,O,E9⟩⟩;refine⟨λL4 E5 eQ E4 Vm _ bZ Av=>?_,?_⟩;obtain⟨L4,rfl⟩:=dK bZ;obtain⟨E,A1,ht,G,H,O,A0⟩:=E4;obtain rfl:=Vm 2 Z;have A0:ao E5 A2.heap.size 75 #[.bool (dB (dB (ck false [(x1,x2),(y1,y2)]) (az x1 y2)) (az y1 x2))]:=A0;have K2:=fA (Av 0 17 Z Z);have bv:=fA (Av 1 18 Z Z);have K3:=fA (Av 7 24 Z Z);have a8:=fA (Av 13 30 Z Z);refine aa (bK (vs:=[pT A2.heap.size,.func (.func g0) #[] #[],S (dS (ck false [(x1,x2),(y1,y2)]) (az x1 y2)),S (dS (dB (ck false [(x1,x2),(y1,y2)]) (az x1 y2)) (az y1 x2))]) ru (au K2 (au bv (au K3 (au a8 Z)))) (rJ (o:=os (dS (ck false [(x1,x2),(y1,y2)]) (az x1 y2)) (dS (dB (ck false [(x1,x2),(y1,y2)]) (az x1 y2)) (az y1 x2))) A0 ht heg (hop _ _)) ?_);rintro _ _ ⟨Ao,FR,rfl⟩;have ht:=Tb.gr Ao A0 dc ht;have G:=aa3 Ao j0 G;have H:=aa3 Ao j0 H;have O:=aa3 Ao j0 O;have E:=cO E Ao (bz E) (λg Ab=>by cases Ab;omega);have er:=Ao.size;refine I ?_;exact⟨rfl,_,(ax _ _ _ _ _).symm,trivial,rfl,⟨E,U,ht,G,H,O,FR⟩⟩;exact trivial;intro a6 Ne ES _ No D1;obtain⟨a6,rfl⟩:=dK No;obtain⟨E,A1,ht,G,H,O,A0⟩:=ES
 have A0:ao Ne A2.heap.size 75 #[.bool (dB (dB (dB (ck false [(x1,x2),(y1,y2)]) (az x1 y2)) (az y1 x2)) (os (dS (ck false [(x1,x2),(y1,y2)]) (az x1 y2)) (dS (dB (ck false [(x1,x2),(y1,y2)]) (az x1 y2)) (az y1 x2))))]:=A0;have et:=fA (D1 14 31 Z Z);refine I ?_;refine aa (bK (vs:=[pT A2.heap.size,S x2,S y2]) rt Z (mC A0 ht x2 y2) ?_);rintro _ _ ⟨Ar,an,rfl⟩;have ht:=Tb.gr Ar A0 dc ht;have G:=aa3 Ar j0 G;have H:=aa3 Ar j0 H;have O:=aa3 Ar j0 O;have E:=cO E Ar (bz E) (λg Ab=>by cases Ab;omega)
 refine aa (bK (vs:=[pT A2.heap.size,S (dS (dB (dB (ck false [(x1,x2),(y1,y2)]) (az x1 y2)) (az y1 x2)) (os (dS (ck false [(x1,x2),(y1,y2)]) (az x1 y2)) (dS (dB (ck false [(x1,x2),(y1,y2)]) (az x1 y2)) (az y1 x2)))),S (dS (dB (dB (dB (ck false [(x1,x2),(y1,y2)]) (az x1 y2)) (az y1 x2)) (os (dS (ck false [(x1,x2),(y1,y2)]) (az x1 y2)) (dS (dB (ck false [(x1,x2),(y1,y2)]) (az x1 y2)) (az y1 x2)))) (az x2 y2))]) tw Z (x7 an ht (dS (dB (dB (ck false [(x1,x2),(y1,y2)]) (az x1 y2)) (az y1 x2)) (os (dS (ck false [(x1,x2),(y1,y2)]) (az x1 y2)) (dS (dB (ck false [(x1,x2),(y1,y2)]) (az x1 y2)) (az y1 x2)))) (dS (dB (dB (dB (ck false [(x1,x2),(y1,y2)]) (az x1 y2)) (az y1 x2)) (os (dS (ck false [(x1,x2),(y1,y2)]) (az x1 y2)) (dS (dB (ck false [(x1,x2),(y1,y2)]) (az x1 y2)) (az y1 x2)))) (az x2 y2))) ?_);rintro _ _ ⟨As,⟨eX,CB⟩,rfl⟩;have G:=aa3 As j0 G;have H:=aa3 As j0 H;have O:=aa3 As j0 O;have E:=cO E As (bz E) (λg Ab=>by cases Ab;omega);refine I ?_;refine SA O (λ_ nm a3=>?_);have⟨G,H,CB⟩:=mO nm G H CB;have E:=bh nm E;refine I ?_
 refine aX (v:=.tuple #[.agg #[S (rN (g6 (dB (dB (dB (dB (ck false [(x1,x2),(y1,y2)]) (az x1 y2)) (az y1 x2)) (os (dS (ck false [(x1,x2),(y1,y2)]) (az x1 y2)) (dS (dB (ck false [(x1,x2),(y1,y2)]) (az x1 y2)) (az y1 x2)))) (az x2 y2)) (dS (dB (dB (ck false [(x1,x2),(y1,y2)]) (az x1 y2)) (az y1 x2)) (os (dS (ck false [(x1,x2),(y1,y2)]) (az x1 y2)) (dS (dB (ck false [(x1,x2),(y1,y2)]) (az x1 y2)) (az y1 x2)))) (dS (dB (dB (dB (ck false [(x1,x2),(y1,y2)]) (az x1 y2)) (az y1 x2)) (os (dS (ck false [(x1,x2),(y1,y2)]) (az x1 y2)) (dS (dB (ck false [(x1,x2),(y1,y2)]) (az x1 y2)) (az y1 x2)))) (az x2 y2)))),S (rD (g6 (dB (dB (dB (dB (ck false [(x1,x2),(y1,y2)]) (az x1 y2)) (az y1 x2)) (os (dS (ck false [(x1,x2),(y1,y2)]) (az x1 y2)) (dS (dB (ck false [(x1,x2),(y1,y2)]) (az x1 y2)) (az y1 x2)))) (az x2 y2)) (dS (dB (dB (ck false [(x1,x2),(y1,y2)]) (az x1 y2)) (az y1 x2)) (os (dS (ck false [(x1,x2),(y1,y2)]) (az x1 y2)) (dS (dB (ck false [(x1,x2),(y1,y2)]) (az x1 y2)) (az y1 x2)))) (dS (dB (dB (dB (ck false [(x1,x2),(y1,y2)]) (az x1 y2)) (az y1 x2)) (os (dS (ck false [(x1,x2),(y1,y2)]) (az x1 y2)) (dS (dB (ck false [(x1,x2),(y1,y2)]) (az x1 y2)) (az y1 x2)))) (az x2 y2))))],.int .i64 (TK (g6 (dB (dB (dB (dB (ck false [(x1,x2),(y1,y2)]) (az x1 y2)) (az y1 x2)) (os (dS (ck false [(x1,x2),(y1,y2)]) (az x1 y2)) (dS (dB (ck false [(x1,x2),(y1,y2)]) (az x1 y2)) (az y1 x2)))) (az x2 y2)) (dS (dB (dB (ck false [(x1,x2),(y1,y2)]) (az x1 y2)) (az y1 x2)) (os (dS (ck false [(x1,x2),(y1,y2)]) (az x1 y2)) (dS (dB (ck false [(x1,x2),(y1,y2)]) (az x1 y2)) (az y1 x2)))) (dS (dB (dB (dB (ck false [(x1,x2),(y1,y2)]) (az x1 y2)) (az y1 x2)) (os (dS (ck false [(x1,x2),(y1,y2)]) (az x1 y2)) (dS (dB (ck false [(x1,x2),(y1,y2)]) (az x1 y2)) (az y1 x2)))) (az x2 y2))))]) (cQ (r1:=.cell 6 33) (r2:=.tmp 7) Z ?_ ?_) E Z
 refine ai (t:=6) (cs:=[S (rN (g6 (dB (dB (dB (dB (ck false [(x1,x2),(y1,y2)]) (az x1 y2)) (az y1 x2)) (os (dS (ck false [(x1,x2),(y1,y2)]) (az x1 y2)) (dS (dB (ck false [(x1,x2),(y1,y2)]) (az x1 y2)) (az y1 x2)))) (az x2 y2)) (dS (dB (dB (ck false [(x1,x2),(y1,y2)]) (az x1 y2)) (az y1 x2)) (os (dS (ck false [(x1,x2),(y1,y2)]) (az x1 y2)) (dS (dB (ck false [(x1,x2),(y1,y2)]) (az x1 y2)) (az y1 x2)))) (dS (dB (dB (dB (ck false [(x1,x2),(y1,y2)]) (az x1 y2)) (az y1 x2)) (os (dS (ck false [(x1,x2),(y1,y2)]) (az x1 y2)) (dS (dB (ck false [(x1,x2),(y1,y2)]) (az x1 y2)) (az y1 x2)))) (az x2 y2)))),S (rD (g6 (dB (dB (dB (dB (ck false [(x1,x2),(y1,y2)]) (az x1 y2)) (az y1 x2)) (os (dS (ck false [(x1,x2),(y1,y2)]) (az x1 y2)) (dS (dB (ck false [(x1,x2),(y1,y2)]) (az x1 y2)) (az y1 x2)))) (az x2 y2)) (dS (dB (dB (ck false [(x1,x2),(y1,y2)]) (az x1 y2)) (az y1 x2)) (os (dS (ck false [(x1,x2),(y1,y2)]) (az x1 y2)) (dS (dB (ck false [(x1,x2),(y1,y2)]) (az x1 y2)) (az y1 x2)))) (dS (dB (dB (dB (ck false [(x1,x2),(y1,y2)]) (az x1 y2)) (az y1 x2)) (os (dS (ck false [(x1,x2),(y1,y2)]) (az x1 y2)) (dS (dB (ck false [(x1,x2),(y1,y2)]) (az x1 y2)) (az y1 x2)))) (az x2 y2))))]) (b:=C1.heap.size) (o:=0) iO Z bV ?_ ?_;exact Z;exact aa0 a3 (i:=0) Z;exact aM (t:=7) WD _
def Om (x1 x2 y1 y2:List UInt8)(w:World)(ht:Tb w):CL 155 #[.func (.func 186) #[] #[],.agg #[S x1,S x2],.agg #[S y1,S y2]] w (aI w λv w'=>v=gT (jL (x1,x2) (y1,y2))):=JD x1 x2 y1 y2▸EG Im (λa b W hW=>x5 a b W hW) x1 x2 y1 y2 w ht
def On (x1 x2 y1 y2:List UInt8)(w:World)(ht:Tb w):CL 155 #[.func (.func 86) #[] #[],.agg #[S x1,S x2],.agg #[S y1,S y2]] w (aI w λv w'=>v=gT (dx (x1,x2) (y1,y2))):=JE x1 x2 y1 y2▸EG D9 (λa b W hW=>sQ a b W hW) x1 x2 y1 y2 w ht
def Oo (x1 x2 y1 y2:List UInt8)(w:World)(ht:Tb w):
 CL 312 #[.agg #[S x1,S x2],.agg #[S y1,S y2]] w (aI w λv w'=>v=gT (jL (x1,x2) (y1,y2))):=by
 refine aE func312 Z (I ?_);refine bx (λ_ A1 G=>?_);have ht:=ab6 A1.2 ht;have E:=A1.2;refine bx (λAb W H=>?_);have ht:=ab6 W.2 ht;have⟨G,E⟩:=bn W.2 G E;refine al aY (λ_ A0 O=>?_);have ht:=ab6 A0.2 ht;have⟨G,H,E⟩:=cj A0.2 G H E;refine I ?_;refine cl QN (Om x1 x2 y1 y2 _ ht) ?_;rintro _ _ Am rfl;have⟨G,H,O,E⟩:=eY Am.2 G H O E;refine I ?_;refine SA O (λ_ A2 Af=>?_);have⟨G,H⟩:=kI A2 G H;have E:=bh A2 E;refine I ?_;refine aX (v:=.tuple #[.agg #[S (rN (jL (x1,x2) (y1,y2))),S (rD (jL (x1,x2) (y1,y2)))],.int .i64 (TK (jL (x1,x2) (y1,y2)))]) (cQ (r1:=.cell 4 33) (r2:=.tmp 5) Z ?_ ?_) E Z;refine ai (t:=4) (cs:=[S (rN (jL (x1,x2) (y1,y2))),S (rD (jL (x1,x2) (y1,y2)))]) (b:=Ab.heap.size) (o:=0) iO Z bV ?_ ?_;exact Z;exact aa0 Af (i:=0) Z;exact aM (t:=5) WD _
def EH (x1 x2 y1 y2:List UInt8)(w:World)(ht:Tb w):
 CL 117 #[.agg #[S x1,S x2],.agg #[S y1,S y2]] w (aI w λv w'=>v=gT (dx (x1,x2) (y1,y2))):=by
 refine aE func117 Z (I ?_);refine bx (λ_ A1 G=>?_);have ht:=ab6 A1.2 ht;have E:=A1.2;refine bx (λAb W H=>?_);have ht:=ab6 W.2 ht;have⟨G,E⟩:=bn W.2 G E;refine al aY (λ_ A0 O=>?_);have ht:=ab6 A0.2 ht;have⟨G,H,E⟩:=cj A0.2 G H E;refine I ?_;refine cl QN (On x1 x2 y1 y2 _ ht) ?_;rintro _ _ Am rfl;have⟨G,H,O,E⟩:=eY Am.2 G H O E;refine I ?_;refine SA O (λ_ A2 Af=>?_);have⟨G,H⟩:=kI A2 G H;have E:=bh A2 E;refine I ?_;refine aX (v:=.tuple #[.agg #[S (rN (dx (x1,x2) (y1,y2))),S (rD (dx (x1,x2) (y1,y2)))],.int .i64 (TK (dx (x1,x2) (y1,y2)))]) (cQ (r1:=.cell 4 33) (r2:=.tmp 5) Z ?_ ?_) E Z;refine ai (t:=4) (cs:=[S (rN (dx (x1,x2) (y1,y2))),S (rD (dx (x1,x2) (y1,y2)))]) (b:=Ab.heap.size) (o:=0) iO Z bV ?_ ?_;exact Z;exact aa0 Af (i:=0) Z;exact aM (t:=5) WD _
end Go.Proofs.YtlmihmlnpjkblaaGreatDoor
