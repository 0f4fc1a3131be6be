/- Part of the proof of a statement about an adjustment. -/
import Derived.Test.YtlmihmlnpjkblaaGreatDoorInt6ToInt12G
set_option linter.all false
namespace Go.Proofs.YtlmihmlnpjkblaaGreatDoor
variable {ng nx ny:Bool}{a l b:List UInt8}{lo q:Nat}{A:Option Addr}{p:Prop}{w w':World}
set_option maxRecDepth 100000
open Go Go.Eng Go.RowKit Tryz
attribute [local irreducible] wpListIn Code.wpIn Oper.wpIn Exit.then Exit.inBlock Exit.noGoto
set_option maxHeartbeats 40000000
def bE (h:p:=by assumption):p:=h
def cO {n c a k:Nat}(h:en w lo A n c a)(hl:a<10000^k):n<=k:=by rw[<-h.len];exact(bi 10000 U a k).2 hl
def eA (h:isInt l=true):aD (body l)<10000^50:=qb1 (sy (ez h)) dc
def mW (l:List UInt8):bR (neg l) (aD (body l))=ai l:=rfl
def EE (ng:Bool)(a:Nat):bR (!ng) a=-bR ng a:=by cases ng <;>simp[bR]
def qM {a b:Bool}(h:¬(a&&b)=true):(a&&b)=false:=by simpa using h
def ik {a b:Bool}(h:(a&&b)=true):a=true:=by simp at h;exact h.1
def g5 {a b:Bool}(h:(a&&b)=true):b=true:=by simp at h;exact h.2
def xT (h:(isInt a&&isInt b)=true):xP a b=bj (ai a+ai b):=by unfold xP;rw[if_pos h]
def N8 (h:(isInt a&&isInt b)=false):xP a b=none:=by unfold xP;rw[h];rfl
def pf (h:(isInt a&&isInt b)=true):aW a b=bj (ai a-ai b):=by unfold aW;rw[if_pos h]
def xU (h:(isInt a&&isInt b)=false):aW a b=none:=by unfold aW;rw[h];rfl
def gH (h:(isInt a&&isInt b)=true):az a b=bj (ai a*ai b):=by unfold az;rw[if_pos h]
def N9 (h:(isInt a&&isInt b)=false):az a b=none:=by unfold az;rw[h];rfl
def xV (h:(isInt a&&isInt b)=false):bT a b=none:=by unfold bT;rw[h];rfl
def xW (h:(isInt a&&isInt b)=false):dR a b=0:=by unfold dR;rw[h];rfl
def EF (h:(isInt a&&isInt b)=true):bT a b=bj (bR false (Nat.gcd (aD (body a)) (aD (body b)))):=by
 unfold bT;rw[if_pos h]
 have:Int.gcd (ai a) (ai b)=Nat.gcd (aD (body a)) (aD (body b)):=by rw[Int.gcd,ec,ec]
 rw[this];rfl
def Oa (x y:Bool)(a b:Nat):bR (!(x==y)) (a*b)=bR x a*bR y b:=by cases x <;>cases y <;>simp[bR,Int.neg_mul,Int.mul_neg]
def sum_lt (ha:isInt a=true)(hb:isInt b=true){r:Nat}{s:Int}(h:bR ng r=ai a+s)(hs:s=ai b\/s=-ai b):r<10000^51:=by
 have h1:=eA ha
 have h2:=eA hb
 have e:(bR ng r).natAbs=r:=jQ ng r
 have G:=ec a
 have E:=ec b
 have:(10000:Nat)^51=10000^50*10000:=by rw[<-Nat.pow_succ]
 generalize (10000:Nat)^50=M at *
 omega
def qu (h:(isInt a&&isInt b)=true)(ha:neg a=true)(hb:neg b=true):aQ ((aD (body b):Nat):Int) ((aD (body a):Nat):Int)=dR a b:=by
 unfold dR;rw[if_pos h]
 refine oc ?_ ?_ <;>(unfold ai;rw[if_pos ha,if_pos hb];omega)
def qz (h:(isInt a&&isInt b)=true)(ha:neg a=true)(hb:neg b=false):(-1:Int)=dR a b:=by
 unfold dR;rw[if_pos h,gd]
 have:=o4 (ez (ik h)) (og (ik h) ha)
 unfold ai;rw[if_pos ha,if_neg (by simp[hb])];omega
def ua (h:(isInt a&&isInt b)=true)(ha:neg a=false)(hb:neg b=true):(1:Int)=dR a b:=by
 unfold dR;rw[if_pos h,eT]
 have:=o4 (ez (g5 h)) (og (g5 h) hb)
 have e1:ai a=(aD (body a):Int):=by unfold ai;rw[if_neg (by simp[ha])]
 have e2:ai b=-(aD (body b):Int):=by unfold ai;rw[if_pos hb]
 rw[e1,e2];omega
def ub (h:(isInt a&&isInt b)=true)(ha:neg a=false)(hb:neg b=false):aQ ((aD (body a):Nat):Int) ((aD (body b):Nat):Int)=dR a b:=by
 unfold dR;rw[if_pos h]
 unfold ai;rw[if_neg (by simp[ha]),if_neg (by simp[hb])]
def vL (o:Option (List UInt8×List UInt8)):Value:=.tuple #[S (rS (o.map (·.1))),S (rS (o.map (·.2))),.int .i64 (if o.isSome then 0 else 30)]
def xX (h:(isInt a&&isInt b)=false):dt a b=none:=by unfold dt;rw[h];rfl
def mE (h:aD (body b)=0):dt a b=none:=by
 unfold dt
 by_cases hb:isInt b=true
 · have:b=[48]:=(ge hb).1 (by have:=ec b;omega)
   simp[this]
 · simp[hb]
def lB (h:(isInt a&&isInt b)=true)(h0:0<aD (body b)):dt a b=(bj (ai a/ai b)).map λq=>(q,ae (ai a%ai b)):=by
 have hb:b≠[48]:=by intro e;subst e;exact absurd qH (by have:body [48]=[48]:=rfl;rw[this]at h0;omega)
 unfold dt
 rw[h,decide_eq_true hb];rfl
def z7 (ny:Bool)(x:Int)(b:Nat):x/bR ny b=(if ny then -(x/(b:Int))else x/(b:Int))/\x%bR ny b=x%(b:Int):=by
 cases ny
 · simp[bR]
 · simp[bR,Int.ediv_neg,Int.emod_neg]
def GH {a b:Nat}(hb:0<b)(hc:nx=false\/a%b=0):bR (!(nx==ny)) (a/b)=bR nx a/bR ny b/\((a%b:Nat):Int)=bR nx a%bR ny b:=by
 obtain⟨e1,e2⟩:=z7 ny (bR nx a) b
 rw[e1,e2]
 cases nx with
 | false=>
   simp only[bR,Bool.false_eq_true,if_false]
   cases ny <;>simp
 | true=>
   have E:a%b=0:=by rcases hc with h|h;cases h;exact h
   have hd:(b:Int)∣(a:Int):=Int.natCast_dvd_natCast.2 (Nat.dvd_of_mod_eq_zero E)
   simp only[bR,if_true]
   rw[Int.neg_ediv_of_dvd hd,Int.emod_eq_zero_of_dvd (Int.dvd_neg.2 hd),E]
   cases ny <;>simp
def GI {a b:Nat}(hb:0<b)(hr:0<a%b):bR (!(true==ny)) (a/b+1)=bR true a/bR ny b/\((b-a%b:Nat):Int)=bR true a%bR ny b:=by
 obtain⟨e1,e2⟩:=z7 ny (bR true a) b
 rw[e1,e2]
 have hlt:=Nat.mod_lt a hb
 have E:=Nat.div_add_mod a b
 have key:(-(a:Int))/(b:Int)=-((a/b:Nat):Int)-1/\(-(a:Int))%(b:Int)=((b-a%b:Nat):Int):=by
  refine(Int.ediv_emod_unique U).2 ⟨?_,by omega,by omega⟩
  have h3:(a:Int)=(b:Int)*((a/b:Nat):Int)+((a%b:Nat):Int):=by rw[<-Int.natCast_mul,<-Int.natCast_add,E]
  rw[Int.mul_sub,Int.mul_neg]
  omega
 simp only[bR,if_true]
 rw[key.1,key.2]
 cases ny <;>simp <;>omega
def TF {r:Nat}{x:Int}(hr:r<10^200)(h:(r:Int)=x):rS (bj (bR false r))=ae x:=by
 have hf:fits x=true:=by unfold fits;rw[decide_eq_true_eq];omega
 have e:bR false r=x:=h
 rw[e];unfold bj;rw[if_pos hf];rfl
def lC {r:Nat}(hb:isInt b=true)(h:r<=aD (body b)):r<10^200:=Nat.lt_of_le_of_lt h (sy (ez hb))
def Ob {o:Option (List UInt8)}(h:rE o=0):∃s,o=some s:=by cases o with|none=>simp[rE]at h|some s=>exact⟨s,rfl⟩
def W8 {o:Option (List UInt8)}(h:¬rE o=0):o=none:=by cases o with|none=>rfl|some s=>simp[rE]at h
def gh {r:Nat}(h:(isInt a&&isInt b)=true)(h0:0<aD (body b))(hq:bR ng q=ai a/ai b)(hr:(r:Int)=ai a%ai b)(hl:r<=aD (body b))(hE:rE (bj (bR ng q))=0):
 Value.tuple #[S (rS (bj (bR ng q))),S (rS (bj (bR false r))),.int .i64 0]=vL (dt a b):=by
 rw[lB h h0,TF (lC (g5 h) hl) hr,<-hq]
 obtain⟨s,hs⟩:=Ob hE
 rw[hs];rfl
def gi (h:(isInt a&&isInt b)=true)(h0:0<aD (body b))(hq:bR ng q=ai a/ai b)(hE:¬rE (bj (bR ng q))=0):
 Value.tuple #[S [],S [],.int .i64 (rE (bj (bR ng q)))]=vL (dt a b):=by
 rw[lB h h0,<-hq,W8 hE];rfl
def Oc (ha:isInt a=true)(hb:isInt b=true):aD (body a)*aD (body b)<10000^100:=by
 have h1:=eA ha
 have h2:=eA hb
 have:(10000:Nat)^100=10000^50*10000^50:=by rw[<-Nat.pow_add]
 rw[this]
 exact Nat.mul_lt_mul'' h1 h2
def xY (lo:Nat)(ng:Bool)(a:Nat)(v:Value)(w:World):Prop:=∃A n c,v=.agg #[.bool ng,.slice A n c]/\en w lo A n c a
def xY.ext {a:Nat}{v:Value}(k:aN w w')(h:xY lo ng a v w):xY lo ng a v w':=by
 obtain⟨A,n,c,hv,E⟩:=h
 exact⟨A,n,c,hv,E.ext k⟩
def xZ (a b:List UInt8)(w:World)(ht:Tb w):
 CL 186 #[S a,S b] w (aH w λv w'=>v=iC (xP a b)):=by
 by_cases H:(isInt a&&isInt b)=true;have A0:=ik H;have hb:=g5 H;refine aC func186 Z (I ?_);refine cl kI (lA _ _ _ A0 hb) ?_;rintro _ _ Az ⟨A1,CG,c1,A2,n2,c2,rfl,h1,h2⟩;have E:=Az.2;have CB:=cO h1 (eA A0);have Cr:=cO h2 (eA hb);have Ax:=h1.hi;have Av:=h2.hi;refine I ?_;refine al bH (λ_ Af Am=>?_);have h1:=aa9 Af.2 h1;have h2:=aa9 Af.2 h2;have E:=xt E Af.2;refine al bH (λ_ Ao Ap=>?_);have h1:=aa9 Ao.2 h1;have h2:=aa9 Ao.2 h2;have⟨Am,E⟩:=bw Ao.2 Am E;refine SA Am (λ_ Ab Ar=>?_);have h1:=ac2 Ab (λO e=>by have:=Ax O e;omega) h1;have h2:=ac2 Ab (λO e=>by have:=Av O e;omega) h2;have⟨Ap,E,_⟩:=kC Ab Ap E;refine SA Ap (λ_ W _=>?_);have h1:=ac2 W (λO e=>by have:=Ax O e;omega) h1;have h2:=ac2 W (λO e=>by have:=Av O e;omega) h2;have Ar:=pb W Ar;have E:=bA W E;refine I ?_;refine clb QG (hc:=zX h1 U h2 U) (hk:=?_);rintro _ _ B1 ⟨ng,r,A,n,c,rfl,hr,hs⟩;have E:=xt E B1.2;rw[mW,mW]at hs;have CY:=cO hr (sum_lt A0 hb hs (by exact Or.inl Z));refine clb mo (hc:=fO hr U (ht.ext E)) (hk:=?_);rintro _ _ B2 rfl;have E:=xt E B2.2;refine I ?_
 exact bF (t:=4) (u:=5) (v1:=S (rS (bj (bR ng r)))) (v2:=.int .i64 (rE (bj (bR ng r)))) Z E (by rw[xT H];exact qb2 (λx=>iC (bj x)) hs) Z Z;have H:=qM H;refine aC func186 Z (I ?_);refine cl kI (mV _ _ _ H) ?_;rintro _ _ wr rfl;have G:=wr.2;refine I ?_;refine al bH (λ_ C0 nm=>?_);have G:=xt G C0.2;refine al bH (λ_ B0 Aq=>?_);have⟨nm,G⟩:=bw B0.2 nm G;refine SA nm (λ_ Ay As=>?_);have⟨Aq,G,_⟩:=kC Ay Aq G;refine SA Aq (λ_ Aw _=>?_);have As:=pb Aw As;have G:=bA Aw G;refine I ?_;exact bF (t:=4) (u:=5) (v1:=S []) (v2:=.int .i64 30) Z G (by rw[N8 H];rfl) Z Z
def sF (a b:List UInt8)(w:World)(ht:Tb w):
 CL 86 #[S a,S b] w (aH w λv w'=>v=iC (aW a b)):=by
 by_cases O:(isInt a&&isInt b)=true;have Ab:=ik O;have hb:=g5 O;refine aC func86 Z (I ?_);refine cl kI (lA _ _ _ Ab hb) ?_;rintro _ _ wr ⟨A1,CY,c1,A2,n2,c2,rfl,h1,h2⟩;have E:=wr.2;have CG:=cO h1 (eA Ab);have D1:=cO h2 (eA hb);have As:=h1.hi;have Am:=h2.hi;refine I ?_;refine al bH (λ_ Av nm=>?_);have h1:=aa9 Av.2 h1;have h2:=aa9 Av.2 h2;have E:=xt E Av.2;refine al bH (λ_ Ao Aw=>?_);have h1:=aa9 Ao.2 h1;have h2:=aa9 Ao.2 h2;have⟨nm,E⟩:=bw Ao.2 nm E;refine SA nm (λ_ Ap W=>?_);have h1:=ac2 Ap (λG e=>by have:=As G e;omega) h1;have h2:=ac2 Ap (λG e=>by have:=Am G e;omega) h2;have⟨Aw,E,_⟩:=kC Ap Aw E;refine SA Aw (λ_ Aq B0=>?_);have h1:=ac2 Aq (λG e=>by have:=As G e;omega) h1;have h2:=ac2 Aq (λG e=>by have:=Am G e;omega) h2;have⟨W,E,_⟩:=kC Aq W E;refine I ?_;refine SO B0 (λ_ A0 _=>?_);have h1:=ac2 A0 (λG e=>by have:=As G e;omega) h1;have h2:=ac2 A0 (λG e=>by have:=Am G e;omega) h2;have W:=pb A0 W;have E:=bA A0 E;refine I ?_;refine clb QG (hc:=zX h1 U h2 U) (hk:=?_);rintro _ _ B1 ⟨ng,r,A,n,c,rfl,hr,hs⟩;have E:=xt E B1.2;rw[mW,EE,mW]at hs;have Cr:=cO hr (sum_lt Ab hb hs (by exact Or.inr Z))
 refine clb mo (hc:=fO hr U (ht.ext E)) (hk:=?_);rintro _ _ Az rfl;have E:=xt E Az.2;refine I ?_;exact bF (t:=4) (u:=5) (v1:=S (rS (bj (bR ng r)))) (v2:=.int .i64 (rE (bj (bR ng r)))) Z E (by rw[pf O];rw[show ai a-ai b=ai a+-ai b from rfl];exact qb2 (λx=>iC (bj x)) hs) Z Z;have O:=qM O;refine aC func86 Z (I ?_);refine cl kI (mV _ _ _ O) ?_;rintro _ _ CB rfl;have H:=CB.2;refine I ?_;refine al bH (λ_ C0 Af=>?_);have H:=xt H C0.2;refine al bH (λ_ B2 Ar=>?_);have⟨Af,H⟩:=bw B2.2 Af H;refine SA Af (λ_ od Ay=>?_);have⟨Ar,H,_⟩:=kC od Ar H;refine SA Ar (λ_ Ax _=>?_);have Ay:=pb Ax Ay;have H:=bA Ax H;refine I ?_;exact bF (t:=4) (u:=5) (v1:=S []) (v2:=.int .i64 30) Z H (by rw[xU O];rfl) Z Z
def EG (a b:List UInt8)(w:World)(ht:Tb w):
 CL 85 #[S a,S b] w (aH w λv w'=>v=iC (az a b)):=by
 by_cases H:(isInt a&&isInt b)=true;have Af:=ik H;have hb:=g5 H;refine aC func85 Z (I ?_);refine cl kI (lA _ _ _ Af hb) ?_;rintro _ _ C0 ⟨A1,FR,c1,A2,n2,c2,rfl,h1,h2⟩;have E:=C0.2;have EW:=cO h1 (eA Af);have GC:=cO h2 (eA hb);have B2:=h1.hi;have B0:=h2.hi;refine I ?_;refine al bH (λ_ Aw Ao=>?_);have h1:=aa9 Aw.2 h1;have h2:=aa9 Aw.2 h2;have E:=xt E Aw.2;refine al bH (λ_ As Am=>?_);have h1:=aa9 As.2 h1;have h2:=aa9 As.2 h2;have⟨Ao,E⟩:=bw As.2 Ao E;refine SA Ao (λ_ Aq B1=>?_);have h1:=ac2 Aq (λO e=>by have:=B2 O e;omega) h1;have h2:=ac2 Aq (λO e=>by have:=B0 O e;omega) h2;have⟨Am,E,_⟩:=kC Aq Am E;refine SA Am (λE1 Ab _=>?_);have h1:=ac2 Ab (λO e=>by have:=B2 O e;omega) h1;have h2:=ac2 Ab (λO e=>by have:=B0 O e;omega) h2;have B1:=pb Ab B1;have E:=bA Ab E;refine I ?_;obtain⟨L,_⟩:∃L,L=E1.heap.size:=⟨_,rfl⟩;refine bP 14 ?_;refine sf ?_;refine aB (λ_ _ _ _=>by refine aa (md (a:=neg a) (b:=neg b) (q:=(!((neg a)==(neg b)))) U4 Z Z Z ?_);refine I ?_;exact aK) ?_;refine sf ?_;refine b8 (λv w=>qc L (aD (body a)*aD (body b)) v w) (hs:=λ_ _ _ k h=>h.ext k) (λ_ _ Ap _=>?_) ?_;have h1:=aa9 Ap h1;have h2:=aa9 Ap h2
 refine clb Wd (hc:=Jc h1 U h2 U) (hk:=?_);rintro _ _ E6 ⟨Ar,W,A0,rfl,hr⟩;have CY:=E6.2;have hr:=hr.mono (lo':=L) (by have:=bz Ap;omega);refine I ?_;exact fs ⟨CY,⟨Ar,W,A0,rfl,hr⟩⟩;refine b8 (λv w=>xY L (!(neg a==neg b)) (aD (body a)*aD (body b)) v w) (hs:=λ_ _ _ k h=>h.ext k) (λ_ _ _ E0=>?_) ?_;obtain⟨Ar,W,A0,D2,hr⟩:=(E0 9 27 Z Z);refine aa (b7 (vs:=[(0,.bool (!((neg a)==(neg b)))),(1,.slice Ar W A0)]) (cells:=#[.bool (!((neg a)==(neg b))),.slice Ar W A0]) (pl:=[(0,1),(1,1)]) kH bH q0 (db Z (db D2 Z)) q0 ?_);refine I ?_;exact fs ⟨aa0 _,⟨Ar,W,A0,rfl,hr⟩⟩;refine a7 (V:=.tuple #[S (rS (bj (bR (!(neg a==neg b)) (aD (body a)*aD (body b))))),.int .i64 (rE (bj (bR (!(neg a==neg b)) (aD (body a)*aD (body b)))))]) (λ_ _ ES E7=>?_) ?_;obtain⟨_,_,_,Cr,hq⟩:=(E7 10 28 Z Z);have G0:=cO hq (Oc Af hb);refine clb mo (hc:=fO hq U (ht.ext (xt E ES))) (hk:=?_) (hv:=aw Cr Z);rintro _ _ D1 rfl;have E9:=D1.2;refine I ?_;exact fs ⟨E9,rfl⟩;refine sf ?_;intro _ _ nm _;have E:=xt E nm.2;refine I ?_
 exact bF (t:=4) (u:=5) (v1:=S (rS (bj (bR (!(neg a==neg b)) (aD (body a)*aD (body b)))))) (v2:=.int .i64 (rE (bj (bR (!(neg a==neg b)) (aD (body a)*aD (body b)))))) Z E (by rw[gH H,<-mW,<-mW,<-Oa];rfl) Z Z;have H:=qM H;refine aC func85 Z (I ?_);refine cl kI (mV _ _ _ H) ?_;rintro _ _ E4 rfl;have G:=E4.2;refine I ?_;refine al bH (λ_ E5 Av=>?_);have G:=xt G E5.2;refine al bH (λ_ CG Ax=>?_);have⟨Av,G⟩:=bw CG.2 Av G;refine SA Av (λ_ CB Ay=>?_);have⟨Ax,G,_⟩:=kC CB Ax G;refine SA Ax (λ_ Az _=>?_);have Ay:=pb Az Ay;have G:=bA Az G;refine I ?_;exact bF (t:=4) (u:=5) (v1:=S []) (v2:=.int .i64 30) Z G (by rw[N9 H];rfl) Z Z
def pg (a b:List UInt8)(w:World):
 CL 64 #[S a,S b] w (aH w λv w'=>v=.int .i64 (dR a b)):=by
 by_cases E:(isInt a&&isInt b)=true;have Aq:=ik E;have hb:=g5 E;refine aC func64 Z (I ?_);refine cl kI (lA _ _ _ Aq hb) ?_;rintro _ _ B0 ⟨A1,CG,c1,A2,n2,c2,rfl,h1,h2⟩;have G:=B0.2;have CB:=cO h1 (eA Aq);have CY:=cO h2 (eA hb);have Aw:=h1.hi;have As:=h2.hi;refine I ?_;refine al bH (λ_ nm Ap=>?_);have h1:=aa9 nm.2 h1;have h2:=aa9 nm.2 h2;have G:=xt G nm.2;refine al bH (λ_ Ao Ab=>?_);have h1:=aa9 Ao.2 h1;have h2:=aa9 Ao.2 h2;have⟨Ap,G⟩:=bw Ao.2 Ap G;refine SA Ap (λ_ Am Ar=>?_);have h1:=ac2 Am (λO e=>by have:=Aw O e;omega) h1;have h2:=ac2 Am (λO e=>by have:=As O e;omega) h2;have⟨Ab,G,_⟩:=kC Am Ab G;refine SA Ab (λ_ W _=>?_);have h1:=ac2 W (λO e=>by have:=Aw O e;omega) h1;have h2:=ac2 W (λO e=>by have:=As O e;omega) h2;have Ar:=pb W Ar;have G:=bA W G;refine I ?_;rcases qa4 (neg a)with cx|cx;refine I ?_;rcases qa4 (neg b)with nv|nv;refine I ?_;refine clb zn (hc:=jN h2 U h1) (hk:=?_);rintro _ _ B2 rfl;have G:=xt G B2.2;refine I ?_;exact am (t:=4) (v:=.int .i64 (aQ ((aD (body b):Nat):Int) ((aD (body a):Nat):Int))) Z G (qb2 (Value.int .i64) Th) Z
 refine I ?_;exact am (t:=4) (v:=.int .i64 (-1)) Z G (qb2 (Value.int .i64) Th) rfl;refine I ?_;rcases qa4 (neg b)with od|od;refine I ?_;exact am (t:=4) (v:=.int .i64 1) Z G (qb2 (Value.int .i64) Th) rfl;refine I ?_;refine clb zn (hc:=jN h1 U h2) (hk:=?_);rintro _ _ C0 rfl;have G:=xt G C0.2;refine I ?_;exact am (t:=4) (v:=.int .i64 (aQ ((aD (body a):Nat):Int) ((aD (body b):Nat):Int))) Z G (qb2 (Value.int .i64) Th) rfl;have E:=qM E;refine aC func64 Z (I ?_);refine cl kI (mV _ _ _ E) ?_;rintro _ _ B1 rfl;have H:=B1.2;refine I ?_;refine al bH (λ_ Ay A0=>?_);have H:=xt H Ay.2;refine al bH (λ_ Ax Af=>?_);have A0:=be Ax.2 A0;have H:=xt H Ax.2
 refine SA A0 (λ_ Az wr=>?_);have⟨Af,H,_⟩:=kC Az Af H;refine SA Af (λ_ Av _=>?_);have wr:=pb Av wr;have H:=bA Av H;refine I ?_;exact am (t:=4) (v:=.int .i64 0) Z H (by rw[xW E]) Z
def ke (h:p:=by kernel_rfl):p:=h
def ee (h:p:=by assumption):p:=h
def Od (h:Rw w lo A [Value.int .i64 1]):en w lo A 1 1 1:=by
 have e:au 10000 1=[1]:=by decide
 exact⟨by rw[e];exact h,by rw[e];rfl,qa0 _⟩
def Yw (h0:0<aD (body b))(hc:neg a=false\/aD (body a)%aD (body b)=0):bR (!(neg a==neg b)) (aD (body a)/aD (body b))=ai a/ai b/\((aD (body a)%aD (body b):Nat):Int)=ai a%ai b:=
 GH h0 hc
def Z5 (h0:0<aD (body b))(ha:neg a=true)(hr:0<aD (body a)%aD (body b)):bR (!(neg a==neg b)) (aD (body a)/aD (body b)+1)=ai a/ai b/\((aD (body b)-aD (body a)%aD (body b):Nat):Int)=ai a%ai b:=by
 have:=GI (ny:=neg b) h0 hr
 rw[<-ha]at this
 exact this
def z8 {a b:Nat}(h:a<10000^50):a/b<10000^50:=Nat.lt_of_le_of_lt (Nat.div_le_self a b) h
def GJ {a:Nat}(h:a<10000^50):a+1<10000^51:=by
 have:(10000:Nat)^51=10000^50*10000:=by rw[<-Nat.pow_succ]
 generalize (10000:Nat)^50=M at *
 omega
def Aa {x y G:Nat}(h:Nat.gcd x y=G):Nat.gcd y (x%y)=G:=by rw[Nat.gcd_comm,<-Nat.gcd_rec,Nat.gcd_comm];exact h
def TG :
 CL 122 #[] w (aH w λv w'=>∃A n c,v=.slice A n c/\en w' w.heap.size A n c 1):=by
 refine aC func122 Z (I ?_);refine BS (λ_ E _ G=>?_);have H:=E;refine I ?_;exact am (t:=0) (v:=.slice (some ⟨w.heap.size,0,none⟩) 1 1) Z H ⟨_,_,_,rfl,Od (ab0 G)⟩ Z
def kf (a b:List UInt8)(w:World)(ht:Tb w):
 CL 63 #[S a,S b] w (aH w λv w'=>v=vL (dt a b)):=by
 by_cases O:(isInt a&&isInt b)=true;have Aw:=ik O;have hb:=g5 O;refine aC func63 Z (I ?_);refine cl kI (lA _ _ _ Aw hb) ?_;rintro _ _ K2 ⟨A1,P1,c1,A2,n2,c2,rfl,h1,h2⟩;have E:=K2.2;have T2:=cO h1 (eA Aw);have S0:=cO h2 (eA hb);have E9:=h1.hi;have H2:=h2.hi;refine I ?_;refine al bH (λ_ CB D1=>?_);have h1:=aa9 CB.2 h1;have h2:=aa9 CB.2 h2;have E:=xt E CB.2;refine al bH (λ_ B2 CG=>?_);have h1:=aa9 B2.2 h1;have h2:=aa9 B2.2 h2;have⟨D1,E⟩:=bw B2.2 D1 E;refine SA D1 (λ_ B1 As=>?_);have h1:=ac2 B1 (λAb e=>by have:=E9 Ab e;omega) h1;have h2:=ac2 B1 (λAb e=>by have:=H2 Ab e;omega) h2;have⟨CG,E,_⟩:=kC B1 CG E;refine SA CG (λ_ B0 Ax=>?_);have h1:=ac2 B0 (λAb e=>by have:=E9 Ab e;omega) h1;have h2:=ac2 B0 (λAb e=>by have:=H2 Ab e;omega) h2;have As:=pb B0 As;have E:=bA B0 E;refine I ?_;by_cases aoz:(n2:Int)=0;have G:aD (body b)=0:=jw (B:=10000) U (h2.len.trans U);refine I ?_;exact fH (t:=4) (u:=5) (s:=6) (v1:=S []) (v2:=S []) (v3:=.int .i64 30) Z E Nd Z Z Z;have G:0<aD (body b):=mD (B:=10000) U kd0;refine I ?_
 refine clb D3 (hc:=su h1 U h2 U G) (hk:=?_);rintro _ KM E0 ⟨Aq,S9,Q0,Ar,Av,Az,rfl,hq,hr⟩;have h2:=aa9 E0.2 h2;have⟨As,Ax,E⟩:=cD E0.2 As Ax E;have Li:=cO hq (z8 (eA Aw));have P2:=cO hr (Nat.lt_trans (Nat.mod_lt _ G) (eA hb));refine I ?_;rcases qa4 (neg a)with ly|ly;refine I ?_;by_cases ao0:0<(Av:Int);have D2:0<aD (body a)%aD (body b):=mD (B:=10000) U (by rw[hr.len];omega);have H:=Z5 G ly D2;have A0:aD (body b)-aD (body a)%aD (body b)<=aD (body b):=Nat.sub_le _ _;refine I ?_;obtain⟨L,_⟩:∃L,L=KM.heap.size:=⟨_,rfl⟩;have E5:aD (body a)%aD (body b)<=aD (body b):=Nat.le_of_lt (Nat.mod_lt _ G);have La:Av<=n2:=by rw[<-hr.len,<-h2.len];exact ey U E5
 have l1':=Li;refine bP 7 ?_;refine sf ?_;refine b8 (λv w=>qc L 1 v w) (hs:=λ_ _ _ k h=>h.ext k) (λ_ _ Ix _=>?_) ?_;refine cl VZ TG ?_;rintro _ _ Ne ⟨A1c,E7,EW,rfl,Ao⟩;have N0:=Ne.2;have Ao:=Ao.mono (lo':=L) (by have:=bz Ix;omega);refine I ?_;exact fs ⟨N0,⟨A1c,E7,EW,rfl,Ao⟩⟩;refine b8 (λv w=>qc L (aD (body a)/aD (body b)+1) v w) (hs:=λ_ _ _ k h=>h.ext k) (λ_ _ G0 Lk=>?_) ?_;obtain⟨A1c,E7,EW,KY,Ao⟩:=(Lk 1 47 Z Z);have T3:=cO (k:=1) Ao dc;have hq:=aa9 G0 hq;refine clb zm (hc:=oX hq U Ao U) (hk:=?_) (hv:=aw Z (aw KY Z));rintro _ _ od ⟨Ap,H4,E4,rfl,Af⟩;have L1:=od.2;have Af:=Af.mono (lo':=L) (by have:=bz G0;omega);refine I ?_;exact fs ⟨L1,⟨Ap,H4,E4,rfl,Af⟩⟩;refine sf ?_;refine b8 (λv w=>qc L (aD (body b)-aD (body a)%aD (body b)) v w) (hs:=λ_ _ _ k h=>h.ext k) (λ_ _ C0 _=>?_) ?_;have h2:=aa9 C0 h2;have hr:=aa9 C0 hr;refine clb D5 (hc:=oZ h2 U hr U E5 La) (hk:=?_);rintro _ _ P0 ⟨Am,nm,Ay,rfl,hm⟩;have Lj:=P0.2;have hm:=hm.mono (lo':=L) (by have:=bz C0;omega);refine I ?_;exact fs ⟨Lj,⟨Am,nm,Ay,rfl,hm⟩⟩;refine sf ?_;intro _ _ wr H3;have⟨As,Ax,E⟩:=cD wr.2 As Ax E;obtain⟨Ap,H4,E4,_,Af⟩:=(H3 2 48 Z Z);obtain⟨Am,nm,Ay,_,hm⟩:=(H3 6 52 Z Z);refine I ?_
 have Rm:=cO Af (GJ (z8 (eA Aw)));have V0:=cO hm (Nat.lt_of_le_of_lt (Nat.sub_le _ _) (eA hb));refine I ?_;refine aa (md (a:=neg a) (b:=neg b) (q:=(!((neg a)==(neg b)))) U4 Z Z Z ?_);refine I ?_;refine clb mo (hc:=fO Af U (ht.ext E)) (hk:=?_);rintro _ _ ES rfl;have hm:=aa9 ES.2 hm;have E:=xt E ES.2;refine I ?_;by_cases ao2:(rE (bj (bR (!((neg a)==(neg b))) (aD (body a)/aD (body b)+1))))=0;refine I ?_;refine aa (b7 (vs:=[(1,.slice Am nm Ay)]) (cells:=#[.bool false,.slice Am nm Ay]) (pl:=[(0,1),(1,1)]) kH bH ke Z ke ?_);refine clb mo (hc:=fO hm U (ht.ext E)) (hk:=?_);rintro _ _ KC rfl;have E:=xt E KC.2;refine I ?_;exact fH (t:=4) (u:=5) (s:=6) (v1:=S (rS (bj (bR (!((neg a)==(neg b))) (aD (body a)/aD (body b)+1))))) (v2:=S (rS (bj (bR false (aD (body b)-aD (body a)%aD (body b)))))) (v3:=.int .i64 0) Z E Nd Z Z Z;refine I ?_
 exact fH (t:=4) (u:=5) (s:=6) (v1:=S []) (v2:=S []) (v3:=.int .i64 (rE (bj (bR (!((neg a)==(neg b))) (aD (body a)/aD (body b)+1))))) Z E Nd Z Z Z;have D2:aD (body a)%aD (body b)=0:=jw (B:=10000) U (hr.len.trans U);have H:=Yw (a:=a) G (Or.inr D2);have A0:aD (body a)%aD (body b)<=aD (body b):=Nat.le_of_lt (Nat.mod_lt _ G);refine I ?_;refine aa (md (a:=neg a) (b:=neg b) (q:=(!((neg a)==(neg b)))) U4 Z Z Z ?_);refine I ?_;refine clb mo (hc:=fO hq U (ht.ext E)) (hk:=?_);rintro _ _ E1 rfl;have hr:=aa9 E1.2 hr;have E:=xt E E1.2;refine I ?_;by_cases ao3:(rE (bj (bR (!((neg a)==(neg b))) (aD (body a)/aD (body b)))))=0;refine I ?_;refine aa (b7 (vs:=[(1,.slice Ar Av Az)]) (cells:=#[.bool false,.slice Ar Av Az]) (pl:=[(0,1),(1,1)]) kH bH ke Z ke ?_);refine clb mo (hc:=fO hr U (ht.ext E)) (hk:=?_);rintro _ _ L3 rfl;have E:=xt E L3.2;refine I ?_
 exact fH (t:=4) (u:=5) (s:=6) (v1:=S (rS (bj (bR (!((neg a)==(neg b))) (aD (body a)/aD (body b)))))) (v2:=S (rS (bj (bR false (aD (body a)%aD (body b)))))) (v3:=.int .i64 0) Z E Nd Z Z Z;refine I ?_;exact fH (t:=4) (u:=5) (s:=6) (v1:=S []) (v2:=S []) (v3:=.int .i64 (rE (bj (bR (!((neg a)==(neg b))) (aD (body a)/aD (body b)))))) Z E Nd Z Z Z;have H:=Yw G (Or.inl ly);have A0:aD (body a)%aD (body b)<=aD (body b):=Nat.le_of_lt (Nat.mod_lt _ G);refine I ?_;refine aa (md (a:=neg a) (b:=neg b) (q:=(!((neg a)==(neg b)))) U4 Z Z Z ?_);refine I ?_;refine clb mo (hc:=fO hq U (ht.ext E)) (hk:=?_);rintro _ _ GC rfl;have hr:=aa9 GC.2 hr;have E:=xt E GC.2;refine I ?_;by_cases ao4:(rE (bj (bR (!((neg a)==(neg b))) (aD (body a)/aD (body b)))))=0;refine I ?_;refine aa (b7 (vs:=[(1,.slice Ar Av Az)]) (cells:=#[.bool false,.slice Ar Av Az]) (pl:=[(0,1),(1,1)]) kH bH ke Z ke ?_);refine clb mo (hc:=fO hr U (ht.ext E)) (hk:=?_);rintro _ _ L2 rfl;have E:=xt E L2.2;refine I ?_
 exact fH (t:=4) (u:=5) (s:=6) (v1:=S (rS (bj (bR (!((neg a)==(neg b))) (aD (body a)/aD (body b)))))) (v2:=S (rS (bj (bR false (aD (body a)%aD (body b)))))) (v3:=.int .i64 0) Z E Nd Z Z Z;refine I ?_;exact fH (t:=4) (u:=5) (s:=6) (v1:=S []) (v2:=S []) (v3:=.int .i64 (rE (bj (bR (!((neg a)==(neg b))) (aD (body a)/aD (body b)))))) Z E Nd Z Z Z;have O:=qM O;refine aC func63 Z (I ?_);refine cl kI (mV _ _ _ O) ?_;rintro _ _ K3 rfl;have W:=K3.2;refine I ?_;refine al bH (λ_ Kp Cr=>?_);have W:=xt W Kp.2;refine al bH (λ_ L4 CY=>?_);have⟨Cr,W⟩:=bw L4.2 Cr W;refine SA Cr (λ_ No E6=>?_);have⟨CY,W,_⟩:=kC No CY W;refine SA CY (λ_ FR _=>?_);have E6:=pb FR E6;have W:=bA FR W;refine I ?_;exact fH (t:=4) (u:=5) (s:=6) (v1:=S []) (v2:=S []) (v3:=.int .i64 30) Z W (by rw[xX O];rfl) Z Z Z
def x5 (a b:List UInt8)(w:World)(ht:Tb w):
 CL 87 #[S a,S b] w (aH w λv w'=>v=iC (bT a b)):=by
 by_cases Ab:(isInt a&&isInt b)=true;have D2:=ik Ab;have hb:=g5 Ab;refine aC func87 Z (I ?_);refine cl kI (lA _ _ _ D2 hb) ?_;rintro _ E5 FR ⟨A1,D1,c1,A2,n2,c2,rfl,h1,h2⟩;have E:=FR.2;have E6:=cO h1 (eA D2);have GC:=cO h2 (eA hb);have E4:=h1.hi;have E1:=h2.hi;refine I ?_;refine al bH (λH3 CG B0=>?_);have h1:=aa9 CG.2 h1;have h2:=aa9 CG.2 h2;have E:=xt E CG.2;refine al bH (λ_ B1 Aw=>?_);have h1:=aa9 B1.2 h1;have h2:=aa9 B1.2 h2;have⟨B0,E⟩:=bw B1.2 B0 E;refine SA B0 (λ_ B2 H=>?_);have h1:=ac2 B2 (λAf e=>by have:=E4 Af e;omega) h1;have h2:=ac2 B2 (λAf e=>by have:=E1 Af e;omega) h2;have⟨Aw,E,_⟩:=kC B2 Aw E;refine SA Aw (λ_ As A0=>?_);have h1:=ac2 As (λAf e=>by have:=E4 Af e;omega) h1;have h2:=ac2 As (λAf e=>by have:=E1 Af e;omega) h2;have H:=pb As H;have E:=bA As E;refine I ?_;refine bP 5 ?_;refine sf ?_;intro _ _ Av _;have h1:=aa9 Av.2 h1;have h2:=aa9 Av.2 h2;have⟨H,A0,E⟩:=cD Av.2 H A0 E;refine I ?_
 refine ck [(9,12),(26,36)] (λES e W=>∃Ax:Option Addr,∃nx:Nat,∃Ao:Nat,∃x:Nat,∃Ay:Option Addr,∃ny:Nat,∃Ap:Nat,∃y:Nat,(y=ES)/\(e 9=.slice Ax nx Ao)/\(e 10=.slice Ay ny Ap)/\(nx<=50)/\(ny<=50)/\(Nat.gcd x y=Nat.gcd (aD (body a)) (aD (body b)))/\(aN w W)/\(ar W E5.heap.size 161 #[.bool (neg a),.slice A1 D1 c1])/\(ar W H3.heap.size 161 #[.bool (neg b),.slice A2 n2 c2])/\(en W w.heap.size Ax nx Ao x)/\(en W w.heap.size Ay ny Ap y)) (aD (body b)) ⟨A1,D1,c1,aD (body a),A2,n2,c2,aD (body b),rfl,rfl,rfl,E6,GC,rfl,E,H,A0,h1,h2⟩ ?_;rintro _ _ _ ⟨Ax,nx,Ao,x,Ay,ny,Ap,y,rfl,K2,KC,q1,H2,Az,O,H,A0,hx,hy⟩;have KY:=bz O;by_cases hm:0<ny;have Am:0<y:=mD (B:=10000) U (by rw[hy.len];omega);refine I ?_;refine clb D3 (hc:=su hx U hy U Am) (hk:=?_);rintro _ _ C0 ⟨Aq,KM,K3,Ar,G0,Ix,rfl,hq,hr⟩;have⟨H,A0⟩:=gu C0.2 H A0;have hy:=aa9 C0.2 hy;have O:=xt O C0.2;refine I ?_;exact bJ (hk:=by exact Nat.mod_lt _ Am) ⟨Ay,ny,Ap,y,Ar,G0,Ix,x%y,rfl,rfl,rfl,U,(by rw[<-hr.len];exact qa8 (ey U (Nat.le_of_lt (Nat.mod_lt _ Am))) (by rw[hy.len];exact H2)),(Aa Az),O,H,A0,hy,(hr.mono U)⟩;have Am:y=0:=jw (B:=10000) U (hy.len.trans U);rw[Am,Nat.gcd_zero_right]at Az;refine I ?_
 refine aa (b7 (vs:=[(1,.slice Ax nx Ao)]) (cells:=#[.bool false,.slice Ax nx Ao]) (pl:=[(0,1),(1,1)]) kH bH ke Z ke ?_);refine clb mo (hc:=fO hx U (ht.ext O)) (hk:=?_);rintro _ _ od rfl;have O:=xt O od.2;refine I ?_;exact bF (t:=4) (u:=5) (v1:=S (rS (bj (bR false x)))) (v2:=.int .i64 (rE (bj (bR false x)))) Z O (by rw[EF Ab,<-Az];rfl) Z Z;have Ab:=qM Ab;refine aC func87 Z (I ?_);refine cl kI (mV _ _ _ Ab) ?_;rintro _ _ EW rfl;have G:=EW.2;refine I ?_;refine al bH (λ_ H4 CB=>?_);have G:=xt G H4.2;refine al bH (λ_ E9 CY=>?_);have⟨CB,G⟩:=bw E9.2 CB G;refine SA CB (λ_ E7 Cr=>?_);have⟨CY,G,_⟩:=kC E7 CY G;refine SA CY (λ_ E0 _=>?_);have Cr:=pb E0 Cr;have G:=bA E0 G;refine I ?_;exact bF (t:=4) (u:=5) (v1:=S []) (v2:=.int .i64 30) Z G (by rw[xV Ab];rfl) Z Z
end Go.Proofs.YtlmihmlnpjkblaaGreatDoor
namespace Go.Eng
abbrev R:=List UInt8×List UInt8
def bN (a:R):Bool:=isInt a.1&&isInt a.2&& !decide (dR a.2 [48]<=0)&&decide (bT a.1 a.2=some [49])
def ei (n d:Int):Int:=(if d<0 then -n else n)/((Int.gcd n d:Nat):Int)
def dm (n d:Int):Int:=(if d<0 then -d else d)/((Int.gcd n d:Nat):Int)
def il (n d:Int):Option R:=if d=0 then none else some (ae (ei n d),ae (dm n d))
def im (n d:Int):Option R:=if fits n&&fits d then il n d else none
def gj (a b:R):Option R:=if bN a&&bN b then im (ai a.1*ai b.1) (ai a.2*ai b.2)else none
def mF (a b:R):Option R:=if bN a&&bN b then im (ai a.1*ai b.2) (ai a.2*ai b.1)else none
def jR (a b:R):Option R:=if bN a&&bN b then(if fits (ai a.1*ai b.2)&&fits (ai b.1*ai a.2)then im (ai a.1*ai b.2+ai b.1*ai a.2) (ai a.2*ai b.2)else none)else none
def dE (a b:R):Option R:=if bN a&&bN b then(if fits (ai a.1*ai b.2)&&fits (ai b.1*ai a.2)then im (ai a.1*ai b.2-ai b.1*ai a.2) (ai a.2*ai b.2)else none)else none
def rN (o:Option R):List UInt8:=(o.map (·.1)).getD []
def rD (o:Option R):List UInt8:=(o.map (·.2)).getD []
def TH (o:Option R):Int:=if o.isSome then 0 else 40
end Go.Eng
namespace Go.Proofs.YtlmihmlnpjkblaaGreatDoor
variable {bad:Bool}{y s n d:List UInt8}{b g lo i g0:Nat}{A:Option Addr}{w:World}
set_option maxRecDepth 100000
open Go Go.Eng Go.RowKit Tryz
attribute [local irreducible] wpListIn Code.wpIn Oper.wpIn Exit.then Exit.inBlock Exit.noGoto
set_option maxHeartbeats 40000000
def ah {p:Prop}(h:p:=by assumption):p:=h
def ud {x:List UInt8}(h:isInt x=false):Value.bool false=.bool (bN (x,y)):=by simp[bN,h]
def ue {x:List UInt8}(h:isInt y=false):Value.bool false=.bool (bN (x,y)):=by simp[bN,h]
def uf {x:List UInt8}(h:dR y [48]<=0):Value.bool false=.bool (bN (x,y)):=by simp[bN,h]
def Jt {o:Option (List UInt8)}:(rE o=0/\rS o=s)↔o=some s:=by
 cases o with
 |none=>simp[rE]
 |some t=>simp[rE,rS]
def ug {x:List UInt8}(h1:isInt x=true)(h2:isInt y=true)(h3:¬dR y [48]<=0)(h4:rE (bT x y)=0):Value.bool (decide (rS (bT x y)=[49]))=.bool (bN (x,y)):=by
 have:(bT x y=some [49])↔(rS (bT x y)=[49]):=by rw[<-Jt];simp[h4]
 simp[bN,h1,h2,h3,this]
def uh {x:List UInt8}(h1:isInt x=true)(h2:isInt y=true)(h3:¬dR y [48]<=0)(h4:¬rE (bT x y)=0):Value.bool false=.bool (bN (x,y)):=by
 have:¬(bT x y=some [49]):=by rw[<-Jt];simp[h4]
 simp[bN,this]
def dB (bad:Bool)(o:Option (List UInt8)):Bool:=bad||o.isNone
def dS (bad:Bool)(o:Option (List UInt8)):List UInt8:=if bad then[]else rS o
def Z6 (g:Nat)(x y:List UInt8)(o:Option (List UInt8)):Prop:=∀W,Tb W->CL g #[S x,S y] W (aH W λv _=>v=iC o)
def Y9 (o:Option (List UInt8)):dB false o= !decide (rE o=0):=by cases o <;>rfl
def Q2 {o:Option (List UInt8)}(h:bad=true):dB bad o=bad:=by subst h;rfl
def Q3 {o:Option (List UInt8)}(h:bad=false):dB bad o= !decide (rE o=0):=by subst h;exact Y9 o
def gV (o:Option R):Value:=.tuple #[.agg #[S (rN o),S (rD o)],.int .i64 (TH o)]
def Ac (bad:Bool)(n d:List UInt8):Option R:=
 if dB (dB (dB bad (bT n d)) ((dt n (dS bad (bT n d))).map (·.1))) ((dt d (dS bad (bT n d))).map (·.1))=true then none
 else some (dS (dB bad (bT n d)) ((dt n (dS bad (bT n d))).map (·.1)),dS (dB (dB bad (bT n d)) ((dt n (dS bad (bT n d))).map (·.1))) ((dt d (dS bad (bT n d))).map (·.1)))
def g6 (bad:Bool)(n d:List UInt8):Option R:=
 if bad=true\/d=[48]then none
 else if dR d [48]<0 then Ac (dB (dB bad (aW [48] n)) (aW [48] d)) (dS bad (aW [48] n)) (dS (dB bad (aW [48] n)) (aW [48] d))
 else Ac bad n d
def oh (h:bad=true):g6 bad n d=none:=if_pos (Or.inl h)
def oi (h:d=[48]):g6 bad n d=none:=if_pos (Or.inr h)
def iD (h1:bad=false)(h2:¬d=[48])(h3:dR d [48]<0):g6 bad n d=Ac (dB (dB bad (aW [48] n)) (aW [48] d)) (dS bad (aW [48] n)) (dS (dB bad (aW [48] n)) (aW [48] d)):=by
 unfold g6;rw[if_neg (by rw[h1];simp[h2]),if_pos h3]
def iE (h1:bad=false)(h2:¬d=[48])(h3:¬dR d [48]<0):g6 bad n d=Ac bad n d:=by
 unfold g6;rw[if_neg (by rw[h1];simp[h2]),if_neg h3]
def jl (h:dB (dB (dB bad (bT n d)) ((dt n (dS bad (bT n d))).map (·.1))) ((dt d (dS bad (bT n d))).map (·.1))=true):Ac bad n d=none:=if_pos h
def jm (h:dB (dB (dB bad (bT n d)) ((dt n (dS bad (bT n d))).map (·.1))) ((dt d (dS bad (bT n d))).map (·.1))=false):Ac bad n d=some (dS (dB bad (bT n d)) ((dt n (dS bad (bT n d))).map (·.1)),dS (dB (dB bad (bT n d)) ((dt n (dS bad (bT n d))).map (·.1))) ((dt d (dS bad (bT n d))).map (·.1))):=if_neg (by rw[h];simp)
def eE (x y:List UInt8)(w:World)(ht:Tb w):
 CL 62 #[.agg #[S x,S y]] w (aH w λv w'=>v=.bool (bN (x,y))):=by
 refine aC func62 Z (I ?_);refine bx (λ_ A1 G=>?_);have E:=A1.2;refine I ?_;rcases qa4 (isInt x)with cr|cr;rcases qa4 (isInt y)with cv|cv;refine I ?_;refine cl tl (iB x _) ?_;rintro _ _ H rfl;have⟨G,E⟩:=bw H.2 G E;refine I ?_;refine cl tl (iB y _) ?_;rintro _ _ A0 rfl;have⟨G,E⟩:=bw A0.2 G E;refine I ?_;refine cl xo (pg y [48] _) ?_;rintro _ _ A2 rfl;have⟨G,E⟩:=bw A2.2 G E;refine I ?_;by_cases fy:(dR y [48])<=0;refine I ?_;exact am (t:=2) (v:=.bool false) Z E RC Z;refine I ?_;refine cl Ih (x5 x y _ (ht.ext E)) ?_;rintro _ _ Ab rfl;have E:=xt E Ab.2;refine I ?_;by_cases cw:(rE (bT x y))=0;refine I ?_;refine rU (b:=[49]) (I ?_);exact am (t:=2) (v:=.bool (decide ((rS (bT x y))=([49])))) Z E RC Z
 refine I ?_;exact am (t:=2) (v:=.bool false) Z E RC Z;refine I ?_;refine cl tl (iB x _) ?_;rintro _ _ O rfl;have⟨G,E⟩:=bw O.2 G E;refine I ?_;refine cl tl (iB y _) ?_;rintro _ _ W rfl;have E:=xt E W.2;refine I ?_;exact am (t:=2) (v:=.bool false) Z E RC Z;refine I ?_;refine cl tl (iB x _) ?_;rintro _ _ Af rfl;have E:=xt E Af.2;refine I ?_;exact am (t:=2) (v:=.bool false) Z E RC Z
def Oe (x y:List UInt8)(w:World)(ht:Tb w):
 CL 143 #[S x,S y] w (aH w λv w'=>v=iC ((dt x y).map (·.1))):=by
 refine aC func143 Z (I ?_);refine cl zj (kf x y _ (ht.ext (aa0 _))) ?_;rintro _ _ E rfl;have G:=E.2;refine I ?_;exact bF (t:=4) (u:=5) (v1:=S (rS ((dt x y).map (·.1)))) (v2:=.int .i64 (if(dt x y).isSome then 0 else 30)) Z G (by cases dt x y <;>rfl) Z Z
def rF (hB:ar w b 75 #[.bool bad])(ht:Tb w){x:List UInt8}{o:Option (List UInt8)}(heg:Enters prog g)(hop:Z6 g x y o):
 CL 84 #[pT b,.func (.func g) #[] #[],S x,S y] w (kv λv w'=>w.grownBy w' (some b)/\ar w' b 75 #[.bool (dB bad o)]/\v=S (dS bad o)):=by
 have G:=World.grownBy.refl w (some b);refine zB func84 Z (I ?_);rcases qa4 bad with cm|cm;refine I ?_;refine gZ (v:=S []) (cC  rfl ?_) ⟨G,(by first|(rw[Q2 ah];exact hB)|(rw[Q3 ah];exact hB)),(by simp[dS, *])⟩;exact aL (t:=8) Wf _;refine I ?_;refine aa (l5 (vs:=[S x,S y]) (lb:=[]) heg Z Z (hop _ ht) ?_);rintro _ _ E rfl;have E:=E.2;have hB:=be E hB;have G:=ln G E;refine I ?_;refine SO hB (λ_ O H=>?_);have G:=Cm G O;refine I ?_;refine gZ (v:=S (rS o)) (cC  rfl ?_) ⟨G,(by first|(rw[Q2 ah];exact H)|(rw[Q3 ah];exact H)),(by simp[dS, *])⟩;exact aL (t:=8) Wf _
def mG (hB:ar w b 75 #[.bool bad])(ht:Tb w)(x y:List UInt8):
 CL 36 #[pT b,S x,S y] w (kv λv w'=>w.grownBy w' (some b)/\ar w' b 75 #[.bool (dB bad (az x y))]/\v=S (dS bad (az x y))):=by
 have G:=World.grownBy.refl w (some b);refine zB func36 Z (I ?_);refine aa (bK (vs:=[pT b,.func (.func 85) #[] #[],S x,S y]) rr Z (rF (o:=az x y) hB ht QH (λW hW=>EG _ _ W hW)) ?_);rintro _ _ ⟨E,H,rfl⟩;have G:=gC G E;refine I ?_;refine gZ (v:=S (dS bad (az x y))) (cC  rfl ?_) ⟨G,H,rfl⟩;exact aL (t:=6) Wf _
def sG (hB:ar w b 75 #[.bool bad])(ht:Tb w)(x y:List UInt8):
 CL 88 #[pT b,S x,S y] w (kv λv w'=>w.grownBy w' (some b)/\ar w' b 75 #[.bool (dB bad ((dt x y).map (·.1)))]/\v=S (dS bad ((dt x y).map (·.1)))):=by
 have G:=World.grownBy.refl w (some b);refine zB func88 Z (I ?_);refine aa (bK (vs:=[pT b,.func (.func 143) #[] #[],S x,S y]) rr Z (rF (o:=(dt x y).map (·.1)) hB ht We (λW hW=>Oe _ _ W hW)) ?_);rintro _ _ ⟨E,H,rfl⟩;have G:=gC G E;refine I ?_;refine gZ (v:=S (dS bad ((dt x y).map (·.1)))) (cC  rfl ?_) ⟨G,H,rfl⟩;exact aL (t:=6) Wf _
def x6 (hB:ar w b 75 #[.bool bad])(ht:Tb w)(x y:List UInt8):
 CL 37 #[pT b,S x,S y] w (kv λv w'=>w.grownBy w' (some b)/\(∃q,ar w' b 75 #[.bool q])/\v=gV (g6 bad x y)):=by
 have G:=World.grownBy.refl w (some b);have Ix:=bt hB;refine zB func37 Z (I ?_);refine al aZ (λ_ Ap E=>?_);have hB:=be Ap.2 hB;have ht:=ab7 Ap.2 ht;have G:=ln G Ap.2;refine I ?_;rcases qa4 bad with cv|cv;refine I ?_;refine SA E (λ_ Ax E0=>?_);have hB:=pb Ax hB;have G:=jt G Ax U;refine I ?_;refine gZ (v:=.tuple #[.agg #[S [],S []],.int .i64 40]) (de (r1:=.cell 6 33) (r2:=.tmp 7) Z ?_ ?_) ⟨G,⟨_,hB⟩,j1⟩;refine ak (t:=6) (cs:=[S [],S []]) (b:=w.heap.size) (o:=0) iT Z bX ?_ ?_;exact Z;exact aa1 E0 (i:=0) Z;exact aL (t:=7) Wf _;refine I ?_;refine rU (b:=[48]) (I ?_);by_cases wz:y=([48]);refine I ?_;refine SA E (λ_ B2 Cr=>?_);have hB:=pb B2 hB;have G:=jt G B2 U;refine I ?_;refine gZ (v:=.tuple #[.agg #[S [],S []],.int .i64 40]) (de (r1:=.cell 6 33) (r2:=.tmp 7) Z ?_ ?_) ⟨G,⟨_,hB⟩,j1⟩
 refine ak (t:=6) (cs:=[S [],S []]) (b:=w.heap.size) (o:=0) iT Z bX ?_ ?_;exact Z;exact aa1 Cr (i:=0) Z;exact aL (t:=7) Wf _;refine I ?_;refine cl xo (pg y [48] _) ?_;rintro _ _ Ao rfl;have hB:=be Ao.2 hB;have ht:=ab7 Ao.2 ht;have E:=be Ao.2 E;have G:=ln G Ao.2;refine I ?_;by_cases w5:(dR y [48])<0;refine I ?_;refine aa (bK (vs:=[pT b,.func (.func 86) #[] #[],S [48],S x]) rr Z (rF (o:=aW [48] x) hB ht Ec (λW hW=>sF _ _ W hW)) ?_);rintro _ _ ⟨nm,Aw,rfl⟩;have ht:=Tb.gr nm hB dc ht;have E:=aa3 nm q4 E;have G:=gC G nm;have K2:=nm.size;refine I ?_;refine aa (bK (vs:=[pT b,.func (.func 86) #[] #[],S [48],S y]) rr Z (rF (o:=aW [48] y) Aw ht Ec (λW hW=>sF _ _ W hW)) ?_);rintro _ _ ⟨Am,Az,rfl⟩;have ht:=Tb.gr Am Aw dc ht;have E:=aa3 Am q4 E;have G:=gC G Am;have H4:=Am.size;refine I ?_;refine aa (bK (vs:=[pT b,.func (.func 87) #[] #[],S (dS bad (aW [48] x)),S (dS (dB bad (aW [48] x)) (aW [48] y))]) rr Z (rF (o:=bT (dS bad (aW [48] x)) (dS (dB bad (aW [48] x)) (aW [48] y))) Az ht Ih (λW hW=>x5 _ _ W hW)) ?_);rintro _ _ ⟨Af,CG,rfl⟩;have ht:=Tb.gr Af Az dc ht;have E:=aa3 Af q4 E;have G:=gC G Af;have GC:=Af.size;refine I ?_
 refine aa (bK (vs:=[pT b,S (dS bad (aW [48] x)),S (dS (dB (dB bad (aW [48] x)) (aW [48] y)) (bT (dS bad (aW [48] x)) (dS (dB bad (aW [48] x)) (aW [48] y))))]) Ed Z (sG CG ht (dS bad (aW [48] x)) (dS (dB (dB bad (aW [48] x)) (aW [48] y)) (bT (dS bad (aW [48] x)) (dS (dB bad (aW [48] x)) (aW [48] y))))) ?_);rintro _ _ ⟨A1,E4,rfl⟩;have ht:=Tb.gr A1 CG dc ht;have E:=aa3 A1 q4 E;have G:=gC G A1;have G0:=A1.size;refine I ?_;refine aa (bK (vs:=[pT b,S (dS (dB bad (aW [48] x)) (aW [48] y)),S (dS (dB (dB bad (aW [48] x)) (aW [48] y)) (bT (dS bad (aW [48] x)) (dS (dB bad (aW [48] x)) (aW [48] y))))]) Ed Z (sG E4 ht (dS (dB bad (aW [48] x)) (aW [48] y)) (dS (dB (dB bad (aW [48] x)) (aW [48] y)) (bT (dS bad (aW [48] x)) (dS (dB bad (aW [48] x)) (aW [48] y))))) ?_);rintro _ _ ⟨As,H,rfl⟩;have E:=aa3 As q4 E;have G:=gC G As;have ES:=As.size;refine I ?_;refine al aZ (λ_ ny E9=>?_);have⟨H,E⟩:=gu ny.2 H E;have G:=ln G ny.2;refine SA E9 (λ_ Av A2=>?_);have⟨H,E⟩:=lw Av H E;have G:=jt G Av U;have H2:=ij Av;refine I ?_
 rcases qa4 (dB (dB (dB (dB (dB bad (aW [48] x)) (aW [48] y)) (bT (dS bad (aW [48] x)) (dS (dB bad (aW [48] x)) (aW [48] y)))) ((dt (dS bad (aW [48] x)) (dS (dB (dB bad (aW [48] x)) (aW [48] y)) (bT (dS bad (aW [48] x)) (dS (dB bad (aW [48] x)) (aW [48] y))))).map (·.1))) ((dt (dS (dB bad (aW [48] x)) (aW [48] y)) (dS (dB (dB bad (aW [48] x)) (aW [48] y)) (bT (dS bad (aW [48] x)) (dS (dB bad (aW [48] x)) (aW [48] y))))).map (·.1)))with v7|v7;refine I ?_;refine SA E (λ_ C0 E7=>?_);have⟨H,A2⟩:=lw C0 H A2;have G:=jt G C0 U;refine I ?_;refine gZ (v:=.tuple #[.agg #[S [],S []],.int .i64 40]) (de (r1:=.cell 6 33) (r2:=.tmp 7) Z ?_ ?_) ⟨G,⟨_,H⟩,j1⟩;refine ak (t:=6) (cs:=[S [],S []]) (b:=w.heap.size) (o:=0) iT Z bX ?_ ?_;exact Z;exact aa1 E7 (i:=0) Z
 exact aL (t:=7) Wf _;refine I ?_;refine SA E (λ_ CB E1=>?_);have⟨H,A2⟩:=lw CB H A2;have G:=jt G CB U;refine I ?_
 refine gZ (v:=.tuple #[.agg #[S (dS (dB (dB (dB bad (aW [48] x)) (aW [48] y)) (bT (dS bad (aW [48] x)) (dS (dB bad (aW [48] x)) (aW [48] y)))) ((dt (dS bad (aW [48] x)) (dS (dB (dB bad (aW [48] x)) (aW [48] y)) (bT (dS bad (aW [48] x)) (dS (dB bad (aW [48] x)) (aW [48] y))))).map (·.1))),S (dS (dB (dB (dB (dB bad (aW [48] x)) (aW [48] y)) (bT (dS bad (aW [48] x)) (dS (dB bad (aW [48] x)) (aW [48] y)))) ((dt (dS bad (aW [48] x)) (dS (dB (dB bad (aW [48] x)) (aW [48] y)) (bT (dS bad (aW [48] x)) (dS (dB bad (aW [48] x)) (aW [48] y))))).map (·.1))) ((dt (dS (dB bad (aW [48] x)) (aW [48] y)) (dS (dB (dB bad (aW [48] x)) (aW [48] y)) (bT (dS bad (aW [48] x)) (dS (dB bad (aW [48] x)) (aW [48] y))))).map (·.1)))],.int .i64 0]) (de (r1:=.cell 6 33) (r2:=.tmp 7) Z ?_ ?_) ⟨G,⟨_,H⟩,j1⟩
 refine ak (t:=6) (cs:=[S (dS (dB (dB (dB bad (aW [48] x)) (aW [48] y)) (bT (dS bad (aW [48] x)) (dS (dB bad (aW [48] x)) (aW [48] y)))) ((dt (dS bad (aW [48] x)) (dS (dB (dB bad (aW [48] x)) (aW [48] y)) (bT (dS bad (aW [48] x)) (dS (dB bad (aW [48] x)) (aW [48] y))))).map (·.1))),S (dS (dB (dB (dB (dB bad (aW [48] x)) (aW [48] y)) (bT (dS bad (aW [48] x)) (dS (dB bad (aW [48] x)) (aW [48] y)))) ((dt (dS bad (aW [48] x)) (dS (dB (dB bad (aW [48] x)) (aW [48] y)) (bT (dS bad (aW [48] x)) (dS (dB bad (aW [48] x)) (aW [48] y))))).map (·.1))) ((dt (dS (dB bad (aW [48] x)) (aW [48] y)) (dS (dB (dB bad (aW [48] x)) (aW [48] y)) (bT (dS bad (aW [48] x)) (dS (dB bad (aW [48] x)) (aW [48] y))))).map (·.1)))]) (b:=w.heap.size) (o:=0) iT Z bX ?_ ?_;exact Z;exact aa1 E1 (i:=0) Z;exact aL (t:=7) Wf _;refine I ?_;refine aa (bK (vs:=[pT b,.func (.func 87) #[] #[],S x,S y]) rr Z (rF (o:=bT x y) hB ht Ih (λW hW=>x5 _ _ W hW)) ?_);rintro _ _ ⟨od,CY,rfl⟩;have ht:=Tb.gr od hB dc ht;have E:=aa3 od q4 E;have G:=gC G od;have FR:=od.size;refine I ?_;refine aa (bK (vs:=[pT b,S x,S (dS bad (bT x y))]) Ed Z (sG CY ht x (dS bad (bT x y))) ?_);rintro _ _ ⟨A0,D1,rfl⟩;have ht:=Tb.gr A0 CY dc ht
 have E:=aa3 A0 q4 E;have G:=gC G A0;have K3:=A0.size;refine I ?_;refine aa (bK (vs:=[pT b,S y,S (dS bad (bT x y))]) Ed Z (sG D1 ht y (dS bad (bT x y))) ?_);rintro _ _ ⟨Aq,O,rfl⟩;have E:=aa3 Aq q4 E;have G:=gC G Aq;have EW:=Aq.size;refine I ?_;refine al aZ (λ_ Ay D2=>?_);have⟨O,E⟩:=gu Ay.2 O E;have G:=ln G Ay.2;refine SA D2 (λ_ Ar Ab=>?_);have⟨O,E⟩:=lw Ar O E;have G:=jt G Ar U;have H3:=ij Ar;refine I ?_;rcases Bool.eq_false_or_eq_true (dB (dB (dB bad (bT x y)) ((dt x (dS bad (bT x y))).map (·.1))) ((dt y (dS bad (bT x y))).map (·.1)))with wr|wr;refine I ?_;refine SA E (λ_ B1 E6=>?_);have⟨O,Ab⟩:=lw B1 O Ab;have G:=jt G B1 U;refine I ?_;refine gZ (v:=.tuple #[.agg #[S [],S []],.int .i64 40]) (de (r1:=.cell 6 33) (r2:=.tmp 7) Z ?_ ?_) ⟨G,⟨_,O⟩,j1⟩
 refine ak (t:=6) (cs:=[S [],S []]) (b:=w.heap.size) (o:=0) iT Z bX ?_ ?_;exact Z;exact aa1 E6 (i:=0) Z;exact aL (t:=7) Wf _;refine I ?_;refine SA E (λ_ B0 E5=>?_);have⟨O,Ab⟩:=lw B0 O Ab;have G:=jt G B0 U;refine I ?_;refine gZ (v:=.tuple #[.agg #[S (dS (dB bad (bT x y)) ((dt x (dS bad (bT x y))).map (·.1))),S (dS (dB (dB bad (bT x y)) ((dt x (dS bad (bT x y))).map (·.1))) ((dt y (dS bad (bT x y))).map (·.1)))],.int .i64 0]) (de (r1:=.cell 6 33) (r2:=.tmp 7) Z ?_ ?_) ⟨G,⟨_,O⟩,j1⟩;refine ak (t:=6) (cs:=[S (dS (dB bad (bT x y)) ((dt x (dS bad (bT x y))).map (·.1))),S (dS (dB (dB bad (bT x y)) ((dt x (dS bad (bT x y))).map (·.1))) ((dt y (dS bad (bT x y))).map (·.1)))]) (b:=w.heap.size) (o:=0) iT Z bX ?_ ?_;exact Z;exact aa1 E5 (i:=0) Z;exact aL (t:=7) Wf _
def ag (l:List R):List Value:=l.flatMap λa=>[S a.1,S a.2]
def fU (l:List R):(ag l).length=l.length*2:=by
 induction l with
 |nil=>rfl
 |cons a t ih=>simp[ag]at ih ⊢;omega
def ol {l:List R}:∀u∈ag l,u.oneCell'=true:=by
 intro u hu
 obtain⟨a,_,E⟩:=List.mem_flatMap.1 hu
 simp at E
 rcases E with rfl|rfl <;>rfl
def ap (l:List R)(i:Nat):R:=l.getD i ([],[])
def ui:∀{l:List R} {i:Nat},i<l.length->(ag l)[i*2]?=some (S (ap l i).1)/\(ag l)[i*2+1]?=some (S (ap l i).2)
 |a::t,0,_=>by simp[ag,ap]
 | a::t,i+1,h=>by
   have ih:=ui (l:=t) (i:=i) ka5
   rw[show(i+1)*2=i*2+2 by omega,show i*2+2+1=i*2+1+2 by omega]
   simpa[ag,ap]using ih
def EH {l:List R}(h:Rw w lo A (ag l))(hi:i<l.length):∃b o,A=some ⟨b,o,none⟩/\∀j u,[S (ap l i).1,S (ap l i).2][j]?=some u->w.cell? ⟨b,o+i*2+j,none⟩=some u:=by
 obtain⟨h1,h2⟩:=ui hi
 obtain⟨b,o,hA,G⟩:=h.cells _ _ h1
 obtain⟨_,_,hA',E⟩:=h.cells _ _ h2
 rw[hA]at hA';cases hA'
 refine⟨b,o,hA,λj u hu=>?_⟩
 match j,hu with
 |0,hu=>simp at hu;subst hu;simpa using G
 |1,hu=>simp at hu;subst hu;simpa[Nat.add_assoc]using E
def cE (bad:Bool)(l:List R):Bool:=bad||l.any λa=>!bN a
def EJ {l:List R}(hi:i<l.length):cE bad (l.take (i+1))=(cE bad (l.take i)|| !bN (ap l i)):=by
 have:l.take (i+1)=l.take i++[ap l i]:=by
  rw[List.take_succ_eq_append_getElem hi];simp[ap,hi]
 rw[this];simp[cE,Bool.or_assoc]
def W9 {l:List R}(hi:i<l.length)(h:cE bad (l.take i)=true):cE bad (l.take (i+1))=true:=by rw[EJ hi,h];rfl
def Xa {l:List R}(hi:i<l.length)(h:cE bad (l.take i)=false):cE bad (l.take (i+1))= !bN ((ap l i).1,(ap l i).2):=by rw[EJ hi,h];rfl
def gT (h:isInt d=true):dR d [48]=aQ (ai d) 0:=by unfold dR;rw[if_pos (by rw[h,jP];rfl),kO]
def pi {x y:Int}:aQ x y<0↔x<y:=by
 unfold aQ;split
 · simp[*]
 · split <;>simp[*]
def dh {x y:Int}:aQ x y<=0↔x<=y:=by
 unfold aQ;split
 · simp;omega
 · split <;>simp <;>omega
def mX (h:isInt n=true):aW [48] n=some (ae (-ai n)):=by
 rw[pf (by rw[jP,h];rfl),kO]
 unfold bj
 have hf:fits (0-ai n)=true:=by
  have:=e9 h
  unfold fits at *
  rw[decide_eq_true_eq]at *
  omega
 rw[if_pos hf,Int.zero_sub]
def mY (h:isInt n=true):isInt (ae (-ai n))=true:=by
 refine bu ?_
 have:=e9 h
 unfold fits at *
 rw[decide_eq_true_eq]at *
 omega
def kg {a b:Int}(h:fits b=true)(hl:a.natAbs<=b.natAbs):fits a=true:=by
 unfold fits at *
 rw[decide_eq_true_eq]at *
 exact Nat.lt_of_le_of_lt hl h
def kh (a:Int)(b:Nat)(hb:0<b)(hd:(b:Int)∣a):(a/(b:Int)).natAbs<=a.natAbs:=by
 obtain⟨c,rfl⟩:=hd
 rw[Int.mul_ediv_cancel_left _ U,Int.natAbs_mul]
 exact Nat.le_mul_of_pos_left _ (by simpa using hb)
def wy (hn:isInt n=true)(hd:isInt d=true)(h0:ai d≠0):
 Ac false n d=some (ae (ai n/((Int.gcd (ai n) (ai d):Nat):Int)),ae (ai d/((Int.gcd (ai n) (ai d):Nat):Int))):=by
 have E:0<Int.gcd (ai n) (ai d):=Int.gcd_pos_of_ne_zero_right _ h0
 have G:((Int.gcd (ai n) (ai d):Nat):Int)∣ai d:=Int.gcd_dvd_right ..
 have A1:((Int.gcd (ai n) (ai d):Nat):Int)∣ai n:=Int.gcd_dvd_left ..
 have O:fits ((Int.gcd (ai n) (ai d):Nat):Int)=true:=kg (e9 hd) (by
  have:=Nat.le_of_dvd U (Int.natAbs_dvd_natAbs.2 G)
  simpa using this)
 have hG:bT n d=some (ae ((Int.gcd (ai n) (ai d):Nat):Int)):=by
  unfold bT;rw[if_pos (by rw[hn,hd];rfl)];unfold bj;rw[if_pos O]
 generalize hg:Int.gcd (ai n) (ai d)=g at *
 have W:=bu O
 have H:∀{x:List UInt8},isInt x=true->(g:Int)∣ai x->(dt x (ae (g:Int))).map (·.1)=some (ae (ai x/(g:Int))):=by
  intro x hx A0
  rw[lB (by rw[hx,W];rfl) (by rw[gK,gJ];simpa using E),aG]
  unfold bj
  rw[if_pos (kg (e9 hx) (kh _ _ E A0))]
  rfl
 unfold Ac
 rw[hG]
 simp only[dS,Bool.false_eq_true,if_false,rS,Option.getD_some]
 rw[H hn A1,H hd G]
 rfl
def wA (hn:isInt n=true)(hd:isInt d=true):g6 false n d=il (ai n) (ai d):=by
 unfold il
 by_cases h0:ai d=0
 · rw[if_pos h0,oi ((ge hd).1 h0)]
 · have E:¬d=[48]:=λe=>h0 ((ge hd).2 e)
   rw[if_neg h0]
   unfold ei dm
   by_cases hs:ai d<0
   · rw[iD Z E (by rw[gT hd];exact pi.2 hs),mX hn,mX hd]
     simp only[dB,dS,Bool.false_or,Option.isNone_some,Bool.false_eq_true,if_false,rS,Option.getD_some]
     rw[wy (mY hn) (mY hd) (by rw[aG];omega),aG,aG,if_pos hs,if_pos hs]
     have:Int.gcd (-ai n) (-ai d)=Int.gcd (ai n) (ai d):=by rw[Int.gcd_neg,Int.neg_gcd]
     rw[this]
   · rw[iE Z E (by rw[gT hd];exact λh=>hs (pi.1 h)),wy hn hd h0,if_neg hs,if_neg hs]
def kP (n d:List UInt8):g6 true n d=none:=oh Z
def x7 (a b:R):cE false [a,b]= !(bN a&&bN b):=by simp[cE]
def js {a:R}(h:bN a=true):isInt a.1=true:=by simp only[bN,Bool.and_eq_true]at h;exact h.1.1.1
def gF {a:R}(h:bN a=true):isInt a.2=true:=by simp only[bN,Bool.and_eq_true]at h;exact h.1.1.2
def i7 (n:Int):(bj n).isNone= !fits n:=by unfold bj;cases fits n <;>rfl
def pj {n:Int}(h:fits n=true):rS (bj n)=ae n:=by unfold bj;rw[if_pos h];rfl
def uj (okk:Bool)(n d:Int){on od:Option (List UInt8)}(hn:okk=true->on=bj n)(hd:okk=true->od=bj d):
 g6 (dB (dB (!okk) on) od) (dS (!okk) on) (dS (dB (!okk) on) od)=if okk then im n d else none:=by
 cases okk with
 |false=>simp only[Bool.not_false,dB,Bool.true_or,kP];rfl
 | true=>
   rw[hn Z,hd Z]
   unfold im
   simp only[Bool.not_true,dB,dS,Bool.false_or,Bool.false_eq_true,if_false,i7,if_true]
   cases h1:fits n with
   |false=>simp only[Bool.not_false,Bool.true_or,kP,Bool.false_and];rfl
   | true=>
     cases h2:fits d with
     |false=>simp only[Bool.not_false,Bool.or_true,kP,Bool.and_false];rfl
     | true=>
       simp only[Bool.not_true,Bool.or_false,Bool.false_eq_true,if_false,Bool.and_self,if_true]
       rw[pj h1,pj h2,wA (bu h1) (bu h2),aG,aG]
def Ju (x1 x2 y1 y2:List UInt8):gV (g6 (dB (dB (cE false [(x1,x2),(y1,y2)]) (az x1 y1)) (az x2 y2)) (dS (cE false [(x1,x2),(y1,y2)]) (az x1 y1)) (dS (dB (cE false [(x1,x2),(y1,y2)]) (az x1 y1)) (az x2 y2)))=gV (gj (x1,x2) (y1,y2)):=by
 rw[x7,uj (bN (x1,x2)&&bN (y1,y2)) (ai x1*ai y1) (ai x2*ai y2) (λh=>gH (by rw[js (ik h),js (g5 h)];rfl)) (λh=>gH kc2)]
 rfl
def Jv (x1 x2 y1 y2:List UInt8):gV (g6 (dB (dB (cE false [(x1,x2),(y1,y2)]) (az x1 y2)) (az x2 y1)) (dS (cE false [(x1,x2),(y1,y2)]) (az x1 y2)) (dS (dB (cE false [(x1,x2),(y1,y2)]) (az x1 y2)) (az x2 y1)))=gV (mF (x1,x2) (y1,y2)):=by
 rw[x7,uj (bN (x1,x2)&&bN (y1,y2)) (ai x1*ai y2) (ai x2*ai y1) (λh=>gH kc3) (λh=>gH kc4)]
 rfl
def wB (okk:Bool)(p q s d:Int){op oq od:Option (List UInt8)}{os:List UInt8->List UInt8->Option (List UInt8)}(hp:okk=true->op=bj p)(hq:okk=true->oq=bj q)(hd:okk=true->od=bj d)(hs:fits p=true->fits q=true->os (ae p) (ae q)=bj s):
 g6 (dB (dB (dB (dB (!okk) op) oq) (os (dS (!okk) op) (dS (dB (!okk) op) oq))) od) (dS (dB (dB (!okk) op) oq) (os (dS (!okk) op) (dS (dB (!okk) op) oq))) (dS (dB (dB (dB (!okk) op) oq) (os (dS (!okk) op) (dS (dB (!okk) op) oq))) od)
  =if okk then(if fits p&&fits q then im s d else none)else none:=by
 cases okk with
 |false=>simp only[Bool.not_false,dB,Bool.true_or,kP];rfl
 | true=>
   rw[hp Z,hq Z,hd Z]
   cases h1:fits p with
   |false=>simp only[Bool.not_true,dB,Bool.false_or,i7,h1,Bool.not_false,Bool.true_or,kP,Bool.false_and];rfl
   | true=>
     cases h2:fits q with
     |false=>simp only[Bool.not_true,dB,Bool.false_or,i7,h1,h2,Bool.not_false,Bool.true_or,Bool.or_true,kP,Bool.and_false];rfl
     | true=>
       have e1:dS (!true) (bj p)=ae p:=by rw[<-pj h1];rfl
       have e2:dB (!true) (bj p)=false:=by unfold dB;rw[i7,h1];rfl
       have E:dS false (bj q)=ae q:=by rw[<-pj h2];rfl
       have G:dB false (bj q)=false:=by unfold dB;rw[i7,h2];rfl
       rw[e2,G,e1,E,hs h1 h2]
       have:=uj true s d (on:=bj s) (od:=bj d) (λ_=>rfl) (λ_=>rfl)
       simpa using this
def Jw (os:List UInt8->List UInt8->Option (List UInt8))(x1 x2 y1 y2:List UInt8)(b:Bool):Option R:=g6 (dB (dB (dB (dB b (az x1 y2)) (az y1 x2)) (os (dS b (az x1 y2)) (dS (dB b (az x1 y2)) (az y1 x2)))) (az x2 y2)) (dS (dB (dB b (az x1 y2)) (az y1 x2)) (os (dS b (az x1 y2)) (dS (dB b (az x1 y2)) (az y1 x2)))) (dS (dB (dB (dB b (az x1 y2)) (az y1 x2)) (os (dS b (az x1 y2)) (dS (dB b (az x1 y2)) (az y1 x2)))) (az x2 y2))
def Jy (x1 x2 y1 y2:List UInt8):gV (Jw xP x1 x2 y1 y2 (cE false [(x1,x2),(y1,y2)]))=gV (jR (x1,x2) (y1,y2)):=
 qb2 gV ((qb2 (Jw xP x1 x2 y1 y2) (x7 (x1,x2) (y1,y2))).trans
  (wB (bN (x1,x2)&&bN (y1,y2)) (ai x1*ai y2) (ai y1*ai x2) (ai x1*ai y2+ai y1*ai x2) (ai x2*ai y2) (λh=>gH kc3) (λh=>gH kc4) (λh=>gH kc2)
   (λh1 h2=>by rw[xT (by rw[bu h1,bu h2];rfl),aG,aG])))
def Jz (x1 x2 y1 y2:List UInt8):gV (Jw aW x1 x2 y1 y2 (cE false [(x1,x2),(y1,y2)]))=gV (dE (x1,x2) (y1,y2)):=
 qb2 gV ((qb2 (Jw aW x1 x2 y1 y2) (x7 (x1,x2) (y1,y2))).trans
  (wB (bN (x1,x2)&&bN (y1,y2)) (ai x1*ai y2) (ai y1*ai x2) (ai x1*ai y2-ai y1*ai x2) (ai x2*ai y2) (λh=>gH kc3) (λh=>gH kc4) (λh=>gH kc2)
   (λh1 h2=>by rw[pf (by rw[bu h1,bu h2];rfl),aG,aG])))
def pm (hB:ar w b 75 #[.bool bad])(ht:Tb w){n c:Nat}{rs:List R}(hr:Rw w lo A (ag rs))(hn:rs.length=n)(hnb:n<=1000000)(hAb:∀ad,A=some ad->ad.block≠b):
 CL 35 #[pT b,.slice A n c] w (kv λv w'=>w.grownBy w' (some b)/\ar w' b 75 #[.bool (cE bad rs)]/\v=.tuple #[]):=by
 have G:=World.grownBy.refl w (some b);have Aw:=bt hB;have Ab:=λad e=>And.intro (hr.hi ad e) (hAb ad e);refine zB func35 Z (I ?_);refine ck [(5,5),(8,24)] (λAr e W=>∃i:Nat,(n-i=Ar)/\(e 8=.int .i64 i)/\(w.grownBy W (some b))/\(i<=n)/\(True)/\(Tb W)/\(Rw W lo A (ag rs))/\(ar W b 75 #[.bool (cE bad (rs.take i))])) (n-0) ⟨0,rfl,rfl,G,(qa7 _),trivial,ht,hr,(by simpa[cE]using hB)⟩ ?_;rintro _ _ _ ⟨i,rfl,Af,G,hi,Ao,ht,hr,hB⟩;have nm:=World.grownBy.size G;by_cases hlt:i<n;obtain⟨bk,o,hA,As⟩:=EH hr (i:=i) U;refine I ?_;refine aa (aA (i:=i) (oo:=o+i*2) te bX Z hA Af U Z ?_);refine aa (aM (cs:=[S (ap rs i).1,S (ap rs i).2]) (b:=bk) (o:=o+i*2) iT Z bX Z As ?_);refine al aZ (λ_ A0 Am=>?_);have ht:=ab7 A0.2 ht;have hr:=Rw.ext A0.2 hr;have hB:=be A0.2 hB;have G:=ln G A0.2;refine SA Am (λ_ H E=>?_);have ht:=Tb.put H Am dc ht;have hr:=Rw.putU H (λad e=>by have:=Ab ad e;omega) hr;have hB:=pb H hB;have G:=jt G H U;have Av:=ij H;refine I ?_;rcases qa4 (cE bad (rs.take i))with cf|cf;refine I ?_;refine SO hB (λ_ A2 Aq=>?_);have ht:=Tb.put A2 hB dc ht;have hr:=Rw.putU A2 (λad e=>by have:=Ab ad e;omega) hr
 have E:=pb A2 E;have G:=Cm G A2;refine I ?_;refine aa (cG (a:=(i:Int)) (b:=1) (c:=((i+1:Nat):Int)) Af Z j0 U ?_);refine I ?_;exact bJ ⟨i+1,rfl,rfl,G,U,Ao,ht,hr,(by first|(rw[W9 U BT];exact Aq)|(rw[Xa U BT];exact Aq))⟩;refine I ?_;refine cl tj (eE ((ap rs i).1) ((ap rs i).2) _ ht) ?_;rintro _ _ A1 rfl;have ht:=ab7 A1.2 ht;have hr:=Rw.ext A1.2 hr;have⟨hB,E⟩:=gu A1.2 hB E;have G:=ln G A1.2;refine I ?_;refine SO hB (λ_ O Ap=>?_);have ht:=Tb.put O hB dc ht;have hr:=Rw.putU O (λad e=>by have:=Ab ad e;omega) hr;have E:=pb O E;have G:=Cm G O;refine I ?_;refine aa (cG (a:=(i:Int)) (b:=1) (c:=((i+1:Nat):Int)) Af Z j0 U ?_);refine I ?_;exact bJ ⟨i+1,rfl,rfl,G,U,Ao,ht,hr,(by first|(rw[W9 U BT];exact Ap)|(rw[Xa U BT];exact Ap))⟩;refine I ?_;refine SY (v:=.tuple #[]) (nh  rfl) ⟨G,(by rw[List.take_of_length_le U]at hB;exact hB),rfl⟩
def Of (x1 x2 y1 y2:List UInt8)(w:World)(ht:Tb w):
 CL 13 #[.agg #[S x1,S x2],.agg #[S y1,S y2]] w (aH w λv w'=>v=gV (gj (x1,x2) (y1,y2))):=by
 refine aC func13 Z (I ?_);refine bx (λ_ Ax G=>?_);have ht:=ab7 Ax.2 ht;have E:=Ax.2;refine bx (λAz nm H=>?_);have ht:=ab7 nm.2 ht;have⟨G,E⟩:=bw nm.2 G E;refine al aZ (λAm Aq O=>?_);have ht:=ab7 Aq.2 ht;have⟨G,H,E⟩:=cD Aq.2 G H E;refine I ?_;refine bx (λB0 As Af=>?_);have ht:=ab7 As.2 ht;have⟨G,H,O,E⟩:=fE As.2 G H O E;refine I ?_;refine Tt (λ_ Av _ Ay=>?_);have ht:=ab7 Av ht;have⟨G,H,O,Af,E⟩:=ka Av G H O Af E;refine aa (bK (vs:=[pT Am.heap.size,.slice (some ⟨B0.heap.size,0,none⟩) 2 2]) Eb Z (pm (rs:=[(x1,x2),(y1,y2)]) Af ht (ab0 Ay) Z U (λ_ e=>by cases e;simp;omega)) ?_);rintro _ _ ⟨A0,Ap,rfl⟩;have ht:=Tb.gr A0 Af dc ht;have G:=aa3 A0 q4 G;have H:=aa3 A0 q4 H;have O:=aa3 A0 q4 O;have E:=cR E A0 (bz E) (λg W=>by cases W;omega);refine I ?_;refine aa (bK (vs:=[pT Am.heap.size,S x1,S y1]) rq Z (mG Ap ht x1 y1) ?_);rintro _ _ ⟨A1,Aw,rfl⟩;have ht:=Tb.gr A1 Ap dc ht;have G:=aa3 A1 q4 G;have H:=aa3 A1 q4 H;have O:=aa3 A1 q4 O;have E:=cR E A1 (bz E) (λg W=>by cases W;omega);refine I ?_;refine aa (bK (vs:=[pT Am.heap.size,S x2,S y2]) rq Z (mG Aw ht x2 y2) ?_);rintro _ _ ⟨A2,ny,rfl⟩
 have ht:=Tb.gr A2 Aw dc ht;have G:=aa3 A2 q4 G;have H:=aa3 A2 q4 H;have O:=aa3 A2 q4 O;have E:=cR E A2 (bz E) (λg W=>by cases W;omega);refine aa (bK (vs:=[pT Am.heap.size,S (dS (cE false [(x1,x2),(y1,y2)]) (az x1 y1)),S (dS (dB (cE false [(x1,x2),(y1,y2)]) (az x1 y1)) (az x2 y2))]) tm Z (x6 ny ht (dS (cE false [(x1,x2),(y1,y2)]) (az x1 y1)) (dS (dB (cE false [(x1,x2),(y1,y2)]) (az x1 y1)) (az x2 y2))) ?_);rintro _ _ ⟨Ab,⟨B2,Ar⟩,rfl⟩;have G:=aa3 Ab q4 G;have H:=aa3 Ab q4 H;have O:=aa3 Ab q4 O;have E:=cR E Ab (bz E) (λg W=>by cases W;omega);refine I ?_;refine SA O (λ_ Ao B1=>?_);have⟨G,H,Ar⟩:=nW Ao G H Ar;have E:=bA Ao E;refine I ?_
 refine ba (v:=.tuple #[.agg #[S (rN (g6 (dB (dB (cE false [(x1,x2),(y1,y2)]) (az x1 y1)) (az x2 y2)) (dS (cE false [(x1,x2),(y1,y2)]) (az x1 y1)) (dS (dB (cE false [(x1,x2),(y1,y2)]) (az x1 y1)) (az x2 y2)))),S (rD (g6 (dB (dB (cE false [(x1,x2),(y1,y2)]) (az x1 y1)) (az x2 y2)) (dS (cE false [(x1,x2),(y1,y2)]) (az x1 y1)) (dS (dB (cE false [(x1,x2),(y1,y2)]) (az x1 y1)) (az x2 y2))))],.int .i64 (TH (g6 (dB (dB (cE false [(x1,x2),(y1,y2)]) (az x1 y1)) (az x2 y2)) (dS (cE false [(x1,x2),(y1,y2)]) (az x1 y1)) (dS (dB (cE false [(x1,x2),(y1,y2)]) (az x1 y1)) (az x2 y2))))]) (de (r1:=.cell 4 33) (r2:=.tmp 5) Z ?_ ?_) E (Ju x1 x2 y1 y2);refine ak (t:=4) (cs:=[S (rN (g6 (dB (dB (cE false [(x1,x2),(y1,y2)]) (az x1 y1)) (az x2 y2)) (dS (cE false [(x1,x2),(y1,y2)]) (az x1 y1)) (dS (dB (cE false [(x1,x2),(y1,y2)]) (az x1 y1)) (az x2 y2)))),S (rD (g6 (dB (dB (cE false [(x1,x2),(y1,y2)]) (az x1 y1)) (az x2 y2)) (dS (cE false [(x1,x2),(y1,y2)]) (az x1 y1)) (dS (dB (cE false [(x1,x2),(y1,y2)]) (az x1 y1)) (az x2 y2))))]) (b:=Az.heap.size) (o:=0) iT Z bX ?_ ?_;exact Z;exact aa1 B1 (i:=0) Z;exact aL (t:=5) Wf _
def Og (x1 x2 y1 y2:List UInt8)(w:World)(ht:Tb w):
 CL 15 #[.agg #[S x1,S x2],.agg #[S y1,S y2]] w (aH w λv w'=>v=gV (mF (x1,x2) (y1,y2))):=by
 refine aC func15 Z (I ?_);refine bx (λ_ Ax G=>?_);have ht:=ab7 Ax.2 ht;have E:=Ax.2;refine bx (λAz nm H=>?_);have ht:=ab7 nm.2 ht;have⟨G,E⟩:=bw nm.2 G E;refine al aZ (λAm Aq O=>?_);have ht:=ab7 Aq.2 ht;have⟨G,H,E⟩:=cD Aq.2 G H E;refine I ?_;refine bx (λB0 As Af=>?_);have ht:=ab7 As.2 ht;have⟨G,H,O,E⟩:=fE As.2 G H O E;refine I ?_;refine Tt (λ_ Av _ Ay=>?_);have ht:=ab7 Av ht;have⟨G,H,O,Af,E⟩:=ka Av G H O Af E;refine aa (bK (vs:=[pT Am.heap.size,.slice (some ⟨B0.heap.size,0,none⟩) 2 2]) Eb Z (pm (rs:=[(x1,x2),(y1,y2)]) Af ht (ab0 Ay) Z U (λ_ e=>by cases e;simp;omega)) ?_);rintro _ _ ⟨A0,Ap,rfl⟩;have ht:=Tb.gr A0 Af dc ht;have G:=aa3 A0 q4 G;have H:=aa3 A0 q4 H;have O:=aa3 A0 q4 O;have E:=cR E A0 (bz E) (λg W=>by cases W;omega);refine I ?_;refine aa (bK (vs:=[pT Am.heap.size,S x1,S y2]) rq Z (mG Ap ht x1 y2) ?_);rintro _ _ ⟨A1,Aw,rfl⟩;have ht:=Tb.gr A1 Ap dc ht;have G:=aa3 A1 q4 G;have H:=aa3 A1 q4 H;have O:=aa3 A1 q4 O;have E:=cR E A1 (bz E) (λg W=>by cases W;omega);refine I ?_;refine aa (bK (vs:=[pT Am.heap.size,S x2,S y1]) rq Z (mG Aw ht x2 y1) ?_);rintro _ _ ⟨A2,ny,rfl⟩
 have ht:=Tb.gr A2 Aw dc ht;have G:=aa3 A2 q4 G;have H:=aa3 A2 q4 H;have O:=aa3 A2 q4 O;have E:=cR E A2 (bz E) (λg W=>by cases W;omega);refine aa (bK (vs:=[pT Am.heap.size,S (dS (cE false [(x1,x2),(y1,y2)]) (az x1 y2)),S (dS (dB (cE false [(x1,x2),(y1,y2)]) (az x1 y2)) (az x2 y1))]) tm Z (x6 ny ht (dS (cE false [(x1,x2),(y1,y2)]) (az x1 y2)) (dS (dB (cE false [(x1,x2),(y1,y2)]) (az x1 y2)) (az x2 y1))) ?_);rintro _ _ ⟨Ab,⟨B2,Ar⟩,rfl⟩;have G:=aa3 Ab q4 G;have H:=aa3 Ab q4 H;have O:=aa3 Ab q4 O;have E:=cR E Ab (bz E) (λg W=>by cases W;omega);refine I ?_;refine SA O (λ_ Ao B1=>?_);have⟨G,H,Ar⟩:=nW Ao G H Ar;have E:=bA Ao E;refine I ?_
 refine ba (v:=.tuple #[.agg #[S (rN (g6 (dB (dB (cE false [(x1,x2),(y1,y2)]) (az x1 y2)) (az x2 y1)) (dS (cE false [(x1,x2),(y1,y2)]) (az x1 y2)) (dS (dB (cE false [(x1,x2),(y1,y2)]) (az x1 y2)) (az x2 y1)))),S (rD (g6 (dB (dB (cE false [(x1,x2),(y1,y2)]) (az x1 y2)) (az x2 y1)) (dS (cE false [(x1,x2),(y1,y2)]) (az x1 y2)) (dS (dB (cE false [(x1,x2),(y1,y2)]) (az x1 y2)) (az x2 y1))))],.int .i64 (TH (g6 (dB (dB (cE false [(x1,x2),(y1,y2)]) (az x1 y2)) (az x2 y1)) (dS (cE false [(x1,x2),(y1,y2)]) (az x1 y2)) (dS (dB (cE false [(x1,x2),(y1,y2)]) (az x1 y2)) (az x2 y1))))]) (de (r1:=.cell 4 33) (r2:=.tmp 5) Z ?_ ?_) E (Jv x1 x2 y1 y2);refine ak (t:=4) (cs:=[S (rN (g6 (dB (dB (cE false [(x1,x2),(y1,y2)]) (az x1 y2)) (az x2 y1)) (dS (cE false [(x1,x2),(y1,y2)]) (az x1 y2)) (dS (dB (cE false [(x1,x2),(y1,y2)]) (az x1 y2)) (az x2 y1)))),S (rD (g6 (dB (dB (cE false [(x1,x2),(y1,y2)]) (az x1 y2)) (az x2 y1)) (dS (cE false [(x1,x2),(y1,y2)]) (az x1 y2)) (dS (dB (cE false [(x1,x2),(y1,y2)]) (az x1 y2)) (az x2 y1))))]) (b:=Az.heap.size) (o:=0) iT Z bX ?_ ?_;exact Z;exact aa1 B1 (i:=0) Z;exact aL (t:=5) Wf _
def EK {os:List UInt8->List UInt8->Option (List UInt8)}(heg:Enters prog g0)(hop:∀a b,Z6 g0 a b (os a b))(x1 x2 y1 y2:List UInt8)(w:World)(ht:Tb w):
 CL 155 #[.func (.func g0) #[] #[],.agg #[S x1,S x2],.agg #[S y1,S y2]] w (aH w λv w'=>v=gV (Jw os x1 x2 y1 y2 (cE false [(x1,x2),(y1,y2)]))):=by
 refine aC func155 Z (I ?_);refine bx (λAy B2 G=>?_);have ht:=ab7 B2.2 ht;have E:=B2.2;refine bx (λC0 CY H=>?_);have ht:=ab7 CY.2 ht;have⟨G,E⟩:=bw CY.2 G E;refine al aZ (λA2 Az O=>?_);have ht:=ab7 Az.2 ht;have⟨G,H,E⟩:=cD Az.2 G H E;refine I ?_;refine bx (λCr B0 ny=>?_);have ht:=ab7 B0.2 ht;have⟨G,H,O,E⟩:=fE B0.2 G H O E;refine I ?_;refine Tt (λ_ CG _ X2=>?_);have ht:=ab7 CG ht;have⟨G,H,O,ny,E⟩:=ka CG G H O ny E;refine aa (bK (vs:=[pT A2.heap.size,.slice (some ⟨Cr.heap.size,0,none⟩) 2 2]) Eb Z (pm (rs:=[(x1,x2),(y1,y2)]) ny ht (ab0 X2) Z U (λ_ e=>by cases e;simp;omega)) ?_);rintro _ B1 ⟨Ar,A0,rfl⟩;have ht:=Tb.gr Ar ny dc ht;have G:=aa3 Ar q4 G;have H:=aa3 Ar q4 H;have O:=aa3 Ar q4 O;have E:=cR E Ar (bz E) (λg Ab=>by cases Ab;omega);refine I ?_;have Af:=ac3 B1
 refine S1 li 15 (λ_ _=>True) (λ_=>trivial) (λ_ _ _ _ _=>trivial) [λv _=>v=pT A2.heap.size,λv _=>v=.func (.func g0) #[] #[],λv _=>v=pT A2.heap.size,λv _=>v=pT w.heap.size,λv _=>v=S x1,λv _=>v=.pointer (some ⟨Ay.heap.size,1,none⟩),λv _=>v=S y2,λv _=>v=S (dS (cE false [(x1,x2),(y1,y2)]) (az x1 y2)),λv _=>v=pT A2.heap.size,λv _=>v=pT Ay.heap.size,λv _=>v=S y1,λv _=>v=.pointer (some ⟨w.heap.size,1,none⟩),λv _=>v=S x2,λv _=>v=S (dS (dB (cE false [(x1,x2),(y1,y2)]) (az x1 y2)) (az y1 x2)),λv _=>v=S (dS (dB (dB (cE false [(x1,x2),(y1,y2)]) (az x1 y2)) (az y1 x2)) (os (dS (cE false [(x1,x2),(y1,y2)]) (az x1 y2)) (dS (dB (cE false [(x1,x2),(y1,y2)]) (az x1 y2)) (az y1 x2))))] ⟨λ_ _ _ _ h=>h,λ_ _ _ _ h=>h,λ_ _ _ _ h=>h,λ_ _ _ _ h=>h,λ_ _ _ _ h=>h,λ_ _ _ _ h=>h,λ_ _ _ _ h=>h,λ_ _ _ _ h=>h,λ_ _ _ _ h=>h,λ_ _ _ _ h=>h,λ_ _ _ _ h=>h,λ_ _ _ _ h=>h,λ_ _ _ _ h=>h,λ_ _ _ _ h=>h,λ_ _ _ _ h=>h,trivial⟩ q0 q0 q0 [7,13,14] q0 q0 q0 (λk W=>(aN w W)/\(B1.heap.size<=W.heap.size)/\(Tb W)/\(ar W w.heap.size 33 #[S x1,S x2])/\(ar W Ay.heap.size 33 #[S y1,S y2])/\(ar W C0.heap.size 33 #[S [],S []])/\(ar W A2.heap.size 75 #[.bool (([cE false [(x1,x2),(y1,y2)],dB (cE false [(x1,x2),(y1,y2)]) (az x1 y2),dB (dB (cE false [(x1,x2),(y1,y2)]) (az x1 y2)) (az y1 x2),dB (dB (dB (cE false [(x1,x2),(y1,y2)]) (az x1 y2)) (az y1 x2)) (os (dS (cE false [(x1,x2),(y1,y2)]) (az x1 y2)) (dS (dB (cE false [(x1,x2),(y1,y2)]) (az x1 y2)) (az y1 x2)))]:List Bool).getD k false)])) ⟨(xt E Af),(bz Af),(ab7 Af ht),(be Af G),(be Af H),(be Af O),(be Af A0)⟩ ?_ ?_
 refine⟨λV0 eg d5 P2 d0 _ D1 f3=>?_,?_⟩;obtain⟨V0,rfl⟩:=aU D1;obtain⟨E,A1,ht,G,H,O,A0⟩:=P2;refine I ?_;exact⟨rfl,_,(ax _ _ _ _ _).symm,trivial,rfl,⟨E,U,ht,G,H,O,A0⟩⟩;refine⟨λL1 eB cf a0 ch _ L3 cz=>?_,?_⟩;obtain⟨L1,rfl⟩:=aU L3;obtain⟨E,A1,ht,G,H,O,A0⟩:=a0;refine I ?_;exact⟨rfl,_,(ax _ _ _ _ _).symm,trivial,rfl,⟨E,U,ht,G,H,O,A0⟩⟩;refine⟨λP0 eC e3 K2 cb _ a9 ej=>?_,?_⟩;obtain⟨P0,rfl⟩:=aU a9;obtain⟨E,A1,ht,G,H,O,A0⟩:=K2;refine I ?_;exact⟨rfl,_,(ax _ _ _ _ _).symm,trivial,rfl,⟨E,U,ht,G,H,O,A0⟩⟩;refine⟨λKM co d6 a8 e6 _ bb d1=>?_,?_⟩;obtain⟨KM,rfl⟩:=aU bb;obtain⟨E,A1,ht,G,H,O,A0⟩:=a8;refine I ?_;exact⟨rfl,_,(ax _ _ _ _ _).symm,trivial,rfl,⟨E,U,ht,G,H,O,A0⟩⟩;refine⟨λKC dL f9 WV d3 _ a5 VW=>?_,?_⟩;obtain⟨KC,rfl⟩:=aU a5;obtain⟨E,A1,ht,G,H,O,A0⟩:=WV;have d4:=bh (VW 3 20 Z Z);refine I ?_;exact⟨rfl,_,(ax _ _ _ _ _).symm,trivial,rfl,⟨E,U,ht,G,H,O,A0⟩⟩;refine⟨λbq c9 cq La f4 _ bY cx=>?_,?_⟩;obtain⟨bq,rfl⟩:=aU bY;obtain⟨E,A1,ht,G,H,O,A0⟩:=La;refine I ?_;exact⟨rfl,_,(ax _ _ _ _ _).symm,trivial,rfl,⟨E,U,ht,G,H,O,A0⟩⟩;refine⟨λa3 e4 e5 KY et _ ES H4=>?_,?_⟩;obtain⟨a3,rfl⟩:=aU ES
 obtain⟨E,A1,ht,G,H,O,A0⟩:=KY;have cV:=bh (H4 5 22 Z Z);refine I ?_;exact⟨rfl,_,(ax _ _ _ _ _).symm,trivial,rfl,⟨E,U,ht,G,H,O,A0⟩⟩;refine⟨λwr S9 arr Lj bW _ E9 Ax=>?_,?_⟩;obtain⟨wr,rfl⟩:=aU E9;obtain⟨E,A1,ht,G,H,O,A0⟩:=Lj;obtain rfl:=bW 0 Z;have A0:ar S9 A2.heap.size 75 #[.bool (cE false [(x1,x2),(y1,y2)])]:=A0;have E4:=bh (Ax 2 19 Z Z);have EW:=bh (Ax 4 21 Z Z);have L4:=bh (Ax 6 23 Z Z);refine aa (bK (vs:=[pT A2.heap.size,S x1,S y2]) rq (aw E4 (aw EW (aw L4 Z))) (mG A0 ht x1 y2) ?_);rintro _ _ ⟨Am,T2,rfl⟩;have ht:=Tb.gr Am A0 dc ht;have G:=aa3 Am q4 G;have H:=aa3 Am q4 H;have O:=aa3 Am q4 O;have E:=cR E Am (bz E) (λg Ab=>by cases Ab;omega);have eP:=Am.size;refine I ?_;exact⟨rfl,_,(ax _ _ _ _ _).symm,trivial,rfl,⟨E,U,ht,G,H,O,T2⟩⟩;refine⟨λWa f0 ct E5 cv _ X0 dq=>?_,?_⟩;obtain⟨Wa,rfl⟩:=aU X0;obtain⟨E,A1,ht,G,H,O,A0⟩:=E5;refine I ?_;exact⟨rfl,_,(ax _ _ _ _ _).symm,trivial,rfl,⟨E,U,ht,G,H,O,A0⟩⟩;refine⟨λbZ cw eQ D2 cT _ E6 cc=>?_,?_⟩;obtain⟨bZ,rfl⟩:=aU E6;obtain⟨E,A1,ht,G,H,O,A0⟩:=D2;refine I ?_;exact⟨rfl,_,(ax _ _ _ _ _).symm,trivial,rfl,⟨E,U,ht,G,H,O,A0⟩⟩
 refine⟨λE7 eG cp an eq _ ac No=>?_,?_⟩;obtain⟨E7,rfl⟩:=aU ac;obtain⟨E,A1,ht,G,H,O,A0⟩:=an;have eb:=bh (No 9 26 Z Z);refine I ?_;exact⟨rfl,_,(ax _ _ _ _ _).symm,trivial,rfl,⟨E,U,ht,G,H,O,A0⟩⟩;refine⟨λa4 cy cr N0 eW _ K3 er=>?_,?_⟩;obtain⟨a4,rfl⟩:=aU K3;obtain⟨E,A1,ht,G,H,O,A0⟩:=N0;refine I ?_;exact⟨rfl,_,(ax _ _ _ _ _).symm,trivial,rfl,⟨E,U,ht,G,H,O,A0⟩⟩;refine⟨λP1 ask eD H3 ce _ a6 E0=>?_,?_⟩;obtain⟨P1,rfl⟩:=aU a6;obtain⟨E,A1,ht,G,H,O,A0⟩:=H3;have eX:=bh (E0 11 28 Z Z);refine I ?_;exact⟨rfl,_,(ax _ _ _ _ _).symm,trivial,rfl,⟨E,U,ht,G,H,O,A0⟩⟩;refine⟨λIx L2 eS bp ad _ Li Aw=>?_,?_⟩;obtain⟨Ix,rfl⟩:=aU Li;obtain⟨E,A1,ht,G,H,O,A0⟩:=bp;obtain rfl:=ad 1 Z;have A0:ar L2 A2.heap.size 75 #[.bool (dB (cE false [(x1,x2),(y1,y2)]) (az x1 y2))]:=A0;have a2:=bh (Aw 8 25 Z Z);have W2:=bh (Aw 10 27 Z Z);have GC:=bh (Aw 12 29 Z Z);refine aa (bK (vs:=[pT A2.heap.size,S y1,S x2]) rq (aw a2 (aw W2 (aw GC Z))) (mG A0 ht y1 x2) ?_);rintro _ _ ⟨Ap,W0,rfl⟩;have ht:=Tb.gr Ap A0 dc ht;have G:=aa3 Ap q4 G;have H:=aa3 Ap q4 H;have O:=aa3 Ap q4 O;have E:=cR E Ap (bz E) (λg Ab=>by cases Ab;omega)
 have dd:=Ap.size;refine I ?_;exact⟨rfl,_,(ax _ _ _ _ _).symm,trivial,rfl,⟨E,U,ht,G,H,O,W0⟩⟩;refine⟨λLk Rm cm Kp E1 _ H2 Av=>?_,?_⟩;obtain⟨Lk,rfl⟩:=aU H2;obtain⟨E,A1,ht,G,H,O,A0⟩:=Kp;obtain rfl:=E1 2 Z;have A0:ar Rm A2.heap.size 75 #[.bool (dB (dB (cE false [(x1,x2),(y1,y2)]) (az x1 y2)) (az y1 x2))]:=A0;have G0:=bh (Av 0 17 Z Z);have T3:=bh (Av 1 18 Z Z);have W1:=bh (Av 7 24 Z Z);have b0:=bh (Av 13 30 Z Z);refine aa (bK (vs:=[pT A2.heap.size,.func (.func g0) #[] #[],S (dS (cE false [(x1,x2),(y1,y2)]) (az x1 y2)),S (dS (dB (cE false [(x1,x2),(y1,y2)]) (az x1 y2)) (az y1 x2))]) rr (aw G0 (aw T3 (aw W1 (aw b0 Z)))) (rF (o:=os (dS (cE false [(x1,x2),(y1,y2)]) (az x1 y2)) (dS (dB (cE false [(x1,x2),(y1,y2)]) (az x1 y2)) (az y1 x2))) A0 ht heg (hop _ _)) ?_);rintro _ _ ⟨Ao,Q0,rfl⟩;have ht:=Tb.gr Ao A0 dc ht;have G:=aa3 Ao q4 G;have H:=aa3 Ao q4 H;have O:=aa3 Ao q4 O;have E:=cR E Ao (bz E) (λg Ab=>by cases Ab;omega);have dC:=Ao.size;refine I ?_;exact⟨rfl,_,(ax _ _ _ _ _).symm,trivial,rfl,⟨E,U,ht,G,H,O,Q0⟩⟩;exact trivial;intro W3 Ne Vm _ FR bd;obtain⟨W3,rfl⟩:=aU FR;obtain⟨E,A1,ht,G,H,O,A0⟩:=Vm
 have A0:ar Ne A2.heap.size 75 #[.bool (dB (dB (dB (cE false [(x1,x2),(y1,y2)]) (az x1 y2)) (az y1 x2)) (os (dS (cE false [(x1,x2),(y1,y2)]) (az x1 y2)) (dS (dB (cE false [(x1,x2),(y1,y2)]) (az x1 y2)) (az y1 x2))))]:=A0;have ea:=bh (bd 14 31 Z Z);refine I ?_;refine aa (bK (vs:=[pT A2.heap.size,S x2,S y2]) rq Z (mG A0 ht x2 y2) ?_);rintro _ _ ⟨Aq,S0,rfl⟩;have ht:=Tb.gr Aq A0 dc ht;have G:=aa3 Aq q4 G;have H:=aa3 Aq q4 H;have O:=aa3 Aq q4 O;have E:=cR E Aq (bz E) (λg Ab=>by cases Ab;omega)
 refine aa (bK (vs:=[pT A2.heap.size,S (dS (dB (dB (cE false [(x1,x2),(y1,y2)]) (az x1 y2)) (az y1 x2)) (os (dS (cE false [(x1,x2),(y1,y2)]) (az x1 y2)) (dS (dB (cE false [(x1,x2),(y1,y2)]) (az x1 y2)) (az y1 x2)))),S (dS (dB (dB (dB (cE false [(x1,x2),(y1,y2)]) (az x1 y2)) (az y1 x2)) (os (dS (cE false [(x1,x2),(y1,y2)]) (az x1 y2)) (dS (dB (cE false [(x1,x2),(y1,y2)]) (az x1 y2)) (az y1 x2)))) (az x2 y2))]) tm Z (x6 S0 ht (dS (dB (dB (cE false [(x1,x2),(y1,y2)]) (az x1 y2)) (az y1 x2)) (os (dS (cE false [(x1,x2),(y1,y2)]) (az x1 y2)) (dS (dB (cE false [(x1,x2),(y1,y2)]) (az x1 y2)) (az y1 x2)))) (dS (dB (dB (dB (cE false [(x1,x2),(y1,y2)]) (az x1 y2)) (az y1 x2)) (os (dS (cE false [(x1,x2),(y1,y2)]) (az x1 y2)) (dS (dB (cE false [(x1,x2),(y1,y2)]) (az x1 y2)) (az y1 x2)))) (az x2 y2))) ?_);rintro _ _ ⟨As,⟨ed,CB⟩,rfl⟩;have G:=aa3 As q4 G;have H:=aa3 As q4 H;have O:=aa3 As q4 O;have E:=cR E As (bz E) (λg Ab=>by cases Ab;omega);refine I ?_;refine SA O (λ_ nm bv=>?_);have⟨G,H,CB⟩:=nW nm G H CB;have E:=bA nm E;refine I ?_
 refine ba (v:=.tuple #[.agg #[S (rN (g6 (dB (dB (dB (dB (cE false [(x1,x2),(y1,y2)]) (az x1 y2)) (az y1 x2)) (os (dS (cE false [(x1,x2),(y1,y2)]) (az x1 y2)) (dS (dB (cE false [(x1,x2),(y1,y2)]) (az x1 y2)) (az y1 x2)))) (az x2 y2)) (dS (dB (dB (cE false [(x1,x2),(y1,y2)]) (az x1 y2)) (az y1 x2)) (os (dS (cE false [(x1,x2),(y1,y2)]) (az x1 y2)) (dS (dB (cE false [(x1,x2),(y1,y2)]) (az x1 y2)) (az y1 x2)))) (dS (dB (dB (dB (cE false [(x1,x2),(y1,y2)]) (az x1 y2)) (az y1 x2)) (os (dS (cE false [(x1,x2),(y1,y2)]) (az x1 y2)) (dS (dB (cE false [(x1,x2),(y1,y2)]) (az x1 y2)) (az y1 x2)))) (az x2 y2)))),S (rD (g6 (dB (dB (dB (dB (cE false [(x1,x2),(y1,y2)]) (az x1 y2)) (az y1 x2)) (os (dS (cE false [(x1,x2),(y1,y2)]) (az x1 y2)) (dS (dB (cE false [(x1,x2),(y1,y2)]) (az x1 y2)) (az y1 x2)))) (az x2 y2)) (dS (dB (dB (cE false [(x1,x2),(y1,y2)]) (az x1 y2)) (az y1 x2)) (os (dS (cE false [(x1,x2),(y1,y2)]) (az x1 y2)) (dS (dB (cE false [(x1,x2),(y1,y2)]) (az x1 y2)) (az y1 x2)))) (dS (dB (dB (dB (cE false [(x1,x2),(y1,y2)]) (az x1 y2)) (az y1 x2)) (os (dS (cE false [(x1,x2),(y1,y2)]) (az x1 y2)) (dS (dB (cE false [(x1,x2),(y1,y2)]) (az x1 y2)) (az y1 x2)))) (az x2 y2))))],.int .i64 (TH (g6 (dB (dB (dB (dB (cE false [(x1,x2),(y1,y2)]) (az x1 y2)) (az y1 x2)) (os (dS (cE false [(x1,x2),(y1,y2)]) (az x1 y2)) (dS (dB (cE false [(x1,x2),(y1,y2)]) (az x1 y2)) (az y1 x2)))) (az x2 y2)) (dS (dB (dB (cE false [(x1,x2),(y1,y2)]) (az x1 y2)) (az y1 x2)) (os (dS (cE false [(x1,x2),(y1,y2)]) (az x1 y2)) (dS (dB (cE false [(x1,x2),(y1,y2)]) (az x1 y2)) (az y1 x2)))) (dS (dB (dB (dB (cE false [(x1,x2),(y1,y2)]) (az x1 y2)) (az y1 x2)) (os (dS (cE false [(x1,x2),(y1,y2)]) (az x1 y2)) (dS (dB (cE false [(x1,x2),(y1,y2)]) (az x1 y2)) (az y1 x2)))) (az x2 y2))))]) (de (r1:=.cell 6 33) (r2:=.tmp 7) Z ?_ ?_) E Z
 refine ak (t:=6) (cs:=[S (rN (g6 (dB (dB (dB (dB (cE false [(x1,x2),(y1,y2)]) (az x1 y2)) (az y1 x2)) (os (dS (cE false [(x1,x2),(y1,y2)]) (az x1 y2)) (dS (dB (cE false [(x1,x2),(y1,y2)]) (az x1 y2)) (az y1 x2)))) (az x2 y2)) (dS (dB (dB (cE false [(x1,x2),(y1,y2)]) (az x1 y2)) (az y1 x2)) (os (dS (cE false [(x1,x2),(y1,y2)]) (az x1 y2)) (dS (dB (cE false [(x1,x2),(y1,y2)]) (az x1 y2)) (az y1 x2)))) (dS (dB (dB (dB (cE false [(x1,x2),(y1,y2)]) (az x1 y2)) (az y1 x2)) (os (dS (cE false [(x1,x2),(y1,y2)]) (az x1 y2)) (dS (dB (cE false [(x1,x2),(y1,y2)]) (az x1 y2)) (az y1 x2)))) (az x2 y2)))),S (rD (g6 (dB (dB (dB (dB (cE false [(x1,x2),(y1,y2)]) (az x1 y2)) (az y1 x2)) (os (dS (cE false [(x1,x2),(y1,y2)]) (az x1 y2)) (dS (dB (cE false [(x1,x2),(y1,y2)]) (az x1 y2)) (az y1 x2)))) (az x2 y2)) (dS (dB (dB (cE false [(x1,x2),(y1,y2)]) (az x1 y2)) (az y1 x2)) (os (dS (cE false [(x1,x2),(y1,y2)]) (az x1 y2)) (dS (dB (cE false [(x1,x2),(y1,y2)]) (az x1 y2)) (az y1 x2)))) (dS (dB (dB (dB (cE false [(x1,x2),(y1,y2)]) (az x1 y2)) (az y1 x2)) (os (dS (cE false [(x1,x2),(y1,y2)]) (az x1 y2)) (dS (dB (cE false [(x1,x2),(y1,y2)]) (az x1 y2)) (az y1 x2)))) (az x2 y2))))]) (b:=C0.heap.size) (o:=0) iT Z bX ?_ ?_;exact Z;exact aa1 bv (i:=0) Z;exact aL (t:=7) Wf _
def Oh (x1 x2 y1 y2:List UInt8)(w:World)(ht:Tb w):CL 155 #[.func (.func 186) #[] #[],.agg #[S x1,S x2],.agg #[S y1,S y2]] w (aH w λv w'=>v=gV (jR (x1,x2) (y1,y2))):=Jy x1 x2 y1 y2▸EK Ip (λa b W hW=>xZ a b W hW) x1 x2 y1 y2 w ht
def Oi (x1 x2 y1 y2:List UInt8)(w:World)(ht:Tb w):CL 155 #[.func (.func 86) #[] #[],.agg #[S x1,S x2],.agg #[S y1,S y2]] w (aH w λv w'=>v=gV (dE (x1,x2) (y1,y2))):=Jz x1 x2 y1 y2▸EK Ec (λa b W hW=>sF a b W hW) x1 x2 y1 y2 w ht
def Oj (x1 x2 y1 y2:List UInt8)(w:World)(ht:Tb w):
 CL 312 #[.agg #[S x1,S x2],.agg #[S y1,S y2]] w (aH w λv w'=>v=gV (jR (x1,x2) (y1,y2))):=by
 refine aC func312 Z (I ?_);refine bx (λ_ W G=>?_);have ht:=ab7 W.2 ht;have E:=W.2;refine bx (λAm A2 H=>?_);have ht:=ab7 A2.2 ht;have⟨G,E⟩:=bw A2.2 G E;refine al aZ (λ_ A0 O=>?_);have ht:=ab7 A0.2 ht;have⟨G,H,E⟩:=cD A0.2 G H E;refine I ?_;refine cl QF (Oh x1 x2 y1 y2 _ ht) ?_;rintro _ _ Ab rfl;have⟨G,H,O,E⟩:=fE Ab.2 G H O E;refine I ?_;refine SA O (λ_ A1 Af=>?_);have⟨G,H⟩:=lw A1 G H;have E:=bA A1 E;refine I ?_;refine ba (v:=.tuple #[.agg #[S (rN (jR (x1,x2) (y1,y2))),S (rD (jR (x1,x2) (y1,y2)))],.int .i64 (TH (jR (x1,x2) (y1,y2)))]) (de (r1:=.cell 4 33) (r2:=.tmp 5) Z ?_ ?_) E Z;refine ak (t:=4) (cs:=[S (rN (jR (x1,x2) (y1,y2))),S (rD (jR (x1,x2) (y1,y2)))]) (b:=Am.heap.size) (o:=0) iT Z bX ?_ ?_;exact Z;exact aa1 Af (i:=0) Z;exact aL (t:=5) Wf _
def EL (x1 x2 y1 y2:List UInt8)(w:World)(ht:Tb w):
 CL 117 #[.agg #[S x1,S x2],.agg #[S y1,S y2]] w (aH w λv w'=>v=gV (dE (x1,x2) (y1,y2))):=by
 refine aC func117 Z (I ?_);refine bx (λ_ W G=>?_);have ht:=ab7 W.2 ht;have E:=W.2;refine bx (λAm A2 H=>?_);have ht:=ab7 A2.2 ht;have⟨G,E⟩:=bw A2.2 G E;refine al aZ (λ_ A0 O=>?_);have ht:=ab7 A0.2 ht;have⟨G,H,E⟩:=cD A0.2 G H E;refine I ?_;refine cl QF (Oi x1 x2 y1 y2 _ ht) ?_;rintro _ _ Ab rfl;have⟨G,H,O,E⟩:=fE Ab.2 G H O E;refine I ?_;refine SA O (λ_ A1 Af=>?_);have⟨G,H⟩:=lw A1 G H;have E:=bA A1 E;refine I ?_;refine ba (v:=.tuple #[.agg #[S (rN (dE (x1,x2) (y1,y2))),S (rD (dE (x1,x2) (y1,y2)))],.int .i64 (TH (dE (x1,x2) (y1,y2)))]) (de (r1:=.cell 4 33) (r2:=.tmp 5) Z ?_ ?_) E Z;refine ak (t:=4) (cs:=[S (rN (dE (x1,x2) (y1,y2))),S (rD (dE (x1,x2) (y1,y2)))]) (b:=Am.heap.size) (o:=0) iT Z bX ?_ ?_;exact Z;exact aa1 Af (i:=0) Z;exact aL (t:=5) Wf _
end Go.Proofs.YtlmihmlnpjkblaaGreatDoor
