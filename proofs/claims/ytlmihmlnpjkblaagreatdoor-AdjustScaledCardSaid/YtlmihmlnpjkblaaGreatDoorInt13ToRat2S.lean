/- Part of the proof of a statement about an adjustment. -/
import Derived.Test.YtlmihmlnpjkblaaGreatDoorInt6ToInt12S
set_option linter.all false
namespace Go.Proofs.YtlmihmlnpjkblaaGreatDoor
variable {ng nx ny:Bool}{a l b:List UInt8}{lo q:Nat}{A:Option Addr}{p:Prop}{w w':World}
set_option maxRecDepth 100000
open Go Go.Eng Go.RowKit Tryz
attribute [local irreducible] wpListIn Code.wpIn Oper.wpIn Exit.then Exit.inBlock Exit.noGoto
set_option maxHeartbeats 40000000
def bB (h:p:=by assumption):p:=h
def cO {n c a k:Nat}(h:en w lo A n c a)(hl:a<10000^k):n<=k:=by rw[<-h.len];exact(bf 10000 U a k).2 hl
def eA (h:isInt l=true):aG (body l)<10000^50:=qb1 (sJ (ez h)) dc
def ni (l:List UInt8):bT (neg l) (aG (body l))=aj l:=rfl
def ET (ng:Bool)(a:Nat):bT (!ng) a=-bT ng a:=by cases ng <;>simp[bT]
def qQ {a b:Bool}(h:¬(a&&b)=true):(a&&b)=false:=by simpa using h
def il {a b:Bool}(h:(a&&b)=true):a=true:=by simp at h;exact h.1
def g8 {a b:Bool}(h:(a&&b)=true):b=true:=by simp at h;exact h.2
def yb (h:(isInt a&&isInt b)=true):x7 a b=bg (aj a+aj b):=by unfold x7;rw[if_pos h]
def Ot (h:(isInt a&&isInt b)=false):x7 a b=none:=by unfold x7;rw[h];rfl
def pt (h:(isInt a&&isInt b)=true):aV a b=bg (aj a-aj b):=by unfold aV;rw[if_pos h]
def yc (h:(isInt a&&isInt b)=false):aV a b=none:=by unfold aV;rw[h];rfl
def gF (h:(isInt a&&isInt b)=true):az a b=bg (aj a*aj b):=by unfold az;rw[if_pos h]
def Ou (h:(isInt a&&isInt b)=false):az a b=none:=by unfold az;rw[h];rfl
def yd (h:(isInt a&&isInt b)=false):bV a b=none:=by unfold bV;rw[h];rfl
def yf (h:(isInt a&&isInt b)=false):dT a b=0:=by unfold dT;rw[h];rfl
def EU (h:(isInt a&&isInt b)=true):bV a b=bg (bT false (Nat.gcd (aG (body a)) (aG (body b)))):=by
 unfold bV;rw[if_pos h]
 have:Int.gcd (aj a) (aj b)=Nat.gcd (aG (body a)) (aG (body b)):=by rw[Int.gcd,WD,WD]
 rw[this];rfl
def Ov (x y:Bool)(a b:Nat):bT (!(x==y)) (a*b)=bT x a*bT y b:=by cases x <;>cases y <;>simp[bT,Int.neg_mul,Int.mul_neg]
def sum_lt (ha:isInt a=true)(hb:isInt b=true){r:Nat}{s:Int}(h:bT ng r=aj a+s)(hs:s=aj b\/s=-aj b):r<10000^51:=by
 have h1:=eA ha
 have h2:=eA hb
 have e:(bT ng r).natAbs=r:=jQ ng r
 have G:=WD a
 have E:=WD b
 have:(10000:Nat)^51=10000^50*10000:=by rw[<-Nat.pow_succ]
 generalize (10000:Nat)^50=M at *
 omega
def ul (h:(isInt a&&isInt b)=true)(ha:neg a=true)(hb:neg b=true):aQ ((aG (body b):Nat):Int) ((aG (body a):Nat):Int)=dT a b:=by
 unfold dT;rw[if_pos h]
 refine ow ?_ ?_ <;>(unfold aj;rw[if_pos ha,if_pos hb];omega)
def um (h:(isInt a&&isInt b)=true)(ha:neg a=true)(hb:neg b=false):(-1:Int)=dT a b:=by
 unfold dT;rw[if_pos h,gh]
 have:=pj (ez (il h)) (oy (il h) ha)
 unfold aj;rw[if_pos ha,if_neg (by simp[hb])];omega
def un (h:(isInt a&&isInt b)=true)(ha:neg a=false)(hb:neg b=true):(1:Int)=dT a b:=by
 unfold dT;rw[if_pos h,eY]
 have:=pj (ez (g8 h)) (oy (g8 h) hb)
 have e1:aj a=(aG (body a):Int):=by unfold aj;rw[if_neg (by simp[ha])]
 have e2:aj b=-(aG (body b):Int):=by unfold aj;rw[if_pos hb]
 rw[e1,e2];omega
def uo (h:(isInt a&&isInt b)=true)(ha:neg a=false)(hb:neg b=false):aQ ((aG (body a):Nat):Int) ((aG (body b):Nat):Int)=dT a b:=by
 unfold dT;rw[if_pos h]
 unfold aj;rw[if_neg (by simp[ha]),if_neg (by simp[hb])]
def wh (o:Option (List UInt8×List UInt8)):Value:=.tuple #[S (rS (o.map (·.1))),S (rS (o.map (·.2))),.int .i64 (if o.isSome then 0 else 30)]
def yg (h:(isInt a&&isInt b)=false):du a b=none:=by unfold du;rw[h];rfl
def mP (h:aG (body b)=0):du a b=none:=by
 unfold du
 by_cases hb:isInt b=true
 · have:b=[48]:=(gi hb).1 (by have:=WD b;omega)
   simp[this]
 · simp[hb]
def lD (h:(isInt a&&isInt b)=true)(h0:0<aG (body b)):du a b=(bg (aj a/aj b)).map λq=>(q,ae (aj a%aj b)):=by
 have hb:b≠[48]:=by intro e;subst e;exact absurd qL (by have:body [48]=[48]:=rfl;rw[this]at h0;omega)
 unfold du
 rw[h,decide_eq_true hb];rfl
def Aj (ny:Bool)(x:Int)(b:Nat):x/bT ny b=(if ny then -(x/(b:Int))else x/(b:Int))/\x%bT ny b=x%(b:Int):=by
 cases ny
 · simp[bT]
 · simp[bT,Int.ediv_neg,Int.emod_neg]
def GL {a b:Nat}(hb:0<b)(hc:nx=false\/a%b=0):bT (!(nx==ny)) (a/b)=bT nx a/bT ny b/\((a%b:Nat):Int)=bT nx a%bT ny b:=by
 obtain⟨e1,e2⟩:=Aj ny (bT nx a) b
 rw[e1,e2]
 cases nx with
 | false=>
   simp only[bT,Bool.false_eq_true,if_false]
   cases ny <;>simp
 | true=>
   have E:a%b=0:=by rcases hc with h|h;cases h;exact h
   have hd:(b:Int)∣(a:Int):=Int.natCast_dvd_natCast.2 (Nat.dvd_of_mod_eq_zero E)
   simp only[bT,if_true]
   rw[Int.neg_ediv_of_dvd hd,Int.emod_eq_zero_of_dvd (Int.dvd_neg.2 hd),E]
   cases ny <;>simp
def GM {a b:Nat}(hb:0<b)(hr:0<a%b):bT (!(true==ny)) (a/b+1)=bT true a/bT ny b/\((b-a%b:Nat):Int)=bT true a%bT ny b:=by
 obtain⟨e1,e2⟩:=Aj ny (bT true a) b
 rw[e1,e2]
 have hlt:=Nat.mod_lt a hb
 have E:=Nat.div_add_mod a b
 have key:(-(a:Int))/(b:Int)=-((a/b:Nat):Int)-1/\(-(a:Int))%(b:Int)=((b-a%b:Nat):Int):=by
  refine(Int.ediv_emod_unique U).2 ⟨?_,by omega,by omega⟩
  have h3:(a:Int)=(b:Int)*((a/b:Nat):Int)+((a%b:Nat):Int):=by rw[<-Int.natCast_mul,<-Int.natCast_add,E]
  rw[Int.mul_sub,Int.mul_neg]
  omega
 simp only[bT,if_true]
 rw[key.1,key.2]
 cases ny <;>simp <;>omega
def TV {r:Nat}{x:Int}(hr:r<10^200)(h:(r:Int)=x):rS (bg (bT false r))=ae x:=by
 have hf:fits x=true:=by unfold fits;rw[decide_eq_true_eq];omega
 have e:bT false r=x:=h
 rw[e];unfold bg;rw[if_pos hf];rfl
def lE {r:Nat}(hb:isInt b=true)(h:r<=aG (body b)):r<10^200:=Nat.lt_of_le_of_lt h (sJ (ez hb))
def Ow {o:Option (List UInt8)}(h:rE o=0):∃s,o=some s:=by cases o with|none=>simp[rE]at h|some s=>exact⟨s,rfl⟩
def Xj {o:Option (List UInt8)}(h:¬rE o=0):o=none:=by cases o with|none=>rfl|some s=>simp[rE]at h
def gk {r:Nat}(h:(isInt a&&isInt b)=true)(h0:0<aG (body b))(hq:bT ng q=aj a/aj b)(hr:(r:Int)=aj a%aj b)(hl:r<=aG (body b))(hE:rE (bg (bT ng q))=0):
 Value.tuple #[S (rS (bg (bT ng q))),S (rS (bg (bT false r))),.int .i64 0]=wh (du a b):=by
 rw[lD h h0,TV (lE (g8 h) hl) hr,<-hq]
 obtain⟨s,hs⟩:=Ow hE
 rw[hs];rfl
def gl (h:(isInt a&&isInt b)=true)(h0:0<aG (body b))(hq:bT ng q=aj a/aj b)(hE:¬rE (bg (bT ng q))=0):
 Value.tuple #[S [],S [],.int .i64 (rE (bg (bT ng q)))]=wh (du a b):=by
 rw[lD h h0,<-hq,Xj hE];rfl
def Ox (ha:isInt a=true)(hb:isInt b=true):aG (body a)*aG (body b)<10000^100:=by
 have h1:=eA ha
 have h2:=eA hb
 have:(10000:Nat)^100=10000^50*10000^50:=by rw[<-Nat.pow_add]
 rw[this]
 exact Nat.mul_lt_mul'' h1 h2
def yh (lo:Nat)(ng:Bool)(a:Nat)(v:Value)(w:World):Prop:=∃A n c,v=.agg #[.bool ng,.slice A n c]/\en w lo A n c a
def yh.ext {a:Nat}{v:Value}(k:aO w w')(h:yh lo ng a v w):yh lo ng a v w':=by
 obtain⟨A,n,c,hv,E⟩:=h
 exact⟨A,n,c,hv,E.ext k⟩
def yi (a b:List UInt8)(w:World)(ht:Tb w):
 CL 186 #[S a,S b] w (aH w λv w'=>v=iF (x7 a b)):=by
 by_cases H:(isInt a&&isInt b)=true;have Af:=il H;have hb:=g8 H;refine aD func186 Z (I ?_);refine cl kK (lC _ _ _ Af hb) ?_;rintro _ _ C0 ⟨A1,CY,c1,A2,n2,c2,rfl,h1,h2⟩;have E:=C0.2;have Cr:=cO h1 (eA Af);have CG:=cO h2 (eA hb);have Ar:=h1.hi;have Ax:=h2.hi;refine I ?_;refine al bI (λ_ Am A0=>?_);have h1:=aa6 Am.2 h1;have h2:=aa6 Am.2 h2;have E:=xt E Am.2;refine al bI (λ_ Aq Ap=>?_);have h1:=aa6 Aq.2 h1;have h2:=aa6 Aq.2 h2;have⟨A0,E⟩:=bo Aq.2 A0 E;refine SA A0 (λ_ Ab Aw=>?_);have h1:=ac4 Ab (λO e=>by have:=Ar O e;omega) h1;have h2:=ac4 Ab (λO e=>by have:=Ax O e;omega) h2;have⟨Ap,E,_⟩:=j3 Ab Ap E;refine SA Ap (λ_ W _=>?_);have h1:=ac4 W (λO e=>by have:=Ar O e;omega) h1;have h2:=ac4 W (λO e=>by have:=Ax O e;omega) h2;have Aw:=pb W Aw;have E:=bi W E;refine I ?_;refine clb Q2 (hc:=Ae h1 U h2 U) (hk:=?_);rintro _ _ B2 ⟨ng,r,A,n,c,rfl,hr,hs⟩;have E:=xt E B2.2;rw[ni,ni]at hs;have CB:=cO hr (sum_lt Af hb hs (by exact Or.inl Z));refine clb mE (hc:=fZ hr U (ht.ext E)) (hk:=?_);rintro _ _ Ay rfl;have E:=xt E Ay.2;refine I ?_
 exact bA (t:=4) (u:=5) (v1:=S (rS (bg (bT ng r)))) (v2:=.int .i64 (rE (bg (bT ng r)))) Z E (by rw[yb H];exact qb2 (λx=>iF (bg x)) hs) Z Z;have H:=qQ H;refine aD func186 Z (I ?_);refine cl kK (nh _ _ _ H) ?_;rintro _ _ wr rfl;have G:=wr.2;refine I ?_;refine al bI (λ_ B1 nm=>?_);have G:=xt G B1.2;refine al bI (λ_ Az Ao=>?_);have⟨nm,G⟩:=bo Az.2 nm G;refine SA nm (λ_ B0 Av=>?_);have⟨Ao,G,_⟩:=j3 B0 Ao G;refine SA Ao (λ_ As _=>?_);have Av:=pb As Av;have G:=bi As G;refine I ?_;exact bA (t:=4) (u:=5) (v1:=S []) (v2:=.int .i64 30) Z G (by rw[Ot H];rfl) Z Z
def sP (a b:List UInt8)(w:World)(ht:Tb w):
 CL 86 #[S a,S b] w (aH w λv w'=>v=iF (aV a b)):=by
 by_cases O:(isInt a&&isInt b)=true;have Ap:=il O;have hb:=g8 O;refine aD func86 Z (I ?_);refine cl kK (lC _ _ _ Ap hb) ?_;rintro _ _ wr ⟨A1,Cr,c1,A2,n2,c2,rfl,h1,h2⟩;have E:=wr.2;have D1:=cO h1 (eA Ap);have CY:=cO h2 (eA hb);have Ab:=h1.hi;have Aw:=h2.hi;refine I ?_;refine al bI (λ_ As nm=>?_);have h1:=aa6 As.2 h1;have h2:=aa6 As.2 h2;have E:=xt E As.2;refine al bI (λ_ Am Ar=>?_);have h1:=aa6 Am.2 h1;have h2:=aa6 Am.2 h2;have⟨nm,E⟩:=bo Am.2 nm E;refine SA nm (λ_ Av W=>?_);have h1:=ac4 Av (λG e=>by have:=Ab G e;omega) h1;have h2:=ac4 Av (λG e=>by have:=Aw G e;omega) h2;have⟨Ar,E,_⟩:=j3 Av Ar E;refine SA Ar (λ_ Ao B0=>?_);have h1:=ac4 Ao (λG e=>by have:=Ab G e;omega) h1;have h2:=ac4 Ao (λG e=>by have:=Aw G e;omega) h2;have⟨W,E,_⟩:=j3 Ao W E;refine I ?_;refine SO B0 (λ_ A0 _=>?_);have h1:=ac4 A0 (λG e=>by have:=Ab G e;omega) h1;have h2:=ac4 A0 (λG e=>by have:=Aw G e;omega) h2;have W:=pb A0 W;have E:=bi A0 E;refine I ?_;refine clb Q2 (hc:=Ae h1 U h2 U) (hk:=?_);rintro _ _ B2 ⟨ng,r,A,n,c,rfl,hr,hs⟩;have E:=xt E B2.2;rw[ni,ET,ni]at hs;have CG:=cO hr (sum_lt Ap hb hs (by exact Or.inr Z))
 refine clb mE (hc:=fZ hr U (ht.ext E)) (hk:=?_);rintro _ _ B1 rfl;have E:=xt E B1.2;refine I ?_;exact bA (t:=4) (u:=5) (v1:=S (rS (bg (bT ng r)))) (v2:=.int .i64 (rE (bg (bT ng r)))) Z E (by rw[pt O];rw[show aj a-aj b=aj a+-aj b from rfl];exact qb2 (λx=>iF (bg x)) hs) Z Z;have O:=qQ O;refine aD func86 Z (I ?_);refine cl kK (nh _ _ _ O) ?_;rintro _ _ C0 rfl;have H:=C0.2;refine I ?_;refine al bI (λ_ Az Aq=>?_);have H:=xt H Az.2;refine al bI (λ_ CB Af=>?_);have⟨Aq,H⟩:=bo CB.2 Aq H;refine SA Aq (λ_ od Ay=>?_);have⟨Af,H,_⟩:=j3 od Af H;refine SA Af (λ_ Ax _=>?_);have Ay:=pb Ax Ay;have H:=bi Ax H;refine I ?_;exact bA (t:=4) (u:=5) (v1:=S []) (v2:=.int .i64 30) Z H (by rw[yc O];rfl) Z Z
def EV (a b:List UInt8)(w:World)(ht:Tb w):
 CL 85 #[S a,S b] w (aH w λv w'=>v=iF (az a b)):=by
 by_cases H:(isInt a&&isInt b)=true;have Ao:=il H;have hb:=g8 H;refine aD func85 Z (I ?_);refine cl kK (lC _ _ _ Ao hb) ?_;rintro _ _ Cr ⟨A1,FR,c1,A2,n2,c2,rfl,h1,h2⟩;have E:=Cr.2;have G0:=cO h1 (eA Ao);have EW:=cO h2 (eA hb);have Ay:=h1.hi;have B2:=h2.hi;refine I ?_;refine al bI (λ_ Af Aw=>?_);have h1:=aa6 Af.2 h1;have h2:=aa6 Af.2 h2;have E:=xt E Af.2;refine al bI (λ_ Av Ax=>?_);have h1:=aa6 Av.2 h1;have h2:=aa6 Av.2 h2;have⟨Aw,E⟩:=bo Av.2 Aw E;refine SA Aw (λ_ As B1=>?_);have h1:=ac4 As (λO e=>by have:=Ay O e;omega) h1;have h2:=ac4 As (λO e=>by have:=B2 O e;omega) h2;have⟨Ax,E,_⟩:=j3 As Ax E;refine SA Ax (λE4 Ab _=>?_);have h1:=ac4 Ab (λO e=>by have:=Ay O e;omega) h1;have h2:=ac4 Ab (λO e=>by have:=B2 O e;omega) h2;have B1:=pb Ab B1;have E:=bi Ab E;refine I ?_;obtain⟨L,_⟩:∃L,L=E4.heap.size:=⟨_,rfl⟩;refine bQ 14 ?_;refine sf ?_;refine aA (λ_ _ _ _=>by refine aa (mw (a:=neg a) (b:=neg b) (q:=(!((neg a)==(neg b)))) U4 Z Z Z ?_);refine I ?_;exact aE) ?_;refine sf ?_;refine bY (λv w=>Wf L (aG (body a)*aG (body b)) v w) (hs:=λ_ _ _ k h=>h.ext k) (λ_ _ Aq _=>?_) ?_;have h1:=aa6 Aq h1;have h2:=aa6 Aq h2
 refine clb Wq (hc:=Jk h1 U h2 U) (hk:=?_);rintro _ _ CY ⟨Ar,A0,W,rfl,hr⟩;have E7:=CY.2;have hr:=hr.mono (lo':=L) (by have:=bz Aq;omega);refine I ?_;exact fs ⟨E7,⟨Ar,A0,W,rfl,hr⟩⟩;refine bY (λv w=>yh L (!(neg a==neg b)) (aG (body a)*aG (body b)) v w) (hs:=λ_ _ _ k h=>h.ext k) (λ_ _ _ CG=>?_) ?_;obtain⟨Ar,A0,W,E6,hr⟩:=(CG 9 27 Z Z);refine aa (bX (vs:=[(0,.bool (!((neg a)==(neg b)))),(1,.slice Ar A0 W)]) (cells:=#[.bool (!((neg a)==(neg b))),.slice Ar A0 W]) (pl:=[(0,1),(1,1)]) kJ bI Hx (cj Z (cj E6 Z)) Hx ?_);refine I ?_;exact fs ⟨aa3 _,⟨Ar,A0,W,rfl,hr⟩⟩;refine aX (V:=.tuple #[S (rS (bg (bT (!(neg a==neg b)) (aG (body a)*aG (body b))))),.int .i64 (rE (bg (bT (!(neg a==neg b)) (aG (body a)*aG (body b)))))]) (λ_ _ E9 E5=>?_) ?_;obtain⟨_,_,_,CB,hq⟩:=(E5 10 28 Z Z);have GC:=cO hq (Ox Ao hb);refine clb mE (hc:=fZ hq U (ht.ext (xt E E9))) (hk:=?_) (hv:=av CB Z);rintro _ _ D2 rfl;have ES:=D2.2;refine I ?_;exact fs ⟨ES,rfl⟩;refine sf ?_;intro _ _ nm _;have E:=xt E nm.2;refine I ?_
 exact bA (t:=4) (u:=5) (v1:=S (rS (bg (bT (!(neg a==neg b)) (aG (body a)*aG (body b)))))) (v2:=.int .i64 (rE (bg (bT (!(neg a==neg b)) (aG (body a)*aG (body b)))))) Z E (by rw[gF H,<-ni,<-ni,<-Ov];rfl) Z Z;have H:=qQ H;refine aD func85 Z (I ?_);refine cl kK (nh _ _ _ H) ?_;rintro _ _ E1 rfl;have G:=E1.2;refine I ?_;refine al bI (λ_ D1 Ap=>?_);have G:=xt G D1.2;refine al bI (λ_ E0 Am=>?_);have⟨Ap,G⟩:=bo E0.2 Ap G;refine SA Ap (λ_ C0 Az=>?_);have⟨Am,G,_⟩:=j3 C0 Am G;refine SA Am (λ_ B0 _=>?_);have Az:=pb B0 Az;have G:=bi B0 G;refine I ?_;exact bA (t:=4) (u:=5) (v1:=S []) (v2:=.int .i64 30) Z G (by rw[Ou H];rfl) Z Z
def pu (a b:List UInt8)(w:World):
 CL 64 #[S a,S b] w (aH w λv w'=>v=.int .i64 (dT a b)):=by
 by_cases E:(isInt a&&isInt b)=true;have Ar:=il E;have hb:=g8 E;refine aD func64 Z (I ?_);refine cl kK (lC _ _ _ Ar hb) ?_;rintro _ _ B1 ⟨A1,CG,c1,A2,n2,c2,rfl,h1,h2⟩;have G:=B1.2;have CY:=cO h1 (eA Ar);have CB:=cO h2 (eA hb);have Aq:=h1.hi;have Ax:=h2.hi;refine I ?_;refine al bI (λ_ nm Ao=>?_);have h1:=aa6 nm.2 h1;have h2:=aa6 nm.2 h2;have G:=xt G nm.2;refine al bI (λ_ Ap Ab=>?_);have h1:=aa6 Ap.2 h1;have h2:=aa6 Ap.2 h2;have⟨Ao,G⟩:=bo Ap.2 Ao G;refine SA Ao (λ_ Af As=>?_);have h1:=ac4 Af (λO e=>by have:=Aq O e;omega) h1;have h2:=ac4 Af (λO e=>by have:=Ax O e;omega) h2;have⟨Ab,G,_⟩:=j3 Af Ab G;refine SA Ab (λ_ W _=>?_);have h1:=ac4 W (λO e=>by have:=Aq O e;omega) h1;have h2:=ac4 W (λO e=>by have:=Ax O e;omega) h2;have As:=pb W As;have G:=bi W G;refine I ?_;rcases qa4 (neg a)with cx|cx;refine I ?_;rcases qa4 (neg b)with nv|nv;refine I ?_;refine clb zx (hc:=jN h2 U h1) (hk:=?_);rintro _ _ B2 rfl;have G:=xt G B2.2;refine I ?_;exact am (t:=4) (v:=.int .i64 (aQ ((aG (body b):Nat):Int) ((aG (body a):Nat):Int))) Z G (qb2 (Value.int .i64) DM) Z
 refine I ?_;exact am (t:=4) (v:=.int .i64 (-1)) Z G (qb2 (Value.int .i64) DM) rfl;refine I ?_;rcases qa4 (neg b)with od|od;refine I ?_;exact am (t:=4) (v:=.int .i64 1) Z G (qb2 (Value.int .i64) DM) rfl;refine I ?_;refine clb zx (hc:=jN h1 U h2) (hk:=?_);rintro _ _ B0 rfl;have G:=xt G B0.2;refine I ?_;exact am (t:=4) (v:=.int .i64 (aQ ((aG (body a):Nat):Int) ((aG (body b):Nat):Int))) Z G (qb2 (Value.int .i64) DM) rfl;have E:=qQ E;refine aD func64 Z (I ?_);refine cl kK (nh _ _ _ E) ?_;rintro _ _ Ay rfl;have H:=Ay.2;refine I ?_;refine al bI (λ_ C0 Am=>?_);have H:=xt H C0.2;refine al bI (λ_ Av A0=>?_);have Am:=be Av.2 Am;have H:=xt H Av.2
 refine SA Am (λ_ Az wr=>?_);have⟨A0,H,_⟩:=j3 Az A0 H;refine SA A0 (λ_ Aw _=>?_);have wr:=pb Aw wr;have H:=bi Aw H;refine I ?_;exact am (t:=4) (v:=.int .i64 0) Z H (by rw[yf E]) Z
def kb (h:p:=by kernel_rfl):p:=h
def ec (h:p:=by assumption):p:=h
def Oy (h:Rw w lo A [Value.int .i64 1]):en w lo A 1 1 1:=by
 have e:au 10000 1=[1]:=by decide
 exact⟨by rw[e];exact h,by rw[e];rfl,qa0 _⟩
def YJ (h0:0<aG (body b))(hc:neg a=false\/aG (body a)%aG (body b)=0):bT (!(neg a==neg b)) (aG (body a)/aG (body b))=aj a/aj b/\((aG (body a)%aG (body b):Nat):Int)=aj a%aj b:=
 GL h0 hc
def dvr (h0:0<aG (body b))(ha:neg a=true)(hr:0<aG (body a)%aG (body b)):bT (!(neg a==neg b)) (aG (body a)/aG (body b)+1)=aj a/aj b/\((aG (body b)-aG (body a)%aG (body b):Nat):Int)=aj a%aj b:=by
 have:=GM (ny:=neg b) h0 hr
 rw[<-ha]at this
 exact this
def Ak {a b:Nat}(h:a<10000^50):a/b<10000^50:=Nat.lt_of_le_of_lt (Nat.div_le_self a b) h
def GN {a:Nat}(h:a<10000^50):a+1<10000^51:=by
 have:(10000:Nat)^51=10000^50*10000:=by rw[<-Nat.pow_succ]
 generalize (10000:Nat)^50=M at *
 omega
def Al {x y G:Nat}(h:Nat.gcd x y=G):Nat.gcd y (x%y)=G:=by rw[Nat.gcd_comm,<-Nat.gcd_rec,Nat.gcd_comm];exact h
def TW :
 CL 122 #[] w (aH w λv w'=>∃A n c,v=.slice A n c/\en w' w.heap.size A n c 1):=by
 refine aD func122 Z (I ?_);refine BS (λ_ E _ H=>?_);have G:=E;refine I ?_;exact am (t:=0) (v:=.slice (some ⟨w.heap.size,0,none⟩) 1 1) Z G ⟨_,_,_,rfl,Oy (aa7 H)⟩ Z
def ke (a b:List UInt8)(w:World)(ht:Tb w):
 CL 63 #[S a,S b] w (aH w λv w'=>v=wh (du a b)):=by
 by_cases O:(isInt a&&isInt b)=true;have Aw:=il O;have hb:=g8 O;refine aD func63 Z (I ?_);refine cl kK (lC _ _ _ Aw hb) ?_;rintro _ _ K2 ⟨A1,Q0,c1,A2,n2,c2,rfl,h1,h2⟩;have E:=K2.2;have Rm:=cO h1 (eA Aw);have T2:=cO h2 (eA hb);have E0:=h1.hi;have E9:=h2.hi;refine I ?_;refine al bI (λ_ B1 B2=>?_);have h1:=aa6 B1.2 h1;have h2:=aa6 B1.2 h2;have E:=xt E B1.2;refine al bI (λ_ Cr D2=>?_);have h1:=aa6 Cr.2 h1;have h2:=aa6 Cr.2 h2;have⟨B2,E⟩:=bo Cr.2 B2 E;refine SA B2 (λ_ CG As=>?_);have h1:=ac4 CG (λAb e=>by have:=E0 Ab e;omega) h1;have h2:=ac4 CG (λAb e=>by have:=E9 Ab e;omega) h2;have⟨D2,E,_⟩:=j3 CG D2 E;refine SA D2 (λ_ Ay Az=>?_);have h1:=ac4 Ay (λAb e=>by have:=E0 Ab e;omega) h1;have h2:=ac4 Ay (λAb e=>by have:=E9 Ab e;omega) h2;have As:=pb Ay As;have E:=bi Ay E;refine I ?_;by_cases aoz:(n2:Int)=0;have G:aG (body b)=0:=jw (B:=10000) U (h2.len.trans U);refine I ?_;exact fJ (t:=4) (u:=5) (s:=6) (v1:=S []) (v2:=S []) (v3:=.int .i64 30) Z E BT Z Z Z;have G:0<aG (body b):=mO (B:=10000) U kd8;refine I ?_
 refine clb Eg (hc:=sI h1 U h2 U G) (hk:=?_);rintro _ Lj E6 ⟨Aq,S0,T3,Ar,Av,B0,rfl,hq,hr⟩;have h2:=aa6 E6.2 h2;have⟨As,Az,E⟩:=ca E6.2 As Az E;have KM:=cO hq (Ak (eA Aw));have S9:=cO hr (Nat.lt_trans (Nat.mod_lt _ G) (eA hb));refine I ?_;rcases qa4 (neg a)with ly|ly;refine I ?_;by_cases ao0:0<(Av:Int);have D1:0<aG (body a)%aG (body b):=mO (B:=10000) U (by rw[hr.len];omega);have H:=dvr G ly D1;have A0:aG (body b)-aG (body a)%aG (body b)<=aG (body b):=Nat.sub_le _ _;refine I ?_;obtain⟨L,_⟩:∃L,L=Lj.heap.size:=⟨_,rfl⟩;have E7:aG (body a)%aG (body b)<=aG (body b):=Nat.le_of_lt (Nat.mod_lt _ G);have Ix:Av<=n2:=by rw[<-hr.len,<-h2.len];exact ey U E7
 have l1':=KM;refine bQ 7 ?_;refine sf ?_;refine bY (λv w=>Wf L 1 v w) (hs:=λ_ _ _ k h=>h.ext k) (λ_ _ Ne _=>?_) ?_;refine cl Wc TW ?_;rintro _ _ Li ⟨A1c,G0,FR,rfl,Ao⟩;have La:=Li.2;have Ao:=Ao.mono (lo':=L) (by have:=bz Ne;omega);refine I ?_;exact fs ⟨La,⟨A1c,G0,FR,rfl,Ao⟩⟩;refine bY (λv w=>Wf L (aG (body a)/aG (body b)+1) v w) (hs:=λ_ _ _ k h=>h.ext k) (λ_ _ EW L1=>?_) ?_;obtain⟨A1c,G0,FR,L3,Ao⟩:=(L1 1 47 Z Z);have P2:=cO (k:=1) Ao dc;have hq:=aa6 EW hq;refine clb zw (hc:=pg hq U Ao U) (hk:=?_) (hv:=av Z (av L3 Z));rintro _ _ od ⟨Ap,H3,GC,rfl,Af⟩;have L2:=od.2;have Af:=Af.mono (lo':=L) (by have:=bz EW;omega);refine I ?_;exact fs ⟨L2,⟨Ap,H3,GC,rfl,Af⟩⟩;refine sf ?_;refine bY (λv w=>Wf L (aG (body b)-aG (body a)%aG (body b)) v w) (hs:=λ_ _ _ k h=>h.ext k) (λ_ _ CB _=>?_) ?_;have h2:=aa6 CB h2;have hr:=aa6 CB hr;refine clb Eh (hc:=pi h2 U hr U E7 Ix) (hk:=?_);rintro _ _ KY ⟨Am,nm,Ax,rfl,hm⟩;have K3:=KY.2;have hm:=hm.mono (lo':=L) (by have:=bz CB;omega);refine I ?_;exact fs ⟨K3,⟨Am,nm,Ax,rfl,hm⟩⟩;refine sf ?_;intro _ _ wr H2;have⟨As,Az,E⟩:=ca wr.2 As Az E;obtain⟨Ap,H3,GC,_,Af⟩:=(H2 2 48 Z Z);obtain⟨Am,nm,Ax,_,hm⟩:=(H2 6 52 Z Z);refine I ?_
 have P1:=cO Af (GN (Ak (eA Aw)));have V2:=cO hm (Nat.lt_of_le_of_lt (Nat.sub_le _ _) (eA hb));refine I ?_;refine aa (mw (a:=neg a) (b:=neg b) (q:=(!((neg a)==(neg b)))) U4 Z Z Z ?_);refine I ?_;refine clb mE (hc:=fZ Af U (ht.ext E)) (hk:=?_);rintro _ _ H4 rfl;have hm:=aa6 H4.2 hm;have E:=xt E H4.2;refine I ?_;by_cases ao2:(rE (bg (bT (!((neg a)==(neg b))) (aG (body a)/aG (body b)+1))))=0;refine I ?_;refine aa (bX (vs:=[(1,.slice Am nm Ax)]) (cells:=#[.bool false,.slice Am nm Ax]) (pl:=[(0,1),(1,1)]) kJ bI kb Z kb ?_);refine clb mE (hc:=fZ hm U (ht.ext E)) (hk:=?_);rintro _ _ Lk rfl;have E:=xt E Lk.2;refine I ?_;exact fJ (t:=4) (u:=5) (s:=6) (v1:=S (rS (bg (bT (!((neg a)==(neg b))) (aG (body a)/aG (body b)+1))))) (v2:=S (rS (bg (bT false (aG (body b)-aG (body a)%aG (body b)))))) (v3:=.int .i64 0) Z E BT Z Z Z;refine I ?_
 exact fJ (t:=4) (u:=5) (s:=6) (v1:=S []) (v2:=S []) (v3:=.int .i64 (rE (bg (bT (!((neg a)==(neg b))) (aG (body a)/aG (body b)+1))))) Z E BT Z Z Z;have D1:aG (body a)%aG (body b)=0:=jw (B:=10000) U (hr.len.trans U);have H:=YJ (a:=a) G (Or.inr D1);have A0:aG (body a)%aG (body b)<=aG (body b):=Nat.le_of_lt (Nat.mod_lt _ G);refine I ?_;refine aa (mw (a:=neg a) (b:=neg b) (q:=(!((neg a)==(neg b)))) U4 Z Z Z ?_);refine I ?_;refine clb mE (hc:=fZ hq U (ht.ext E)) (hk:=?_);rintro _ _ E5 rfl;have hr:=aa6 E5.2 hr;have E:=xt E E5.2;refine I ?_;by_cases ao3:(rE (bg (bT (!((neg a)==(neg b))) (aG (body a)/aG (body b)))))=0;refine I ?_;refine aa (bX (vs:=[(1,.slice Ar Av B0)]) (cells:=#[.bool false,.slice Ar Av B0]) (pl:=[(0,1),(1,1)]) kJ bI kb Z kb ?_);refine clb mE (hc:=fZ hr U (ht.ext E)) (hk:=?_);rintro _ _ N0 rfl;have E:=xt E N0.2;refine I ?_
 exact fJ (t:=4) (u:=5) (s:=6) (v1:=S (rS (bg (bT (!((neg a)==(neg b))) (aG (body a)/aG (body b)))))) (v2:=S (rS (bg (bT false (aG (body a)%aG (body b)))))) (v3:=.int .i64 0) Z E BT Z Z Z;refine I ?_;exact fJ (t:=4) (u:=5) (s:=6) (v1:=S []) (v2:=S []) (v3:=.int .i64 (rE (bg (bT (!((neg a)==(neg b))) (aG (body a)/aG (body b)))))) Z E BT Z Z Z;have H:=YJ G (Or.inl ly);have A0:aG (body a)%aG (body b)<=aG (body b):=Nat.le_of_lt (Nat.mod_lt _ G);refine I ?_;refine aa (mw (a:=neg a) (b:=neg b) (q:=(!((neg a)==(neg b)))) U4 Z Z Z ?_);refine I ?_;refine clb mE (hc:=fZ hq U (ht.ext E)) (hk:=?_);rintro _ _ ES rfl;have hr:=aa6 ES.2 hr;have E:=xt E ES.2;refine I ?_;by_cases ao4:(rE (bg (bT (!((neg a)==(neg b))) (aG (body a)/aG (body b)))))=0;refine I ?_;refine aa (bX (vs:=[(1,.slice Ar Av B0)]) (cells:=#[.bool false,.slice Ar Av B0]) (pl:=[(0,1),(1,1)]) kJ bI kb Z kb ?_);refine clb mE (hc:=fZ hr U (ht.ext E)) (hk:=?_);rintro _ _ L4 rfl;have E:=xt E L4.2;refine I ?_
 exact fJ (t:=4) (u:=5) (s:=6) (v1:=S (rS (bg (bT (!((neg a)==(neg b))) (aG (body a)/aG (body b)))))) (v2:=S (rS (bg (bT false (aG (body a)%aG (body b)))))) (v3:=.int .i64 0) Z E BT Z Z Z;refine I ?_;exact fJ (t:=4) (u:=5) (s:=6) (v1:=S []) (v2:=S []) (v3:=.int .i64 (rE (bg (bT (!((neg a)==(neg b))) (aG (body a)/aG (body b)))))) Z E BT Z Z Z;have O:=qQ O;refine aD func63 Z (I ?_);refine cl kK (nh _ _ _ O) ?_;rintro _ _ Kp rfl;have W:=Kp.2;refine I ?_;refine al bI (λ_ P0 CY=>?_);have W:=xt W P0.2;refine al bI (λ_ KC C0=>?_);have⟨CY,W⟩:=bo KC.2 CY W;refine SA CY (λ_ No E1=>?_);have⟨C0,W,_⟩:=j3 No C0 W;refine SA C0 (λ_ E4 _=>?_);have E1:=pb E4 E1;have W:=bi E4 W;refine I ?_;exact fJ (t:=4) (u:=5) (s:=6) (v1:=S []) (v2:=S []) (v3:=.int .i64 30) Z W (by rw[yg O];rfl) Z Z Z
def yj (a b:List UInt8)(w:World)(ht:Tb w):
 CL 87 #[S a,S b] w (aH w λv w'=>v=iF (bV a b)):=by
 by_cases A0:(isInt a&&isInt b)=true;have D2:=il A0;have hb:=g8 A0;refine aD func87 Z (I ?_);refine cl kK (lC _ _ _ D2 hb) ?_;rintro _ GC G0 ⟨A1,E1,c1,A2,n2,c2,rfl,h1,h2⟩;have E:=G0.2;have H4:=cO h1 (eA D2);have FR:=cO h2 (eA hb);have Cr:=h1.hi;have E4:=h2.hi;refine I ?_;refine al bI (λES Aw CG=>?_);have h1:=aa6 Aw.2 h1;have h2:=aa6 Aw.2 h2;have E:=xt E Aw.2;refine al bI (λ_ B0 CY=>?_);have h1:=aa6 B0.2 h1;have h2:=aa6 B0.2 h2;have⟨CG,E⟩:=bo B0.2 CG E;refine SA CG (λ_ B1 H=>?_);have h1:=ac4 B1 (λAb e=>by have:=Cr Ab e;omega) h1;have h2:=ac4 B1 (λAb e=>by have:=E4 Ab e;omega) h2;have⟨CY,E,_⟩:=j3 B1 CY E;refine SA CY (λ_ Ap Af=>?_);have h1:=ac4 Ap (λAb e=>by have:=Cr Ab e;omega) h1;have h2:=ac4 Ap (λAb e=>by have:=E4 Ab e;omega) h2;have H:=pb Ap H;have E:=bi Ap E;refine I ?_;refine bQ 5 ?_;refine sf ?_;intro _ _ CB _;have h1:=aa6 CB.2 h1;have h2:=aa6 CB.2 h2;have⟨H,Af,E⟩:=ca CB.2 H Af E;refine I ?_
 refine b7 [(9,12),(26,36)] (λE7 e W=>∃Ax:Option Addr,∃nx:Nat,∃Ao:Nat,∃x:Nat,∃Ay:Option Addr,∃ny:Nat,∃As:Nat,∃y:Nat,(y=E7)/\(e 9=.slice Ax nx Ao)/\(e 10=.slice Ay ny As)/\(nx<=50)/\(ny<=50)/\(Nat.gcd x y=Nat.gcd (aG (body a)) (aG (body b)))/\(aO w W)/\(ar W GC.heap.size 161 #[.bool (neg a),.slice A1 E1 c1])/\(ar W ES.heap.size 161 #[.bool (neg b),.slice A2 n2 c2])/\(en W w.heap.size Ax nx Ao x)/\(en W w.heap.size Ay ny As y)) (aG (body b)) ⟨A1,E1,c1,aG (body a),A2,n2,c2,aG (body b),rfl,rfl,rfl,H4,FR,rfl,E,H,Af,h1,h2⟩ ?_;rintro _ _ _ ⟨Ax,nx,Ao,x,Ay,ny,As,y,rfl,K3,Ix,q1,q2,C0,O,H,Af,hx,hy⟩;have KC:=bz O;by_cases hm:0<ny;have Am:0<y:=mO (B:=10000) U (by rw[hy.len];omega);refine I ?_;refine clb Eg (hc:=sI hx U hy U Am) (hk:=?_);rintro _ _ Av ⟨Aq,K2,KM,Ar,H2,E5,rfl,hq,hr⟩;have⟨H,Af⟩:=dN Av.2 H Af;have hy:=aa6 Av.2 hy;have O:=xt O Av.2;refine I ?_;exact bF (hk:=by exact Nat.mod_lt _ Am) ⟨Ay,ny,As,y,Ar,H2,E5,x%y,rfl,rfl,rfl,U,(by rw[<-hr.len];exact qa8 (ey U (Nat.le_of_lt (Nat.mod_lt _ Am))) (by rw[hy.len];exact q2)),(Al C0),O,H,Af,hy,(hr.mono U)⟩;have Am:y=0:=jw (B:=10000) U (hy.len.trans U);rw[Am,Nat.gcd_zero_right]at C0;refine I ?_
 refine aa (bX (vs:=[(1,.slice Ax nx Ao)]) (cells:=#[.bool false,.slice Ax nx Ao]) (pl:=[(0,1),(1,1)]) kJ bI kb Z kb ?_);refine clb mE (hc:=fZ hx U (ht.ext O)) (hk:=?_);rintro _ _ od rfl;have O:=xt O od.2;refine I ?_;exact bA (t:=4) (u:=5) (v1:=S (rS (bg (bT false x)))) (v2:=.int .i64 (rE (bg (bT false x)))) Z O (by rw[EU A0,<-C0];rfl) Z Z;have A0:=qQ A0;refine aD func87 Z (I ?_);refine cl kK (nh _ _ _ A0) ?_;rintro _ _ E9 rfl;have G:=E9.2;refine I ?_;refine al bI (λ_ H3 B2=>?_);have G:=xt G H3.2;refine al bI (λ_ EW Az=>?_);have⟨B2,G⟩:=bo EW.2 B2 G;refine SA B2 (λ_ E6 D1=>?_);have⟨Az,G,_⟩:=j3 E6 Az G;refine SA Az (λ_ E0 _=>?_);have D1:=pb E0 D1;have G:=bi E0 G;refine I ?_;exact bA (t:=4) (u:=5) (v1:=S []) (v2:=.int .i64 30) Z G (by rw[yd A0];rfl) Z Z
end Go.Proofs.YtlmihmlnpjkblaaGreatDoor
namespace Go.Eng
abbrev R:=List UInt8×List UInt8
def bN (a:R):Bool:=isInt a.1&&isInt a.2&& !decide (dT a.2 [48]<=0)&&decide (bV a.1 a.2=some [49])
def eh (n d:Int):Int:=(if d<0 then -n else n)/((Int.gcd n d:Nat):Int)
def dn (n d:Int):Int:=(if d<0 then -d else d)/((Int.gcd n d:Nat):Int)
def im (n d:Int):Option R:=if d=0 then none else some (ae (eh n d),ae (dn n d))
def io (n d:Int):Option R:=if fits n&&fits d then im n d else none
def fe (a b:R):Option R:=if bN a&&bN b then io (aj a.1*aj b.1) (aj a.2*aj b.2)else none
def lF (a b:R):Option R:=if bN a&&bN b then io (aj a.1*aj b.2) (aj a.2*aj b.1)else none
def jR (a b:R):Option R:=if bN a&&bN b then(if fits (aj a.1*aj b.2)&&fits (aj b.1*aj a.2)then io (aj a.1*aj b.2+aj b.1*aj a.2) (aj a.2*aj b.2)else none)else none
def dI (a b:R):Option R:=if bN a&&bN b then(if fits (aj a.1*aj b.2)&&fits (aj b.1*aj a.2)then io (aj a.1*aj b.2-aj b.1*aj a.2) (aj a.2*aj b.2)else none)else none
def rN (o:Option R):List UInt8:=(o.map (·.1)).getD []
def rD (o:Option R):List UInt8:=(o.map (·.2)).getD []
def TX (o:Option R):Int:=if o.isSome then 0 else 40
end Go.Eng
namespace Go.Proofs.YtlmihmlnpjkblaaGreatDoor
variable {bad:Bool}{y s n d:List UInt8}{b g lo i g0:Nat}{A:Option Addr}{w:World}
set_option maxRecDepth 100000
open Go Go.Eng Go.RowKit Tryz
attribute [local irreducible] wpListIn Code.wpIn Oper.wpIn Exit.then Exit.inBlock Exit.noGoto
set_option maxHeartbeats 40000000
def ah {p:Prop}(h:p:=by assumption):p:=h
def us {x:List UInt8}(h:isInt x=false):Value.bool false=.bool (bN (x,y)):=by simp[bN,h]
def ut {x:List UInt8}(h:isInt y=false):Value.bool false=.bool (bN (x,y)):=by simp[bN,h]
def uu {x:List UInt8}(h:dT y [48]<=0):Value.bool false=.bool (bN (x,y)):=by simp[bN,h]
def JD {o:Option (List UInt8)}:(rE o=0/\rS o=s)↔o=some s:=by
 cases o with
 |none=>simp[rE]
 |some t=>simp[rE,rS]
def uv {x:List UInt8}(h1:isInt x=true)(h2:isInt y=true)(h3:¬dT y [48]<=0)(h4:rE (bV x y)=0):Value.bool (decide (rS (bV x y)=[49]))=.bool (bN (x,y)):=by
 have:(bV x y=some [49])↔(rS (bV x y)=[49]):=by rw[<-JD];simp[h4]
 simp[bN,h1,h2,h3,this]
def uw {x:List UInt8}(h1:isInt x=true)(h2:isInt y=true)(h3:¬dT y [48]<=0)(h4:¬rE (bV x y)=0):Value.bool false=.bool (bN (x,y)):=by
 have:¬(bV x y=some [49]):=by rw[<-JD];simp[h4]
 simp[bN,this]
def dB (bad:Bool)(o:Option (List UInt8)):Bool:=bad||o.isNone
def dS (bad:Bool)(o:Option (List UInt8)):List UInt8:=if bad then[]else rS o
def Op2 (g:Nat)(x y:List UInt8)(o:Option (List UInt8)):Prop:=∀W,Tb W->CL g #[S x,S y] W (aH W λv _=>v=iF o)
def Zm (o:Option (List UInt8)):dB false o= !decide (rE o=0):=by cases o <;>rfl
def Rr {o:Option (List UInt8)}(h:bad=true):dB bad o=bad:=by subst h;rfl
def Rs {o:Option (List UInt8)}(h:bad=false):dB bad o= !decide (rE o=0):=by subst h;exact Zm o
def gY (o:Option R):Value:=.tuple #[.agg #[S (rN o),S (rD o)],.int .i64 (TX o)]
def An (bad:Bool)(n d:List UInt8):Option R:=
 if dB (dB (dB bad (bV n d)) ((du n (dS bad (bV n d))).map (·.1))) ((du d (dS bad (bV n d))).map (·.1))=true then none
 else some (dS (dB bad (bV n d)) ((du n (dS bad (bV n d))).map (·.1)),dS (dB (dB bad (bV n d)) ((du n (dS bad (bV n d))).map (·.1))) ((du d (dS bad (bV n d))).map (·.1)))
def g9 (bad:Bool)(n d:List UInt8):Option R:=
 if bad=true\/d=[48]then none
 else if dT d [48]<0 then An (dB (dB bad (aV [48] n)) (aV [48] d)) (dS bad (aV [48] n)) (dS (dB bad (aV [48] n)) (aV [48] d))
 else An bad n d
def oA (h:bad=true):g9 bad n d=none:=if_pos (Or.inl h)
def oC (h:d=[48]):g9 bad n d=none:=if_pos (Or.inr h)
def iG (h1:bad=false)(h2:¬d=[48])(h3:dT d [48]<0):g9 bad n d=An (dB (dB bad (aV [48] n)) (aV [48] d)) (dS bad (aV [48] n)) (dS (dB bad (aV [48] n)) (aV [48] d)):=by
 unfold g9;rw[if_neg (by rw[h1];simp[h2]),if_pos h3]
def iH (h1:bad=false)(h2:¬d=[48])(h3:¬dT d [48]<0):g9 bad n d=An bad n d:=by
 unfold g9;rw[if_neg (by rw[h1];simp[h2]),if_neg h3]
def jk (h:dB (dB (dB bad (bV n d)) ((du n (dS bad (bV n d))).map (·.1))) ((du d (dS bad (bV n d))).map (·.1))=true):An bad n d=none:=if_pos h
def jl (h:dB (dB (dB bad (bV n d)) ((du n (dS bad (bV n d))).map (·.1))) ((du d (dS bad (bV n d))).map (·.1))=false):An bad n d=some (dS (dB bad (bV n d)) ((du n (dS bad (bV n d))).map (·.1)),dS (dB (dB bad (bV n d)) ((du n (dS bad (bV n d))).map (·.1))) ((du d (dS bad (bV n d))).map (·.1))):=if_neg (by rw[h];simp)
def eE (x y:List UInt8)(w:World)(ht:Tb w):
 CL 62 #[.agg #[S x,S y]] w (aH w λv w'=>v=.bool (bN (x,y))):=by
 refine aD func62 Z (I ?_);refine bx (λ_ Af G=>?_);have E:=Af.2;refine I ?_;rcases qa4 (isInt x)with cr|cr;rcases qa4 (isInt y)with cv|cv;refine I ?_;refine cl tA (iE x _) ?_;rintro _ _ A2 rfl;have⟨G,E⟩:=bo A2.2 G E;refine I ?_;refine cl tA (iE y _) ?_;rintro _ _ H rfl;have⟨G,E⟩:=bo H.2 G E;refine I ?_;refine cl xF (pu y [48] _) ?_;rintro _ _ A0 rfl;have⟨G,E⟩:=bo A0.2 G E;refine I ?_;by_cases fy:(dT y [48])<=0;refine I ?_;exact am (t:=2) (v:=.bool false) Z E CT Z;refine I ?_;refine cl Ir (yj x y _ (ht.ext E)) ?_;rintro _ _ A1 rfl;have E:=xt E A1.2;refine I ?_;by_cases cw:(rE (bV x y))=0;refine I ?_;refine sh (b:=[49]) (I ?_);exact am (t:=2) (v:=.bool (decide ((rS (bV x y))=([49])))) Z E CT Z
 refine I ?_;exact am (t:=2) (v:=.bool false) Z E CT Z;refine I ?_;refine cl tA (iE x _) ?_;rintro _ _ Ab rfl;have⟨G,E⟩:=bo Ab.2 G E;refine I ?_;refine cl tA (iE y _) ?_;rintro _ _ O rfl;have E:=xt E O.2;refine I ?_;exact am (t:=2) (v:=.bool false) Z E CT Z;refine I ?_;refine cl tA (iE x _) ?_;rintro _ _ W rfl;have E:=xt E W.2;refine I ?_;exact am (t:=2) (v:=.bool false) Z E CT Z
def Oz (x y:List UInt8)(w:World)(ht:Tb w):
 CL 143 #[S x,S y] w (aH w λv w'=>v=iF ((du x y).map (·.1))):=by
 refine aD func143 Z (I ?_);refine cl zu (ke x y _ (ht.ext (aa3 _))) ?_;rintro _ _ G rfl;have E:=G.2;refine I ?_;exact bA (t:=4) (u:=5) (v1:=S (rS ((du x y).map (·.1)))) (v2:=.int .i64 (if(du x y).isSome then 0 else 30)) Z E (by cases du x y <;>rfl) Z Z
def rT (hB:ar w b 75 #[.bool bad])(ht:Tb w){x:List UInt8}{o:Option (List UInt8)}(heg:Enters prog g)(hop:Op2 g x y o):
 CL 84 #[pT b,.func (.func g) #[] #[],S x,S y] w (kv λv w'=>w.grownBy w' (some b)/\ar w' b 75 #[.bool (dB bad o)]/\v=S (dS bad o)):=by
 have G:=World.grownBy.refl w (some b);refine zM func84 Z (I ?_);rcases qa4 bad with cm|cm;refine I ?_;refine g7 (v:=S []) (ci  rfl ?_) ⟨G,(by first|(rw[Rr ah];exact hB)|(rw[Rs ah];exact hB)),(by simp[dS, *])⟩;exact aM (t:=8) RM _;refine I ?_;refine aa (mg (vs:=[S x,S y]) (lb:=[]) heg Z Z (hop _ ht) ?_);rintro _ _ E rfl;have E:=E.2;have hB:=be E hB;have G:=lw G E;refine I ?_;refine SO hB (λ_ O H=>?_);have G:=Cx G O;refine I ?_;refine g7 (v:=S (rS o)) (ci  rfl ?_) ⟨G,(by first|(rw[Rr ah];exact H)|(rw[Rs ah];exact H)),(by simp[dS, *])⟩;exact aM (t:=8) RM _
def mQ (hB:ar w b 75 #[.bool bad])(ht:Tb w)(x y:List UInt8):
 CL 36 #[pT b,S x,S y] w (kv λv w'=>w.grownBy w' (some b)/\ar w' b 75 #[.bool (dB bad (az x y))]/\v=S (dS bad (az x y))):=by
 have G:=World.grownBy.refl w (some b);refine zM func36 Z (I ?_);refine aa (bL (vs:=[pT b,.func (.func 85) #[] #[],S x,S y]) rH Z (rT (o:=az x y) hB ht Q3 (λW hW=>EV _ _ W hW)) ?_);rintro _ _ ⟨H,E,rfl⟩;have G:=gz G H;refine I ?_;refine g7 (v:=S (dS bad (az x y))) (ci  rfl ?_) ⟨G,E,rfl⟩;exact aM (t:=6) RM _
def sQ (hB:ar w b 75 #[.bool bad])(ht:Tb w)(x y:List UInt8):
 CL 88 #[pT b,S x,S y] w (kv λv w'=>w.grownBy w' (some b)/\ar w' b 75 #[.bool (dB bad ((du x y).map (·.1)))]/\v=S (dS bad ((du x y).map (·.1)))):=by
 have G:=World.grownBy.refl w (some b);refine zM func88 Z (I ?_);refine aa (bL (vs:=[pT b,.func (.func 143) #[] #[],S x,S y]) rH Z (rT (o:=(du x y).map (·.1)) hB ht Ws (λW hW=>Oz _ _ W hW)) ?_);rintro _ _ ⟨H,E,rfl⟩;have G:=gz G H;refine I ?_;refine g7 (v:=S (dS bad ((du x y).map (·.1)))) (ci  rfl ?_) ⟨G,E,rfl⟩;exact aM (t:=6) RM _
def ym (hB:ar w b 75 #[.bool bad])(ht:Tb w)(x y:List UInt8):
 CL 37 #[pT b,S x,S y] w (kv λv w'=>w.grownBy w' (some b)/\(∃q,ar w' b 75 #[.bool q])/\v=gY (g9 bad x y)):=by
 have G:=World.grownBy.refl w (some b);have H4:=bt hB;refine zM func37 Z (I ?_);refine al aU (λ_ Av E=>?_);have hB:=be Av.2 hB;have ht:=ab7 Av.2 ht;have G:=lw G Av.2;refine I ?_;rcases qa4 bad with cv|cv;refine I ?_;refine SA E (λ_ B1 E0=>?_);have hB:=pb B1 hB;have G:=ju G B1 U;refine I ?_;refine g7 (v:=.tuple #[.agg #[S [],S []],.int .i64 40]) (c8 (r1:=.cell 6 33) (r2:=.tmp 7) Z ?_ ?_) ⟨G,⟨_,hB⟩,Rd⟩;refine ai (t:=6) (cs:=[S [],S []]) (b:=w.heap.size) (o:=0) iW Z b8 ?_ ?_;exact Z;exact aa0 E0 (i:=0) Z;exact aM (t:=7) RM _;refine I ?_;refine sh (b:=[48]) (I ?_);by_cases wz:y=([48]);refine I ?_;refine SA E (λ_ B0 D2=>?_);have hB:=pb B0 hB;have G:=ju G B0 U;refine I ?_;refine g7 (v:=.tuple #[.agg #[S [],S []],.int .i64 40]) (c8 (r1:=.cell 6 33) (r2:=.tmp 7) Z ?_ ?_) ⟨G,⟨_,hB⟩,Rd⟩
 refine ai (t:=6) (cs:=[S [],S []]) (b:=w.heap.size) (o:=0) iW Z b8 ?_ ?_;exact Z;exact aa0 D2 (i:=0) Z;exact aM (t:=7) RM _;refine I ?_;refine cl xF (pu y [48] _) ?_;rintro _ _ Am rfl;have hB:=be Am.2 hB;have ht:=ab7 Am.2 ht;have E:=be Am.2 E;have G:=lw G Am.2;refine I ?_;by_cases w5:(dT y [48])<0;refine I ?_;refine aa (bL (vs:=[pT b,.func (.func 86) #[] #[],S [48],S x]) rH Z (rT (o:=aV [48] x) hB ht Ep (λW hW=>sP _ _ W hW)) ?_);rintro _ _ ⟨nm,CY,rfl⟩;have ht:=Tb.gr nm hB dc ht;have E:=aa2 nm KK E;have G:=gz G nm;have ES:=nm.size;refine I ?_;refine aa (bL (vs:=[pT b,.func (.func 86) #[] #[],S [48],S y]) rH Z (rT (o:=aV [48] y) CY ht Ep (λW hW=>sP _ _ W hW)) ?_);rintro _ _ ⟨Af,Aw,rfl⟩;have ht:=Tb.gr Af CY dc ht;have E:=aa2 Af KK E;have G:=gz G Af;have EW:=Af.size;refine I ?_;refine aa (bL (vs:=[pT b,.func (.func 87) #[] #[],S (dS bad (aV [48] x)),S (dS (dB bad (aV [48] x)) (aV [48] y))]) rH Z (rT (o:=bV (dS bad (aV [48] x)) (dS (dB bad (aV [48] x)) (aV [48] y))) Aw ht Ir (λW hW=>yj _ _ W hW)) ?_);rintro _ _ ⟨A0,Ax,rfl⟩;have ht:=Tb.gr A0 Aw dc ht;have E:=aa2 A0 KK E;have G:=gz G A0;have K2:=A0.size;refine I ?_
 refine aa (bL (vs:=[pT b,S (dS bad (aV [48] x)),S (dS (dB (dB bad (aV [48] x)) (aV [48] y)) (bV (dS bad (aV [48] x)) (dS (dB bad (aV [48] x)) (aV [48] y))))]) Es Z (sQ Ax ht (dS bad (aV [48] x)) (dS (dB (dB bad (aV [48] x)) (aV [48] y)) (bV (dS bad (aV [48] x)) (dS (dB bad (aV [48] x)) (aV [48] y))))) ?_);rintro _ _ ⟨A2,E9,rfl⟩;have ht:=Tb.gr A2 Ax dc ht;have E:=aa2 A2 KK E;have G:=gz G A2;have Ix:=A2.size;refine I ?_;refine aa (bL (vs:=[pT b,S (dS (dB bad (aV [48] x)) (aV [48] y)),S (dS (dB (dB bad (aV [48] x)) (aV [48] y)) (bV (dS bad (aV [48] x)) (dS (dB bad (aV [48] x)) (aV [48] y))))]) Es Z (sQ E9 ht (dS (dB bad (aV [48] x)) (aV [48] y)) (dS (dB (dB bad (aV [48] x)) (aV [48] y)) (bV (dS bad (aV [48] x)) (dS (dB bad (aV [48] x)) (aV [48] y))))) ?_);rintro _ _ ⟨Ap,O,rfl⟩;have E:=aa2 Ap KK E;have G:=gz G Ap;have H3:=Ap.size;refine I ?_;refine al aU (λ_ ny E1=>?_);have⟨O,E⟩:=dN ny.2 O E;have G:=lw G ny.2;refine SA E1 (λ_ Aq A1=>?_);have⟨O,E⟩:=js Aq O E;have G:=ju G Aq U;have K3:=gJ Aq;refine I ?_
 rcases qa4 (dB (dB (dB (dB (dB bad (aV [48] x)) (aV [48] y)) (bV (dS bad (aV [48] x)) (dS (dB bad (aV [48] x)) (aV [48] y)))) ((du (dS bad (aV [48] x)) (dS (dB (dB bad (aV [48] x)) (aV [48] y)) (bV (dS bad (aV [48] x)) (dS (dB bad (aV [48] x)) (aV [48] y))))).map (·.1))) ((du (dS (dB bad (aV [48] x)) (aV [48] y)) (dS (dB (dB bad (aV [48] x)) (aV [48] y)) (bV (dS bad (aV [48] x)) (dS (dB bad (aV [48] x)) (aV [48] y))))).map (·.1)))with v7|v7;refine I ?_;refine SA E (λ_ CB E5=>?_);have⟨O,A1⟩:=js CB O A1;have G:=ju G CB U;refine I ?_;refine g7 (v:=.tuple #[.agg #[S [],S []],.int .i64 40]) (c8 (r1:=.cell 6 33) (r2:=.tmp 7) Z ?_ ?_) ⟨G,⟨_,O⟩,Rd⟩;refine ai (t:=6) (cs:=[S [],S []]) (b:=w.heap.size) (o:=0) iW Z b8 ?_ ?_;exact Z;exact aa0 E5 (i:=0) Z
 exact aM (t:=7) RM _;refine I ?_;refine SA E (λ_ B2 E6=>?_);have⟨O,A1⟩:=js B2 O A1;have G:=ju G B2 U;refine I ?_
 refine g7 (v:=.tuple #[.agg #[S (dS (dB (dB (dB bad (aV [48] x)) (aV [48] y)) (bV (dS bad (aV [48] x)) (dS (dB bad (aV [48] x)) (aV [48] y)))) ((du (dS bad (aV [48] x)) (dS (dB (dB bad (aV [48] x)) (aV [48] y)) (bV (dS bad (aV [48] x)) (dS (dB bad (aV [48] x)) (aV [48] y))))).map (·.1))),S (dS (dB (dB (dB (dB bad (aV [48] x)) (aV [48] y)) (bV (dS bad (aV [48] x)) (dS (dB bad (aV [48] x)) (aV [48] y)))) ((du (dS bad (aV [48] x)) (dS (dB (dB bad (aV [48] x)) (aV [48] y)) (bV (dS bad (aV [48] x)) (dS (dB bad (aV [48] x)) (aV [48] y))))).map (·.1))) ((du (dS (dB bad (aV [48] x)) (aV [48] y)) (dS (dB (dB bad (aV [48] x)) (aV [48] y)) (bV (dS bad (aV [48] x)) (dS (dB bad (aV [48] x)) (aV [48] y))))).map (·.1)))],.int .i64 0]) (c8 (r1:=.cell 6 33) (r2:=.tmp 7) Z ?_ ?_) ⟨G,⟨_,O⟩,Rd⟩
 refine ai (t:=6) (cs:=[S (dS (dB (dB (dB bad (aV [48] x)) (aV [48] y)) (bV (dS bad (aV [48] x)) (dS (dB bad (aV [48] x)) (aV [48] y)))) ((du (dS bad (aV [48] x)) (dS (dB (dB bad (aV [48] x)) (aV [48] y)) (bV (dS bad (aV [48] x)) (dS (dB bad (aV [48] x)) (aV [48] y))))).map (·.1))),S (dS (dB (dB (dB (dB bad (aV [48] x)) (aV [48] y)) (bV (dS bad (aV [48] x)) (dS (dB bad (aV [48] x)) (aV [48] y)))) ((du (dS bad (aV [48] x)) (dS (dB (dB bad (aV [48] x)) (aV [48] y)) (bV (dS bad (aV [48] x)) (dS (dB bad (aV [48] x)) (aV [48] y))))).map (·.1))) ((du (dS (dB bad (aV [48] x)) (aV [48] y)) (dS (dB (dB bad (aV [48] x)) (aV [48] y)) (bV (dS bad (aV [48] x)) (dS (dB bad (aV [48] x)) (aV [48] y))))).map (·.1)))]) (b:=w.heap.size) (o:=0) iW Z b8 ?_ ?_;exact Z;exact aa0 E6 (i:=0) Z;exact aM (t:=7) RM _;refine I ?_;refine aa (bL (vs:=[pT b,.func (.func 87) #[] #[],S x,S y]) rH Z (rT (o:=bV x y) hB ht Ir (λW hW=>yj _ _ W hW)) ?_);rintro _ _ ⟨od,Az,rfl⟩;have ht:=Tb.gr od hB dc ht;have E:=aa2 od KK E;have G:=gz G od;have FR:=od.size;refine I ?_;refine aa (bL (vs:=[pT b,S x,S (dS bad (bV x y))]) Es Z (sQ Az ht x (dS bad (bV x y))) ?_);rintro _ _ ⟨Ab,Cr,rfl⟩;have ht:=Tb.gr Ab Az dc ht
 have E:=aa2 Ab KK E;have G:=gz G Ab;have H2:=Ab.size;refine I ?_;refine aa (bL (vs:=[pT b,S y,S (dS bad (bV x y))]) Es Z (sQ Cr ht y (dS bad (bV x y))) ?_);rintro _ _ ⟨Ar,H,rfl⟩;have E:=aa2 Ar KK E;have G:=gz G Ar;have GC:=Ar.size;refine I ?_;refine al aU (λ_ Ay E4=>?_);have⟨H,E⟩:=dN Ay.2 H E;have G:=lw G Ay.2;refine SA E4 (λ_ As Ao=>?_);have⟨H,E⟩:=js As H E;have G:=ju G As U;have G0:=gJ As;refine I ?_;rcases Bool.eq_false_or_eq_true (dB (dB (dB bad (bV x y)) ((du x (dS bad (bV x y))).map (·.1))) ((du y (dS bad (bV x y))).map (·.1)))with wr|wr;refine I ?_;refine SA E (λ_ C0 D1=>?_);have⟨H,Ao⟩:=js C0 H Ao;have G:=ju G C0 U;refine I ?_;refine g7 (v:=.tuple #[.agg #[S [],S []],.int .i64 40]) (c8 (r1:=.cell 6 33) (r2:=.tmp 7) Z ?_ ?_) ⟨G,⟨_,H⟩,Rd⟩
 refine ai (t:=6) (cs:=[S [],S []]) (b:=w.heap.size) (o:=0) iW Z b8 ?_ ?_;exact Z;exact aa0 D1 (i:=0) Z;exact aM (t:=7) RM _;refine I ?_;refine SA E (λ_ CG E7=>?_);have⟨H,Ao⟩:=js CG H Ao;have G:=ju G CG U;refine I ?_;refine g7 (v:=.tuple #[.agg #[S (dS (dB bad (bV x y)) ((du x (dS bad (bV x y))).map (·.1))),S (dS (dB (dB bad (bV x y)) ((du x (dS bad (bV x y))).map (·.1))) ((du y (dS bad (bV x y))).map (·.1)))],.int .i64 0]) (c8 (r1:=.cell 6 33) (r2:=.tmp 7) Z ?_ ?_) ⟨G,⟨_,H⟩,Rd⟩;refine ai (t:=6) (cs:=[S (dS (dB bad (bV x y)) ((du x (dS bad (bV x y))).map (·.1))),S (dS (dB (dB bad (bV x y)) ((du x (dS bad (bV x y))).map (·.1))) ((du y (dS bad (bV x y))).map (·.1)))]) (b:=w.heap.size) (o:=0) iW Z b8 ?_ ?_;exact Z;exact aa0 E7 (i:=0) Z;exact aM (t:=7) RM _
def ag (l:List R):List Value:=l.flatMap λa=>[S a.1,S a.2]
def kaA (l:List R):(ag l).length=l.length*2:=by
 induction l with
 |nil=>rfl
 |cons a t ih=>simp[ag]at ih ⊢;omega
def oD {l:List R}:∀u∈ag l,u.oneCell'=true:=by
 intro u hu
 obtain⟨a,_,E⟩:=List.mem_flatMap.1 hu
 simp at E
 rcases E with rfl|rfl <;>rfl
def ao (l:List R)(i:Nat):R:=l.getD i ([],[])
def ux:∀{l:List R} {i:Nat},i<l.length->(ag l)[i*2]?=some (S (ao l i).1)/\(ag l)[i*2+1]?=some (S (ao l i).2)
 |a::t,0,_=>by simp[ag,ao]
 | a::t,i+1,h=>by
   have ih:=ux (l:=t) (i:=i) kb5
   rw[show(i+1)*2=i*2+2 by omega,show i*2+2+1=i*2+1+2 by omega]
   simpa[ag,ao]using ih
def EX {l:List R}(h:Rw w lo A (ag l))(hi:i<l.length):∃b o,A=some ⟨b,o,none⟩/\∀j u,[S (ao l i).1,S (ao l i).2][j]?=some u->w.cell? ⟨b,o+i*2+j,none⟩=some u:=by
 obtain⟨h1,h2⟩:=ux hi
 obtain⟨b,o,hA,G⟩:=h.cells _ _ h1
 obtain⟨_,_,hA',E⟩:=h.cells _ _ h2
 rw[hA]at hA';cases hA'
 refine⟨b,o,hA,λj u hu=>?_⟩
 match j,hu with
 |0,hu=>simp at hu;subst hu;simpa using G
 |1,hu=>simp at hu;subst hu;simpa[Nat.add_assoc]using E
def cD (bad:Bool)(l:List R):Bool:=bad||l.any λa=>!bN a
def EY {l:List R}(hi:i<l.length):cD bad (l.take (i+1))=(cD bad (l.take i)|| !bN (ao l i)):=by
 have:l.take (i+1)=l.take i++[ao l i]:=by
  rw[List.take_succ_eq_append_getElem hi];simp[ao,hi]
 rw[this];simp[cD,Bool.or_assoc]
def Xk {l:List R}(hi:i<l.length)(h:cD bad (l.take i)=true):cD bad (l.take (i+1))=true:=by rw[EY hi,h];rfl
def Xl {l:List R}(hi:i<l.length)(h:cD bad (l.take i)=false):cD bad (l.take (i+1))= !bN ((ao l i).1,(ao l i).2):=by rw[EY hi,h];rfl
def gU (h:isInt d=true):dT d [48]=aQ (aj d) 0:=by unfold dT;rw[if_pos (by rw[h,jP];rfl),kQ]
def pw {x y:Int}:aQ x y<0↔x<y:=by
 unfold aQ;split
 · simp[*]
 · split <;>simp[*]
def dh {x y:Int}:aQ x y<=0↔x<=y:=by
 unfold aQ;split
 · simp;omega
 · split <;>simp <;>omega
def nj (h:isInt n=true):aV [48] n=some (ae (-aj n)):=by
 rw[pt (by rw[jP,h];rfl),kQ]
 unfold bg
 have hf:fits (0-aj n)=true:=by
  have:=e9 h
  unfold fits at *
  rw[decide_eq_true_eq]at *
  omega
 rw[if_pos hf,Int.zero_sub]
def nk (h:isInt n=true):isInt (ae (-aj n))=true:=by
 refine br ?_
 have:=e9 h
 unfold fits at *
 rw[decide_eq_true_eq]at *
 omega
def kf {a b:Int}(h:fits b=true)(hl:a.natAbs<=b.natAbs):fits a=true:=by
 unfold fits at *
 rw[decide_eq_true_eq]at *
 exact Nat.lt_of_le_of_lt hl h
def kg (a:Int)(b:Nat)(hb:0<b)(hd:(b:Int)∣a):(a/(b:Int)).natAbs<=a.natAbs:=by
 obtain⟨c,rfl⟩:=hd
 rw[Int.mul_ediv_cancel_left _ U,Int.natAbs_mul]
 exact Nat.le_mul_of_pos_left _ (by simpa using hb)
def wK (hn:isInt n=true)(hd:isInt d=true)(h0:aj d≠0):
 An false n d=some (ae (aj n/((Int.gcd (aj n) (aj d):Nat):Int)),ae (aj d/((Int.gcd (aj n) (aj d):Nat):Int))):=by
 have E:0<Int.gcd (aj n) (aj d):=Int.gcd_pos_of_ne_zero_right _ h0
 have O:((Int.gcd (aj n) (aj d):Nat):Int)∣aj d:=Int.gcd_dvd_right ..
 have A1:((Int.gcd (aj n) (aj d):Nat):Int)∣aj n:=Int.gcd_dvd_left ..
 have G:fits ((Int.gcd (aj n) (aj d):Nat):Int)=true:=kf (e9 hd) (by
  have:=Nat.le_of_dvd U (Int.natAbs_dvd_natAbs.2 O)
  simpa using this)
 have hG:bV n d=some (ae ((Int.gcd (aj n) (aj d):Nat):Int)):=by
  unfold bV;rw[if_pos (by rw[hn,hd];rfl)];unfold bg;rw[if_pos G]
 generalize hg:Int.gcd (aj n) (aj d)=g at *
 have A0:=br G
 have H:∀{x:List UInt8},isInt x=true->(g:Int)∣aj x->(du x (ae (g:Int))).map (·.1)=some (ae (aj x/(g:Int))):=by
  intro x hx W
  rw[lD (by rw[hx,A0];rfl) (by rw[gL,gK];simpa using E),aJ]
  unfold bg
  rw[if_pos (kf (e9 hx) (kg _ _ E W))]
  rfl
 unfold An
 rw[hG]
 simp only[dS,Bool.false_eq_true,if_false,rS,Option.getD_some]
 rw[H hn A1,H hd O]
 rfl
def wL (hn:isInt n=true)(hd:isInt d=true):g9 false n d=im (aj n) (aj d):=by
 unfold im
 by_cases h0:aj d=0
 · rw[if_pos h0,oC ((gi hd).1 h0)]
 · have E:¬d=[48]:=λe=>h0 ((gi hd).2 e)
   rw[if_neg h0]
   unfold eh dn
   by_cases hs:aj d<0
   · rw[iG Z E (by rw[gU hd];exact pw.2 hs),nj hn,nj hd]
     simp only[dB,dS,Bool.false_or,Option.isNone_some,Bool.false_eq_true,if_false,rS,Option.getD_some]
     rw[wK (nk hn) (nk hd) (by rw[aJ];omega),aJ,aJ,if_pos hs,if_pos hs]
     have:Int.gcd (-aj n) (-aj d)=Int.gcd (aj n) (aj d):=by rw[Int.gcd_neg,Int.neg_gcd]
     rw[this]
   · rw[iH Z E (by rw[gU hd];exact λh=>hs (pw.1 h)),wK hn hd h0,if_neg hs,if_neg hs]
def kR (n d:List UInt8):g9 true n d=none:=oA Z
def yn (a b:R):cD false [a,b]= !(bN a&&bN b):=by simp[cD]
def jt {a:R}(h:bN a=true):isInt a.1=true:=by simp only[bN,Bool.and_eq_true]at h;exact h.1.1.1
def gD {a:R}(h:bN a=true):isInt a.2=true:=by simp only[bN,Bool.and_eq_true]at h;exact h.1.1.2
def jb (n:Int):(bg n).isNone= !fits n:=by unfold bg;cases fits n <;>rfl
def px {n:Int}(h:fits n=true):rS (bg n)=ae n:=by unfold bg;rw[if_pos h];rfl
def uy (okk:Bool)(n d:Int){on od:Option (List UInt8)}(hn:okk=true->on=bg n)(hd:okk=true->od=bg d):
 g9 (dB (dB (!okk) on) od) (dS (!okk) on) (dS (dB (!okk) on) od)=if okk then io n d else none:=by
 cases okk with
 |false=>simp only[Bool.not_false,dB,Bool.true_or,kR];rfl
 | true=>
   rw[hn Z,hd Z]
   unfold io
   simp only[Bool.not_true,dB,dS,Bool.false_or,Bool.false_eq_true,if_false,jb,if_true]
   cases h1:fits n with
   |false=>simp only[Bool.not_false,Bool.true_or,kR,Bool.false_and];rfl
   | true=>
     cases h2:fits d with
     |false=>simp only[Bool.not_false,Bool.or_true,kR,Bool.and_false];rfl
     | true=>
       simp only[Bool.not_true,Bool.or_false,Bool.false_eq_true,if_false,Bool.and_self,if_true]
       rw[px h1,px h2,wL (br h1) (br h2),aJ,aJ]
def JE (x1 x2 y1 y2:List UInt8):gY (g9 (dB (dB (cD false [(x1,x2),(y1,y2)]) (az x1 y1)) (az x2 y2)) (dS (cD false [(x1,x2),(y1,y2)]) (az x1 y1)) (dS (dB (cD false [(x1,x2),(y1,y2)]) (az x1 y1)) (az x2 y2)))=gY (fe (x1,x2) (y1,y2)):=by
 rw[yn,uy (bN (x1,x2)&&bN (y1,y2)) (aj x1*aj y1) (aj x2*aj y2) (λh=>gF (by rw[jt (il h),jt (g8 h)];rfl)) (λh=>gF kd2)]
 rfl
def JF (x1 x2 y1 y2:List UInt8):gY (g9 (dB (dB (cD false [(x1,x2),(y1,y2)]) (az x1 y2)) (az x2 y1)) (dS (cD false [(x1,x2),(y1,y2)]) (az x1 y2)) (dS (dB (cD false [(x1,x2),(y1,y2)]) (az x1 y2)) (az x2 y1)))=gY (lF (x1,x2) (y1,y2)):=by
 rw[yn,uy (bN (x1,x2)&&bN (y1,y2)) (aj x1*aj y2) (aj x2*aj y1) (λh=>gF kd3) (λh=>gF kd4)]
 rfl
def wN (okk:Bool)(p q s d:Int){op oq od:Option (List UInt8)}{os:List UInt8->List UInt8->Option (List UInt8)}(hp:okk=true->op=bg p)(hq:okk=true->oq=bg q)(hd:okk=true->od=bg d)(hs:fits p=true->fits q=true->os (ae p) (ae q)=bg s):
 g9 (dB (dB (dB (dB (!okk) op) oq) (os (dS (!okk) op) (dS (dB (!okk) op) oq))) od) (dS (dB (dB (!okk) op) oq) (os (dS (!okk) op) (dS (dB (!okk) op) oq))) (dS (dB (dB (dB (!okk) op) oq) (os (dS (!okk) op) (dS (dB (!okk) op) oq))) od)
  =if okk then(if fits p&&fits q then io s d else none)else none:=by
 cases okk with
 |false=>simp only[Bool.not_false,dB,Bool.true_or,kR];rfl
 | true=>
   rw[hp Z,hq Z,hd Z]
   cases h1:fits p with
   |false=>simp only[Bool.not_true,dB,Bool.false_or,jb,h1,Bool.not_false,Bool.true_or,kR,Bool.false_and];rfl
   | true=>
     cases h2:fits q with
     |false=>simp only[Bool.not_true,dB,Bool.false_or,jb,h1,h2,Bool.not_false,Bool.true_or,Bool.or_true,kR,Bool.and_false];rfl
     | true=>
       have e1:dS (!true) (bg p)=ae p:=by rw[<-px h1];rfl
       have e2:dB (!true) (bg p)=false:=by unfold dB;rw[jb,h1];rfl
       have G:dS false (bg q)=ae q:=by rw[<-px h2];rfl
       have E:dB false (bg q)=false:=by unfold dB;rw[jb,h2];rfl
       rw[e2,E,e1,G,hs h1 h2]
       have:=uy true s d (on:=bg s) (od:=bg d) (λ_=>rfl) (λ_=>rfl)
       simpa using this
def JG (os:List UInt8->List UInt8->Option (List UInt8))(x1 x2 y1 y2:List UInt8)(b:Bool):Option R:=g9 (dB (dB (dB (dB b (az x1 y2)) (az y1 x2)) (os (dS b (az x1 y2)) (dS (dB b (az x1 y2)) (az y1 x2)))) (az x2 y2)) (dS (dB (dB b (az x1 y2)) (az y1 x2)) (os (dS b (az x1 y2)) (dS (dB b (az x1 y2)) (az y1 x2)))) (dS (dB (dB (dB b (az x1 y2)) (az y1 x2)) (os (dS b (az x1 y2)) (dS (dB b (az x1 y2)) (az y1 x2)))) (az x2 y2))
def JH (x1 x2 y1 y2:List UInt8):gY (JG x7 x1 x2 y1 y2 (cD false [(x1,x2),(y1,y2)]))=gY (jR (x1,x2) (y1,y2)):=
 qb2 gY ((qb2 (JG x7 x1 x2 y1 y2) (yn (x1,x2) (y1,y2))).trans
  (wN (bN (x1,x2)&&bN (y1,y2)) (aj x1*aj y2) (aj y1*aj x2) (aj x1*aj y2+aj y1*aj x2) (aj x2*aj y2) (λh=>gF kd3) (λh=>gF kd4) (λh=>gF kd2)
   (λh1 h2=>by rw[yb (by rw[br h1,br h2];rfl),aJ,aJ])))
def JI (x1 x2 y1 y2:List UInt8):gY (JG aV x1 x2 y1 y2 (cD false [(x1,x2),(y1,y2)]))=gY (dI (x1,x2) (y1,y2)):=
 qb2 gY ((qb2 (JG aV x1 x2 y1 y2) (yn (x1,x2) (y1,y2))).trans
  (wN (bN (x1,x2)&&bN (y1,y2)) (aj x1*aj y2) (aj y1*aj x2) (aj x1*aj y2-aj y1*aj x2) (aj x2*aj y2) (λh=>gF kd3) (λh=>gF kd4) (λh=>gF kd2)
   (λh1 h2=>by rw[pt (by rw[br h1,br h2];rfl),aJ,aJ])))
def py (hB:ar w b 75 #[.bool bad])(ht:Tb w){n c:Nat}{rs:List R}(hr:Rw w lo A (ag rs))(hn:rs.length=n)(hnb:n<=1000000)(hAb:∀ad,A=some ad->ad.block≠b):
 CL 35 #[pT b,.slice A n c] w (kv λv w'=>w.grownBy w' (some b)/\ar w' b 75 #[.bool (cD bad rs)]/\v=.tuple #[]):=by
 have G:=World.grownBy.refl w (some b);have Av:=bt hB;have Af:=λad e=>And.intro (hr.hi ad e) (hAb ad e);refine zM func35 Z (I ?_);refine b7 [(5,5),(8,24)] (λAs e W=>∃i:Nat,(n-i=As)/\(e 8=.int .i64 i)/\(w.grownBy W (some b))/\(i<=n)/\(True)/\(Tb W)/\(Rw W lo A (ag rs))/\(ar W b 75 #[.bool (cD bad (rs.take i))])) (n-0) ⟨0,rfl,rfl,G,(qa7 _),trivial,ht,hr,(by simpa[cD]using hB)⟩ ?_;rintro _ _ _ ⟨i,rfl,Ab,G,hi,Aq,ht,hr,hB⟩;have nm:=World.grownBy.size G;by_cases hlt:i<n;obtain⟨bk,o,hA,Ar⟩:=EX hr (i:=i) U;refine I ?_;refine aa (aB (i:=i) (oo:=o+i*2) vY b8 Z hA Ab U Z ?_);refine aa (aN (cs:=[S (ao rs i).1,S (ao rs i).2]) (b:=bk) (o:=o+i*2) iW Z b8 Z Ar ?_);refine al aU (λ_ A2 Am=>?_);have ht:=ab7 A2.2 ht;have hr:=Rw.ext A2.2 hr;have hB:=be A2.2 hB;have G:=lw G A2.2;refine SA Am (λ_ H E=>?_);have ht:=Tb.put H Am dc ht;have hr:=Rw.putU H (λad e=>by have:=Af ad e;omega) hr;have hB:=pb H hB;have G:=ju G H U;have Aw:=gJ H;refine I ?_;rcases qa4 (cD bad (rs.take i))with cf|cf;refine I ?_;refine SO hB (λ_ O Ao=>?_);have ht:=Tb.put O hB dc ht;have hr:=Rw.putU O (λad e=>by have:=Af ad e;omega) hr
 have E:=pb O E;have G:=Cx G O;refine I ?_;refine aa (cG (a:=(i:Int)) (b:=1) (c:=((i+1:Nat):Int)) Ab Z L7 U ?_);refine I ?_;exact bF ⟨i+1,rfl,rfl,G,U,Aq,ht,hr,(by first|(rw[Xk U DP];exact Ao)|(rw[Xl U DP];exact Ao))⟩;refine I ?_;refine cl tz (eE ((ao rs i).1) ((ao rs i).2) _ ht) ?_;rintro _ _ A1 rfl;have ht:=ab7 A1.2 ht;have hr:=Rw.ext A1.2 hr;have⟨hB,E⟩:=dN A1.2 hB E;have G:=lw G A1.2;refine I ?_;refine SO hB (λ_ A0 Ap=>?_);have ht:=Tb.put A0 hB dc ht;have hr:=Rw.putU A0 (λad e=>by have:=Af ad e;omega) hr;have E:=pb A0 E;have G:=Cx G A0;refine I ?_;refine aa (cG (a:=(i:Int)) (b:=1) (c:=((i+1:Nat):Int)) Ab Z L7 U ?_);refine I ?_;exact bF ⟨i+1,rfl,rfl,G,U,Aq,ht,hr,(by first|(rw[Xk U DP];exact Ap)|(rw[Xl U DP];exact Ap))⟩;refine I ?_;refine Tj (v:=.tuple #[]) (nG  rfl) ⟨G,(by rw[List.take_of_length_le U]at hB;exact hB),rfl⟩
def OA (x1 x2 y1 y2:List UInt8)(w:World)(ht:Tb w):
 CL 13 #[.agg #[S x1,S x2],.agg #[S y1,S y2]] w (aH w λv w'=>v=gY (fe (x1,x2) (y1,y2))):=by
 refine aD func13 Z (I ?_);refine bx (λ_ Ap G=>?_);have ht:=ab7 Ap.2 ht;have E:=Ap.2;refine bx (λAz nm H=>?_);have ht:=ab7 nm.2 ht;have⟨G,E⟩:=bo nm.2 G E;refine al aU (λAf Aq O=>?_);have ht:=ab7 Aq.2 ht;have⟨G,H,E⟩:=ca Aq.2 G H E;refine I ?_;refine bx (λAy As Ab=>?_);have ht:=ab7 As.2 ht;have⟨G,H,O,E⟩:=fw As.2 G H O E;refine I ?_;refine TK (λ_ Av _ B0=>?_);have ht:=ab7 Av ht;have⟨G,H,O,Ab,E⟩:=kC Av G H O Ab E;refine aa (bL (vs:=[pT Af.heap.size,.slice (some ⟨Ay.heap.size,0,none⟩) 2 2]) Eo Z (py (rs:=[(x1,x2),(y1,y2)]) Ab ht (aa7 B0) Z U (λ_ e=>by cases e;simp;omega)) ?_);rintro _ _ ⟨A1,Ax,rfl⟩;have ht:=Tb.gr A1 Ab dc ht;have G:=aa2 A1 KK G;have H:=aa2 A1 KK H;have O:=aa2 A1 KK O;have E:=cS E A1 (bz E) (λg W=>by cases W;omega);refine I ?_;refine aa (bL (vs:=[pT Af.heap.size,S x1,S y1]) rF Z (mQ Ax ht x1 y1) ?_);rintro _ _ ⟨A2,Ao,rfl⟩;have ht:=Tb.gr A2 Ax dc ht;have G:=aa2 A2 KK G;have H:=aa2 A2 KK H;have O:=aa2 A2 KK O;have E:=cS E A2 (bz E) (λg W=>by cases W;omega);refine I ?_;refine aa (bL (vs:=[pT Af.heap.size,S x2,S y2]) rF Z (mQ Ao ht x2 y2) ?_);rintro _ _ ⟨A0,ny,rfl⟩
 have ht:=Tb.gr A0 Ao dc ht;have G:=aa2 A0 KK G;have H:=aa2 A0 KK H;have O:=aa2 A0 KK O;have E:=cS E A0 (bz E) (λg W=>by cases W;omega);refine aa (bL (vs:=[pT Af.heap.size,S (dS (cD false [(x1,x2),(y1,y2)]) (az x1 y1)),S (dS (dB (cD false [(x1,x2),(y1,y2)]) (az x1 y1)) (az x2 y2))]) tB Z (ym ny ht (dS (cD false [(x1,x2),(y1,y2)]) (az x1 y1)) (dS (dB (cD false [(x1,x2),(y1,y2)]) (az x1 y1)) (az x2 y2))) ?_);rintro _ _ ⟨Am,⟨B2,Ar⟩,rfl⟩;have G:=aa2 Am KK G;have H:=aa2 Am KK H;have O:=aa2 Am KK O;have E:=cS E Am (bz E) (λg W=>by cases W;omega);refine I ?_;refine SA O (λ_ Aw B1=>?_);have⟨G,H,Ar⟩:=qm Aw G H Ar;have E:=bi Aw E;refine I ?_
 refine aW (v:=.tuple #[.agg #[S (rN (g9 (dB (dB (cD false [(x1,x2),(y1,y2)]) (az x1 y1)) (az x2 y2)) (dS (cD false [(x1,x2),(y1,y2)]) (az x1 y1)) (dS (dB (cD false [(x1,x2),(y1,y2)]) (az x1 y1)) (az x2 y2)))),S (rD (g9 (dB (dB (cD false [(x1,x2),(y1,y2)]) (az x1 y1)) (az x2 y2)) (dS (cD false [(x1,x2),(y1,y2)]) (az x1 y1)) (dS (dB (cD false [(x1,x2),(y1,y2)]) (az x1 y1)) (az x2 y2))))],.int .i64 (TX (g9 (dB (dB (cD false [(x1,x2),(y1,y2)]) (az x1 y1)) (az x2 y2)) (dS (cD false [(x1,x2),(y1,y2)]) (az x1 y1)) (dS (dB (cD false [(x1,x2),(y1,y2)]) (az x1 y1)) (az x2 y2))))]) (c8 (r1:=.cell 4 33) (r2:=.tmp 5) Z ?_ ?_) E (JE x1 x2 y1 y2);refine ai (t:=4) (cs:=[S (rN (g9 (dB (dB (cD false [(x1,x2),(y1,y2)]) (az x1 y1)) (az x2 y2)) (dS (cD false [(x1,x2),(y1,y2)]) (az x1 y1)) (dS (dB (cD false [(x1,x2),(y1,y2)]) (az x1 y1)) (az x2 y2)))),S (rD (g9 (dB (dB (cD false [(x1,x2),(y1,y2)]) (az x1 y1)) (az x2 y2)) (dS (cD false [(x1,x2),(y1,y2)]) (az x1 y1)) (dS (dB (cD false [(x1,x2),(y1,y2)]) (az x1 y1)) (az x2 y2))))]) (b:=Az.heap.size) (o:=0) iW Z b8 ?_ ?_;exact Z;exact aa0 B1 (i:=0) Z;exact aM (t:=5) RM _
def OB (x1 x2 y1 y2:List UInt8)(w:World)(ht:Tb w):
 CL 15 #[.agg #[S x1,S x2],.agg #[S y1,S y2]] w (aH w λv w'=>v=gY (lF (x1,x2) (y1,y2))):=by
 refine aD func15 Z (I ?_);refine bx (λ_ Ap G=>?_);have ht:=ab7 Ap.2 ht;have E:=Ap.2;refine bx (λAz nm H=>?_);have ht:=ab7 nm.2 ht;have⟨G,E⟩:=bo nm.2 G E;refine al aU (λAf Aq O=>?_);have ht:=ab7 Aq.2 ht;have⟨G,H,E⟩:=ca Aq.2 G H E;refine I ?_;refine bx (λAy As Ab=>?_);have ht:=ab7 As.2 ht;have⟨G,H,O,E⟩:=fw As.2 G H O E;refine I ?_;refine TK (λ_ Av _ B0=>?_);have ht:=ab7 Av ht;have⟨G,H,O,Ab,E⟩:=kC Av G H O Ab E;refine aa (bL (vs:=[pT Af.heap.size,.slice (some ⟨Ay.heap.size,0,none⟩) 2 2]) Eo Z (py (rs:=[(x1,x2),(y1,y2)]) Ab ht (aa7 B0) Z U (λ_ e=>by cases e;simp;omega)) ?_);rintro _ _ ⟨A1,Ax,rfl⟩;have ht:=Tb.gr A1 Ab dc ht;have G:=aa2 A1 KK G;have H:=aa2 A1 KK H;have O:=aa2 A1 KK O;have E:=cS E A1 (bz E) (λg W=>by cases W;omega);refine I ?_;refine aa (bL (vs:=[pT Af.heap.size,S x1,S y2]) rF Z (mQ Ax ht x1 y2) ?_);rintro _ _ ⟨A2,Ao,rfl⟩;have ht:=Tb.gr A2 Ax dc ht;have G:=aa2 A2 KK G;have H:=aa2 A2 KK H;have O:=aa2 A2 KK O;have E:=cS E A2 (bz E) (λg W=>by cases W;omega);refine I ?_;refine aa (bL (vs:=[pT Af.heap.size,S x2,S y1]) rF Z (mQ Ao ht x2 y1) ?_);rintro _ _ ⟨A0,ny,rfl⟩
 have ht:=Tb.gr A0 Ao dc ht;have G:=aa2 A0 KK G;have H:=aa2 A0 KK H;have O:=aa2 A0 KK O;have E:=cS E A0 (bz E) (λg W=>by cases W;omega);refine aa (bL (vs:=[pT Af.heap.size,S (dS (cD false [(x1,x2),(y1,y2)]) (az x1 y2)),S (dS (dB (cD false [(x1,x2),(y1,y2)]) (az x1 y2)) (az x2 y1))]) tB Z (ym ny ht (dS (cD false [(x1,x2),(y1,y2)]) (az x1 y2)) (dS (dB (cD false [(x1,x2),(y1,y2)]) (az x1 y2)) (az x2 y1))) ?_);rintro _ _ ⟨Am,⟨B2,Ar⟩,rfl⟩;have G:=aa2 Am KK G;have H:=aa2 Am KK H;have O:=aa2 Am KK O;have E:=cS E Am (bz E) (λg W=>by cases W;omega);refine I ?_;refine SA O (λ_ Aw B1=>?_);have⟨G,H,Ar⟩:=qm Aw G H Ar;have E:=bi Aw E;refine I ?_
 refine aW (v:=.tuple #[.agg #[S (rN (g9 (dB (dB (cD false [(x1,x2),(y1,y2)]) (az x1 y2)) (az x2 y1)) (dS (cD false [(x1,x2),(y1,y2)]) (az x1 y2)) (dS (dB (cD false [(x1,x2),(y1,y2)]) (az x1 y2)) (az x2 y1)))),S (rD (g9 (dB (dB (cD false [(x1,x2),(y1,y2)]) (az x1 y2)) (az x2 y1)) (dS (cD false [(x1,x2),(y1,y2)]) (az x1 y2)) (dS (dB (cD false [(x1,x2),(y1,y2)]) (az x1 y2)) (az x2 y1))))],.int .i64 (TX (g9 (dB (dB (cD false [(x1,x2),(y1,y2)]) (az x1 y2)) (az x2 y1)) (dS (cD false [(x1,x2),(y1,y2)]) (az x1 y2)) (dS (dB (cD false [(x1,x2),(y1,y2)]) (az x1 y2)) (az x2 y1))))]) (c8 (r1:=.cell 4 33) (r2:=.tmp 5) Z ?_ ?_) E (JF x1 x2 y1 y2);refine ai (t:=4) (cs:=[S (rN (g9 (dB (dB (cD false [(x1,x2),(y1,y2)]) (az x1 y2)) (az x2 y1)) (dS (cD false [(x1,x2),(y1,y2)]) (az x1 y2)) (dS (dB (cD false [(x1,x2),(y1,y2)]) (az x1 y2)) (az x2 y1)))),S (rD (g9 (dB (dB (cD false [(x1,x2),(y1,y2)]) (az x1 y2)) (az x2 y1)) (dS (cD false [(x1,x2),(y1,y2)]) (az x1 y2)) (dS (dB (cD false [(x1,x2),(y1,y2)]) (az x1 y2)) (az x2 y1))))]) (b:=Az.heap.size) (o:=0) iW Z b8 ?_ ?_;exact Z;exact aa0 B1 (i:=0) Z;exact aM (t:=5) RM _
def EZ {os:List UInt8->List UInt8->Option (List UInt8)}(heg:Enters prog g0)(hop:∀a b,Op2 g0 a b (os a b))(x1 x2 y1 y2:List UInt8)(w:World)(ht:Tb w):
 CL 155 #[.func (.func g0) #[] #[],.agg #[S x1,S x2],.agg #[S y1,S y2]] w (aH w λv w'=>v=gY (JG os x1 x2 y1 y2 (cD false [(x1,x2),(y1,y2)]))):=by
 refine aD func155 Z (I ?_);refine bx (λAx B0 G=>?_);have ht:=ab7 B0.2 ht;have E:=B0.2;refine bx (λC0 Az H=>?_);have ht:=ab7 Az.2 ht;have⟨G,E⟩:=bo Az.2 G E;refine al aU (λA2 B1 O=>?_);have ht:=ab7 B1.2 ht;have⟨G,H,E⟩:=ca B1.2 G H E;refine I ?_;refine bx (λa3 CB ny=>?_);have ht:=ab7 CB.2 ht;have⟨G,H,O,E⟩:=fw CB.2 G H O E;refine I ?_;refine TK (λ_ CY _ VW=>?_);have ht:=ab7 CY ht;have⟨G,H,O,ny,E⟩:=kC CY G H O ny E;refine aa (bL (vs:=[pT A2.heap.size,.slice (some ⟨a3.heap.size,0,none⟩) 2 2]) Eo Z (py (rs:=[(x1,x2),(y1,y2)]) ny ht (aa7 VW) Z U (λ_ e=>by cases e;simp;omega)) ?_);rintro _ B2 ⟨Ar,A0,rfl⟩;have ht:=Tb.gr Ar ny dc ht;have G:=aa2 Ar KK G;have H:=aa2 Ar KK H;have O:=aa2 Ar KK O;have E:=cS E Ar (bz E) (λg Ab=>by cases Ab;omega);refine I ?_;have Af:=ac3 B2
 refine Tl o7 15 (λ_ _=>True) (λ_=>trivial) (λ_ _ _ _ _=>trivial) [λv _=>v=pT A2.heap.size,λv _=>v=.func (.func g0) #[] #[],λv _=>v=pT A2.heap.size,λv _=>v=pT w.heap.size,λv _=>v=S x1,λv _=>v=.pointer (some ⟨Ax.heap.size,1,none⟩),λv _=>v=S y2,λv _=>v=S (dS (cD false [(x1,x2),(y1,y2)]) (az x1 y2)),λv _=>v=pT A2.heap.size,λv _=>v=pT Ax.heap.size,λv _=>v=S y1,λv _=>v=.pointer (some ⟨w.heap.size,1,none⟩),λv _=>v=S x2,λv _=>v=S (dS (dB (cD false [(x1,x2),(y1,y2)]) (az x1 y2)) (az y1 x2)),λv _=>v=S (dS (dB (dB (cD false [(x1,x2),(y1,y2)]) (az x1 y2)) (az y1 x2)) (os (dS (cD false [(x1,x2),(y1,y2)]) (az x1 y2)) (dS (dB (cD false [(x1,x2),(y1,y2)]) (az x1 y2)) (az y1 x2))))] ⟨λ_ _ _ _ h=>h,λ_ _ _ _ h=>h,λ_ _ _ _ h=>h,λ_ _ _ _ h=>h,λ_ _ _ _ h=>h,λ_ _ _ _ h=>h,λ_ _ _ _ h=>h,λ_ _ _ _ h=>h,λ_ _ _ _ h=>h,λ_ _ _ _ h=>h,λ_ _ _ _ h=>h,λ_ _ _ _ h=>h,λ_ _ _ _ h=>h,λ_ _ _ _ h=>h,λ_ _ _ _ h=>h,trivial⟩ Hx Hx Hx [7,13,14] Hx Hx Hx (λk W=>(aO w W)/\(B2.heap.size<=W.heap.size)/\(Tb W)/\(ar W w.heap.size 33 #[S x1,S x2])/\(ar W Ax.heap.size 33 #[S y1,S y2])/\(ar W C0.heap.size 33 #[S [],S []])/\(ar W A2.heap.size 75 #[.bool (([cD false [(x1,x2),(y1,y2)],dB (cD false [(x1,x2),(y1,y2)]) (az x1 y2),dB (dB (cD false [(x1,x2),(y1,y2)]) (az x1 y2)) (az y1 x2),dB (dB (dB (cD false [(x1,x2),(y1,y2)]) (az x1 y2)) (az y1 x2)) (os (dS (cD false [(x1,x2),(y1,y2)]) (az x1 y2)) (dS (dB (cD false [(x1,x2),(y1,y2)]) (az x1 y2)) (az y1 x2)))]:List Bool).getD k false)])) ⟨(xt E Af),(bz Af),(ab7 Af ht),(be Af G),(be Af H),(be Af O),(be Af A0)⟩ ?_ ?_
 refine⟨λCr d3 eB E7 eS _ a9 cw=>?_,?_⟩;obtain⟨Cr,rfl⟩:=b6 a9;obtain⟨E,A1,ht,G,H,O,A0⟩:=E7;refine I ?_;exact⟨rfl,_,(ax _ _ _ _ _).symm,trivial,rfl,⟨E,U,ht,G,H,O,A0⟩⟩;refine⟨λN0 eP eG S0 fC _ T3 eX=>?_,?_⟩;obtain⟨N0,rfl⟩:=b6 T3;obtain⟨E,A1,ht,G,H,O,A0⟩:=S0;refine I ?_;exact⟨rfl,_,(ax _ _ _ _ _).symm,trivial,rfl,⟨E,U,ht,G,H,O,A0⟩⟩;refine⟨λE0 fD eW bb cp _ a6 ea=>?_,?_⟩;obtain⟨E0,rfl⟩:=b6 a6;obtain⟨E,A1,ht,G,H,O,A0⟩:=bb;refine I ?_;exact⟨rfl,_,(ax _ _ _ _ _).symm,trivial,rfl,⟨E,U,ht,G,H,O,A0⟩⟩;refine⟨λK3 cq ct W2 co _ b0 e4=>?_,?_⟩;obtain⟨K3,rfl⟩:=b6 b0;obtain⟨E,A1,ht,G,H,O,A0⟩:=W2;refine I ?_;exact⟨rfl,_,(ax _ _ _ _ _).symm,trivial,rfl,⟨E,U,ht,G,H,O,A0⟩⟩;refine⟨λE1 dC eq H3 eC _ ad Kp=>?_,?_⟩;obtain⟨E1,rfl⟩:=b6 ad;obtain⟨E,A1,ht,G,H,O,A0⟩:=H3;have d6:=cV (Kp 3 20 Z Z);refine I ?_;exact⟨rfl,_,(ax _ _ _ _ _).symm,trivial,rfl,⟨E,U,ht,G,H,O,A0⟩⟩;refine⟨λKY ch cf a5 cb _ L3 e6=>?_,?_⟩;obtain⟨KY,rfl⟩:=b6 L3;obtain⟨E,A1,ht,G,H,O,A0⟩:=a5;refine I ?_;exact⟨rfl,_,(ax _ _ _ _ _).symm,trivial,rfl,⟨E,U,ht,G,H,O,A0⟩⟩;refine⟨λKM cz cT W1 cx _ Ne D1=>?_,?_⟩;obtain⟨KM,rfl⟩:=b6 Ne
 obtain⟨E,A1,ht,G,H,O,A0⟩:=W1;have ce:=cV (D1 5 22 Z Z);refine I ?_;exact⟨rfl,_,(ax _ _ _ _ _).symm,trivial,rfl,⟨E,U,ht,G,H,O,A0⟩⟩;refine⟨λwr L4 arr KC WV _ P0 Aw=>?_,?_⟩;obtain⟨wr,rfl⟩:=b6 P0;obtain⟨E,A1,ht,G,H,O,A0⟩:=KC;obtain rfl:=WV 0 Z;have A0:ar L4 A2.heap.size 75 #[.bool (cD false [(x1,x2),(y1,y2)])]:=A0;have X2:=cV (Aw 2 19 Z Z);have X0:=cV (Aw 4 21 Z Z);have W0:=cV (Aw 6 23 Z Z);refine aa (bL (vs:=[pT A2.heap.size,S x1,S y2]) rF (av X2 (av X0 (av W0 Z))) (mQ A0 ht x1 y2) ?_);rintro _ _ ⟨Am,L2,rfl⟩;have ht:=Tb.gr Am A0 dc ht;have G:=aa2 Am KK G;have H:=aa2 Am KK H;have O:=aa2 Am KK O;have E:=cS E Am (bz E) (λg Ab=>by cases Ab;omega);have dq:=Am.size;refine I ?_;exact⟨rfl,_,(ax _ _ _ _ _).symm,trivial,rfl,⟨E,U,ht,G,H,O,L2⟩⟩;refine⟨λa0 cy eD No eg _ E4 et=>?_,?_⟩;obtain⟨a0,rfl⟩:=b6 E4;obtain⟨E,A1,ht,G,H,O,A0⟩:=No;refine I ?_;exact⟨rfl,_,(ax _ _ _ _ _).symm,trivial,rfl,⟨E,U,ht,G,H,O,A0⟩⟩;refine⟨λQ0 cm eQ GC cc _ S9 dL=>?_,?_⟩;obtain⟨Q0,rfl⟩:=b6 S9;obtain⟨E,A1,ht,G,H,O,A0⟩:=GC;refine I ?_;exact⟨rfl,_,(ax _ _ _ _ _).symm,trivial,rfl,⟨E,U,ht,G,H,O,A0⟩⟩
 refine⟨λbZ e3 eb H4 e5 _ La bW=>?_,?_⟩;obtain⟨bZ,rfl⟩:=b6 La;obtain⟨E,A1,ht,G,H,O,A0⟩:=H4;have d5:=cV (bW 9 26 Z Z);refine I ?_;exact⟨rfl,_,(ax _ _ _ _ _).symm,trivial,rfl,⟨E,U,ht,G,H,O,A0⟩⟩;refine⟨λa4 cr f9 P2 d1 _ bq cv=>?_,?_⟩;obtain⟨a4,rfl⟩:=b6 bq;obtain⟨E,A1,ht,G,H,O,A0⟩:=P2;refine I ?_;exact⟨rfl,_,(ax _ _ _ _ _).symm,trivial,rfl,⟨E,U,ht,G,H,O,A0⟩⟩;refine⟨λFR ask er bv fB _ T2 V2=>?_,?_⟩;obtain⟨FR,rfl⟩:=b6 T2;obtain⟨E,A1,ht,G,H,O,A0⟩:=bv;have f3:=cV (V2 11 28 Z Z);refine I ?_;exact⟨rfl,_,(ax _ _ _ _ _).symm,trivial,rfl,⟨E,U,ht,G,H,O,A0⟩⟩;refine⟨λLi Rm d0 Lk bd _ bp Ay=>?_,?_⟩;obtain⟨Li,rfl⟩:=b6 bp;obtain⟨E,A1,ht,G,H,O,A0⟩:=Lk;obtain rfl:=bd 1 Z;have A0:ar Rm A2.heap.size 75 #[.bool (dB (cD false [(x1,x2),(y1,y2)]) (az x1 y2))]:=A0;have Lj:=cV (Ay 8 25 Z Z);have H2:=cV (Ay 10 27 Z Z);have EW:=cV (Ay 12 29 Z Z);refine aa (bL (vs:=[pT A2.heap.size,S y1,S x2]) rF (av Lj (av H2 (av EW Z))) (mQ A0 ht y1 x2) ?_);rintro _ _ ⟨Ao,G0,rfl⟩;have ht:=Tb.gr Ao A0 dc ht;have G:=aa2 Ao KK G;have H:=aa2 Ao KK H;have O:=aa2 Ao KK O;have E:=cS E Ao (bz E) (λg Ab=>by cases Ab;omega)
 have ej:=Ao.size;refine I ?_;exact⟨rfl,_,(ax _ _ _ _ _).symm,trivial,rfl,⟨E,U,ht,G,H,O,G0⟩⟩;refine⟨λa8 W3 ed E9 Vm _ D2 As=>?_,?_⟩;obtain⟨a8,rfl⟩:=b6 D2;obtain⟨E,A1,ht,G,H,O,A0⟩:=E9;obtain rfl:=Vm 2 Z;have A0:ar W3 A2.heap.size 75 #[.bool (dB (dB (cD false [(x1,x2),(y1,y2)]) (az x1 y2)) (az y1 x2))]:=A0;have P1:=cV (As 0 17 Z Z);have ac:=cV (As 1 18 Z Z);have E5:=cV (As 7 24 Z Z);have an:=cV (As 13 30 Z Z);refine aa (bL (vs:=[pT A2.heap.size,.func (.func g0) #[] #[],S (dS (cD false [(x1,x2),(y1,y2)]) (az x1 y2)),S (dS (dB (cD false [(x1,x2),(y1,y2)]) (az x1 y2)) (az y1 x2))]) rH (av P1 (av ac (av E5 (av an Z)))) (rT (o:=os (dS (cD false [(x1,x2),(y1,y2)]) (az x1 y2)) (dS (dB (cD false [(x1,x2),(y1,y2)]) (az x1 y2)) (az y1 x2))) A0 ht heg (hop _ _)) ?_);rintro _ _ ⟨Ap,a2,rfl⟩;have ht:=Tb.gr Ap A0 dc ht;have G:=aa2 Ap KK G;have H:=aa2 Ap KK H;have O:=aa2 Ap KK O;have E:=cS E Ap (bz E) (λg Ab=>by cases Ab;omega);have dd:=Ap.size;refine I ?_;exact⟨rfl,_,(ax _ _ _ _ _).symm,trivial,rfl,⟨E,U,ht,G,H,O,a2⟩⟩;exact trivial;intro L1 Ix E6 _ Wa ES;obtain⟨L1,rfl⟩:=b6 Wa;obtain⟨E,A1,ht,G,H,O,A0⟩:=E6
 have A0:ar Ix A2.heap.size 75 #[.bool (dB (dB (dB (cD false [(x1,x2),(y1,y2)]) (az x1 y2)) (az y1 x2)) (os (dS (cD false [(x1,x2),(y1,y2)]) (az x1 y2)) (dS (dB (cD false [(x1,x2),(y1,y2)]) (az x1 y2)) (az y1 x2))))]:=A0;have d4:=cV (ES 14 31 Z Z);refine I ?_;refine aa (bL (vs:=[pT A2.heap.size,S x2,S y2]) rF Z (mQ A0 ht x2 y2) ?_);rintro _ _ ⟨Aq,c9,rfl⟩;have ht:=Tb.gr Aq A0 dc ht;have G:=aa2 Aq KK G;have H:=aa2 Aq KK H;have O:=aa2 Aq KK O;have E:=cS E Aq (bz E) (λg Ab=>by cases Ab;omega)
 refine aa (bL (vs:=[pT A2.heap.size,S (dS (dB (dB (cD false [(x1,x2),(y1,y2)]) (az x1 y2)) (az y1 x2)) (os (dS (cD false [(x1,x2),(y1,y2)]) (az x1 y2)) (dS (dB (cD false [(x1,x2),(y1,y2)]) (az x1 y2)) (az y1 x2)))),S (dS (dB (dB (dB (cD false [(x1,x2),(y1,y2)]) (az x1 y2)) (az y1 x2)) (os (dS (cD false [(x1,x2),(y1,y2)]) (az x1 y2)) (dS (dB (cD false [(x1,x2),(y1,y2)]) (az x1 y2)) (az y1 x2)))) (az x2 y2))]) tB Z (ym c9 ht (dS (dB (dB (cD false [(x1,x2),(y1,y2)]) (az x1 y2)) (az y1 x2)) (os (dS (cD false [(x1,x2),(y1,y2)]) (az x1 y2)) (dS (dB (cD false [(x1,x2),(y1,y2)]) (az x1 y2)) (az y1 x2)))) (dS (dB (dB (dB (cD false [(x1,x2),(y1,y2)]) (az x1 y2)) (az y1 x2)) (os (dS (cD false [(x1,x2),(y1,y2)]) (az x1 y2)) (dS (dB (cD false [(x1,x2),(y1,y2)]) (az x1 y2)) (az y1 x2)))) (az x2 y2))) ?_);rintro _ _ ⟨Av,⟨f0,CG⟩,rfl⟩;have G:=aa2 Av KK G;have H:=aa2 Av KK H;have O:=aa2 Av KK O;have E:=cS E Av (bz E) (λg Ab=>by cases Ab;omega);refine I ?_;refine SA O (λ_ nm K2=>?_);have⟨G,H,CG⟩:=qm nm G H CG;have E:=bi nm E;refine I ?_
 refine aW (v:=.tuple #[.agg #[S (rN (g9 (dB (dB (dB (dB (cD false [(x1,x2),(y1,y2)]) (az x1 y2)) (az y1 x2)) (os (dS (cD false [(x1,x2),(y1,y2)]) (az x1 y2)) (dS (dB (cD false [(x1,x2),(y1,y2)]) (az x1 y2)) (az y1 x2)))) (az x2 y2)) (dS (dB (dB (cD false [(x1,x2),(y1,y2)]) (az x1 y2)) (az y1 x2)) (os (dS (cD false [(x1,x2),(y1,y2)]) (az x1 y2)) (dS (dB (cD false [(x1,x2),(y1,y2)]) (az x1 y2)) (az y1 x2)))) (dS (dB (dB (dB (cD false [(x1,x2),(y1,y2)]) (az x1 y2)) (az y1 x2)) (os (dS (cD false [(x1,x2),(y1,y2)]) (az x1 y2)) (dS (dB (cD false [(x1,x2),(y1,y2)]) (az x1 y2)) (az y1 x2)))) (az x2 y2)))),S (rD (g9 (dB (dB (dB (dB (cD false [(x1,x2),(y1,y2)]) (az x1 y2)) (az y1 x2)) (os (dS (cD false [(x1,x2),(y1,y2)]) (az x1 y2)) (dS (dB (cD false [(x1,x2),(y1,y2)]) (az x1 y2)) (az y1 x2)))) (az x2 y2)) (dS (dB (dB (cD false [(x1,x2),(y1,y2)]) (az x1 y2)) (az y1 x2)) (os (dS (cD false [(x1,x2),(y1,y2)]) (az x1 y2)) (dS (dB (cD false [(x1,x2),(y1,y2)]) (az x1 y2)) (az y1 x2)))) (dS (dB (dB (dB (cD false [(x1,x2),(y1,y2)]) (az x1 y2)) (az y1 x2)) (os (dS (cD false [(x1,x2),(y1,y2)]) (az x1 y2)) (dS (dB (cD false [(x1,x2),(y1,y2)]) (az x1 y2)) (az y1 x2)))) (az x2 y2))))],.int .i64 (TX (g9 (dB (dB (dB (dB (cD false [(x1,x2),(y1,y2)]) (az x1 y2)) (az y1 x2)) (os (dS (cD false [(x1,x2),(y1,y2)]) (az x1 y2)) (dS (dB (cD false [(x1,x2),(y1,y2)]) (az x1 y2)) (az y1 x2)))) (az x2 y2)) (dS (dB (dB (cD false [(x1,x2),(y1,y2)]) (az x1 y2)) (az y1 x2)) (os (dS (cD false [(x1,x2),(y1,y2)]) (az x1 y2)) (dS (dB (cD false [(x1,x2),(y1,y2)]) (az x1 y2)) (az y1 x2)))) (dS (dB (dB (dB (cD false [(x1,x2),(y1,y2)]) (az x1 y2)) (az y1 x2)) (os (dS (cD false [(x1,x2),(y1,y2)]) (az x1 y2)) (dS (dB (cD false [(x1,x2),(y1,y2)]) (az x1 y2)) (az y1 x2)))) (az x2 y2))))]) (c8 (r1:=.cell 6 33) (r2:=.tmp 7) Z ?_ ?_) E Z
 refine ai (t:=6) (cs:=[S (rN (g9 (dB (dB (dB (dB (cD false [(x1,x2),(y1,y2)]) (az x1 y2)) (az y1 x2)) (os (dS (cD false [(x1,x2),(y1,y2)]) (az x1 y2)) (dS (dB (cD false [(x1,x2),(y1,y2)]) (az x1 y2)) (az y1 x2)))) (az x2 y2)) (dS (dB (dB (cD false [(x1,x2),(y1,y2)]) (az x1 y2)) (az y1 x2)) (os (dS (cD false [(x1,x2),(y1,y2)]) (az x1 y2)) (dS (dB (cD false [(x1,x2),(y1,y2)]) (az x1 y2)) (az y1 x2)))) (dS (dB (dB (dB (cD false [(x1,x2),(y1,y2)]) (az x1 y2)) (az y1 x2)) (os (dS (cD false [(x1,x2),(y1,y2)]) (az x1 y2)) (dS (dB (cD false [(x1,x2),(y1,y2)]) (az x1 y2)) (az y1 x2)))) (az x2 y2)))),S (rD (g9 (dB (dB (dB (dB (cD false [(x1,x2),(y1,y2)]) (az x1 y2)) (az y1 x2)) (os (dS (cD false [(x1,x2),(y1,y2)]) (az x1 y2)) (dS (dB (cD false [(x1,x2),(y1,y2)]) (az x1 y2)) (az y1 x2)))) (az x2 y2)) (dS (dB (dB (cD false [(x1,x2),(y1,y2)]) (az x1 y2)) (az y1 x2)) (os (dS (cD false [(x1,x2),(y1,y2)]) (az x1 y2)) (dS (dB (cD false [(x1,x2),(y1,y2)]) (az x1 y2)) (az y1 x2)))) (dS (dB (dB (dB (cD false [(x1,x2),(y1,y2)]) (az x1 y2)) (az y1 x2)) (os (dS (cD false [(x1,x2),(y1,y2)]) (az x1 y2)) (dS (dB (cD false [(x1,x2),(y1,y2)]) (az x1 y2)) (az y1 x2)))) (az x2 y2))))]) (b:=C0.heap.size) (o:=0) iW Z b8 ?_ ?_;exact Z;exact aa0 K2 (i:=0) Z;exact aM (t:=7) RM _
def OC (x1 x2 y1 y2:List UInt8)(w:World)(ht:Tb w):CL 155 #[.func (.func 186) #[] #[],.agg #[S x1,S x2],.agg #[S y1,S y2]] w (aH w λv w'=>v=gY (jR (x1,x2) (y1,y2))):=JH x1 x2 y1 y2▸EZ IA (λa b W hW=>yi a b W hW) x1 x2 y1 y2 w ht
def OD (x1 x2 y1 y2:List UInt8)(w:World)(ht:Tb w):CL 155 #[.func (.func 86) #[] #[],.agg #[S x1,S x2],.agg #[S y1,S y2]] w (aH w λv w'=>v=gY (dI (x1,x2) (y1,y2))):=JI x1 x2 y1 y2▸EZ Ep (λa b W hW=>sP a b W hW) x1 x2 y1 y2 w ht
def OE (x1 x2 y1 y2:List UInt8)(w:World)(ht:Tb w):
 CL 312 #[.agg #[S x1,S x2],.agg #[S y1,S y2]] w (aH w λv w'=>v=gY (jR (x1,x2) (y1,y2))):=by
 refine aD func312 Z (I ?_);refine bx (λ_ W G=>?_);have ht:=ab7 W.2 ht;have E:=W.2;refine bx (λAm A0 H=>?_);have ht:=ab7 A0.2 ht;have⟨G,E⟩:=bo A0.2 G E;refine al aU (λ_ A1 O=>?_);have ht:=ab7 A1.2 ht;have⟨G,H,E⟩:=ca A1.2 G H E;refine I ?_;refine cl Q1 (OC x1 x2 y1 y2 _ ht) ?_;rintro _ _ Ab rfl;have⟨G,H,O,E⟩:=fw Ab.2 G H O E;refine I ?_;refine SA O (λ_ A2 Af=>?_);have⟨G,H⟩:=js A2 G H;have E:=bi A2 E;refine I ?_;refine aW (v:=.tuple #[.agg #[S (rN (jR (x1,x2) (y1,y2))),S (rD (jR (x1,x2) (y1,y2)))],.int .i64 (TX (jR (x1,x2) (y1,y2)))]) (c8 (r1:=.cell 4 33) (r2:=.tmp 5) Z ?_ ?_) E Z;refine ai (t:=4) (cs:=[S (rN (jR (x1,x2) (y1,y2))),S (rD (jR (x1,x2) (y1,y2)))]) (b:=Am.heap.size) (o:=0) iW Z b8 ?_ ?_;exact Z;exact aa0 Af (i:=0) Z;exact aM (t:=5) RM _
def E2 (x1 x2 y1 y2:List UInt8)(w:World)(ht:Tb w):
 CL 117 #[.agg #[S x1,S x2],.agg #[S y1,S y2]] w (aH w λv w'=>v=gY (dI (x1,x2) (y1,y2))):=by
 refine aD func117 Z (I ?_);refine bx (λ_ W G=>?_);have ht:=ab7 W.2 ht;have E:=W.2;refine bx (λAm A0 H=>?_);have ht:=ab7 A0.2 ht;have⟨G,E⟩:=bo A0.2 G E;refine al aU (λ_ A1 O=>?_);have ht:=ab7 A1.2 ht;have⟨G,H,E⟩:=ca A1.2 G H E;refine I ?_;refine cl Q1 (OD x1 x2 y1 y2 _ ht) ?_;rintro _ _ Ab rfl;have⟨G,H,O,E⟩:=fw Ab.2 G H O E;refine I ?_;refine SA O (λ_ A2 Af=>?_);have⟨G,H⟩:=js A2 G H;have E:=bi A2 E;refine I ?_;refine aW (v:=.tuple #[.agg #[S (rN (dI (x1,x2) (y1,y2))),S (rD (dI (x1,x2) (y1,y2)))],.int .i64 (TX (dI (x1,x2) (y1,y2)))]) (c8 (r1:=.cell 4 33) (r2:=.tmp 5) Z ?_ ?_) E Z;refine ai (t:=4) (cs:=[S (rN (dI (x1,x2) (y1,y2))),S (rD (dI (x1,x2) (y1,y2)))]) (b:=Am.heap.size) (o:=0) iW Z b8 ?_ ?_;exact Z;exact aa0 Af (i:=0) Z;exact aM (t:=5) RM _
end Go.Proofs.YtlmihmlnpjkblaaGreatDoor
