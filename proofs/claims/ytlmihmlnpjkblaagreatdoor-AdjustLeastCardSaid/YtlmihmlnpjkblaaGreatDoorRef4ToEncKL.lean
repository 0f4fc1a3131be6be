/- Part of the proof of a statement about an adjustment. -/
import Derived.Test.YtlmihmlnpjkblaaGreatDoorRat3ToRef3L
set_option linter.all false
namespace Go.Proofs.YtlmihmlnpjkblaaGreatDoor
variable {ats:Array TypeId}{ng q:Bool}{fn:Func}{f:FuncId}{c c0:Int}{l b:List UInt8}{cs args vs lb:List Value}{p lo n a k n1 c1 lo1 x d x0 i j sz lo' base hi' N b1 b2 g:Nat}{H H' e:Nat->Value}{A A1 A2:Option Addr}{P:Program}{t et ty':TypeId}{u v v' v1 v2 v3 v4 v5 v6:Value}{w W w':World}
section
set_option maxRecDepth 100000
open Go Go.Eng Go.RowKit Tryz
attribute [local irreducible] wpListIn Code.wpIn Oper.wpIn Exit.then Exit.inBlock Exit.noGoto
set_option maxHeartbeats 40000000
def cF {p:Prop}(h:p:=by assumption):p:=h
def jh {c:Nat}(h:Dg w lo A n c a)(hl:a<10^k):n<=k:=by rw[<-h.len];exact(a7 10 U a k).2 hl
def lP (h:isInt l=true):aE (body l)<10^200:=so (em h)
def Oj {a:List UInt8}(h:isInt a=false):(isInt a&&isInt b)=false:=by rw[h];rfl
def Ol {a:List UInt8}(h:isInt b=false):(isInt a&&isInt b)=false:=by rw[h];simp
def ij {a:List UInt8}(ha:isInt a=true)(hb:isInt b=true):(isInt a&&isInt b)=true:=by rw[ha,hb];rfl
def wG :fits (bN ng a)=vJ a:=by
 unfold vJ
 by_cases h:a=0
 · subst h;cases ng <;>decide +kernel
 · rw[o8 ng U,decide_eq_false h,Bool.false_or]
   unfold bo;rw[if_neg h,cI]
def qI :ae (bN ng a)=rJ ng a:=by
 unfold rJ
 by_cases h:a=0
 · subst h;cases ng <;>rfl
 · rw[qD ng U,if_neg h]
def Re (h:vJ a=false):Value.tuple #[S [],.int .i64 30]=iA (ba (bN ng a)):=by
 unfold ba;rw[wG,h];rfl
def Rf (h:vJ a=true):Value.tuple #[S (rJ ng a),.int .i64 0]=iA (ba (bN ng a)):=by
 unfold ba;rw[wG,h,qI];rfl
def TT (h:Rw w lo A [Value.int .i64 1]):Dg w lo A 1 1 1:=by
 have e:ao 10 1=[1]:=by decide
 exact⟨by rw[e];exact h,by rw[e];rfl,qa0 _⟩
def ya {r:Nat}(h:r<10^200):rJ false r=rS (ba (bN false r)):=by
 have hf:fits (bN false r)=true:=by unfold fits;rw[jI];exact qa1 h
 rw[pi hf,qI]
def Xf {b:Nat}(ha:a<10^200)(hb:b<10^200):a+b<10^201:=by
 have:(10:Nat)^201=10^200*10:=by rw[<-Nat.pow_succ]
 generalize (10:Nat)^200=M at *
 omega
def JM {a:List UInt8}(h:(isInt a&&isInt b)=true)(he:(neg a==neg b)=true)(ha:neg a=true):aN ((aE (body b):Nat):Int) ((aE (body a):Nat):Int)=dH a b:=
 tX h ha (by have:neg a=neg b:=by simpa using he
             rw[<-this];exact ha)
def JN {a:List UInt8}(h:(isInt a&&isInt b)=true)(he:(neg a==neg b)=true)(ha:neg a=false):aN ((aE (body a):Nat):Int) ((aE (body b):Nat):Int)=dH a b:=
 qu h ha (by have:neg a=neg b:=by simpa using he
             rw[<-this];exact ha)
def JO {a:List UInt8}(h:(isInt a&&isInt b)=true)(he:(neg a==neg b)=false)(ha:neg a=true):(-1:Int)=dH a b:=
 tY h ha (by rw[ha]at he;simpa using he)
def JP {a:List UInt8}(h:(isInt a&&isInt b)=true)(he:(neg a==neg b)=false)(ha:neg a=false):(1:Int)=dH a b:=
 tZ h ha (by rw[ha]at he;simpa using he)
def z7 (ng:Bool)(x:Nat):Int.tmod (bN ng x) 10=bN ng (x%10):=by
 cases ng
 · show Int.tmod (x:Int) 10=((x%10:Nat):Int)
   rw[Int.tmod_eq_emod_of_nonneg U];omega
 · show Int.tmod (-(x:Int)) 10=-((x%10:Nat):Int)
   rw[Int.neg_tmod,Int.tmod_eq_emod_of_nonneg U];omega
def z8 (ng:Bool)(x:Nat):Int.tdiv (bN ng x) 10=bN ng (x/10):=by
 cases ng
 · show Int.tdiv (x:Int) 10=((x/10:Nat):Int)
   rw[Int.tdiv_eq_ediv_of_nonneg U];omega
 · show Int.tdiv (-(x:Int)) 10=-((x/10:Nat):Int)
   rw[Int.neg_tdiv,Int.tdiv_eq_ediv_of_nonneg U];omega
def TU {a:List UInt8}(h:b=[48]):dk a b=none:=mA (by subst h;exact qy)
def Om (h:isInt b=true)(h0:¬b=[48]):0<aE (body b):=by
 rcases Nat.eq_zero_or_pos (aE (body b))with h1|h1
 · exact absurd ((fY h).1 (by have:=dT b;omega)) h0
 · exact h1
def jN (h1:Dg w lo1 A1 n1 c1 a)(s1:n1<=100000)(ng:Bool):
 CL 181 #[.bool ng,.slice A1 n1 c1] w (aG w λv w'=>v=iA (ba (bN ng a))):=by
 refine aC func181 Z (I ?_);refine clb Ia (hc:=kK h1 U ng) (hk:=?_);rintro _ _ G rfl;have E:=G.2;refine I ?_;rcases qa4 (vJ a)with cf|cf;refine I ?_;exact bu (t:=4) (u:=5) (v1:=S (rJ ng a)) (v2:=.int .i64 0) Z E (by first|exact Re cF|exact Rf cF) Z Z;refine I ?_;exact bu (t:=4) (u:=5) (v1:=S []) (v2:=.int .i64 30) Z E (by first|exact Re cF|exact Rf cF) Z Z
def JQ (h1:Dg w lo1 A1 n1 c1 a)(s1:n1<=50000){n2 c2 b lo2:Nat}(h2:Dg w lo2 A2 n2 c2 b)(s2:n2<=50000)(nx ny:Bool):
 CL 179 #[.bool nx,.slice A1 n1 c1,.bool ny,.slice A2 n2 c2] w (aG w λv w'=>v=iA (ba (bN nx a+bN ny b))):=by
 have Az:=h1.len;have e2:=h2.len;refine aC func179 Z (I ?_);refine aa (HU (a:=nx) (b:=ny) (q:=(nx==ny)) U4 Z Z Z ?_);refine I ?_;rcases qa4 (nx==ny)with p6|p6;refine I ?_;refine clb Qz (hc:=wF h1 U h2 U) (hk:=?_);rintro _ _ Ao ⟨C1,As,CB,rfl,O⟩;have wr:=Ao.2;have O:=O.mono (lo':=w.heap.size) U;have Am:As<=50001:=by rw[<-O.len];exact Ek U _ _ 50000 U U
 refine I ?_;refine clb BF (hc:=jN O U nx) (hk:=?_);rintro _ _ Av rfl;have wr:=xt wr Av.2;refine I ?_;exact bu (t:=8) (u:=9) (v1:=S (rS (ba (bN nx (a+b))))) (v2:=.int .i64 (rE (ba (bN nx (a+b))))) Z wr (qb2 (λx=>iA (ba x)) ka3) Z Z;refine I ?_;refine clb za (hc:=jK h1 U h2 U) (hk:=?_);rintro _ _ Af rfl;have h1:=ac5 Af.2 h1;have h2:=ac5 Af.2 h2;have E:=Af.2;refine I ?_;by_cases mq:0<=(aN (a:Int) (b:Int));have G:=En mq;refine I ?_;refine clb DO (hc:=lz h1 U h2 U G) (hk:=?_);rintro _ _ Aq ⟨CG,Ap,B2,rfl,A0⟩;have E:=xt E Aq.2;have A0:=A0.mono (lo':=w.heap.size) U;have Am:Ap<=50001:=by rw[<-A0.len];exact qa8 (ek U (Nat.sub_le _ _)) U
 refine I ?_;refine clb BF (hc:=jN A0 U nx) (hk:=?_);rintro _ _ Aw rfl;have E:=xt E Aw.2;refine I ?_;exact bu (t:=8) (u:=9) (v1:=S (rS (ba (bN nx (a-b))))) (v2:=.int .i64 (rE (ba (bN nx (a-b))))) Z E (qb2 (λx=>iA (ba x)) ka3) Z Z;have G:=zL mq;refine I ?_;refine clb DO (hc:=lz h2 U h1 U G) (hk:=?_);rintro _ _ Ax ⟨B1,od,Ay,rfl,Ab⟩;have E:=xt E Ax.2;have Ab:=Ab.mono (lo':=w.heap.size) U;have Am:od<=50001:=by rw[<-Ab.len];exact qa8 (ek U (Nat.sub_le _ _)) U
 refine I ?_;refine clb BF (hc:=jN Ab U ny) (hk:=?_);rintro _ _ Ar rfl;have E:=xt E Ar.2;refine I ?_;exact bu (t:=8) (u:=9) (v1:=S (rS (ba (bN ny (b-a))))) (v2:=.int .i64 (rE (ba (bN ny (b-a))))) Z E (qb2 (λx=>iA (ba x)) ka3) Z Z
def Aa (a b:List UInt8)(w:World)(sa:a.length<=1000000)(sb:b.length<=1000000):
 CL 137 #[S a,S b] w (aG w λv w'=>v=iA (aT a b)):=by
 refine aC func137 Z (I ?_);rcases qa4 (isInt a)with cf|cf;refine I ?_;refine clb ni (hc:=cu a _ U) (hk:=?_);rintro _ _ Am rfl;have E:=Am.2;refine I ?_;refine clb ni (hc:=cu b _ U) (hk:=?_);rintro _ _ Ao rfl;have E:=xt E Ao.2;refine I ?_;rcases qa4 (isInt b)with fx|fx;refine I ?_;refine cl y7 (eA _ _ cf) ?_;rintro _ _ wr ⟨Av,Aw,Aq,rfl,G⟩;have E:=xt E wr.2;have G:=G.mono (lo':=w.heap.size) U;have Ar:=jh G (lP cf);refine I ?_;refine cl y7 (eA _ _ fx) ?_;rintro _ _ A0 ⟨Ax,od,As,rfl,O⟩;have G:=ac5 A0.2 G;have E:=xt E A0.2;have O:=O.mono (lo':=w.heap.size) U;have Ay:=jh O (lP fx);refine I ?_;refine clb V4 (hc:=JQ G U O U (neg a) (!(neg b))) (hk:=?_);rintro _ _ Af rfl;have E:=xt E Af.2;refine I ?_;exact bu (t:=4) (u:=5) (v1:=S (rS (ba (bN (neg a) (aE (body a))+bN (!(neg b)) (aE (body b)))))) (v2:=.int .i64 (rE (ba (bN (neg a) (aE (body a))+bN (!(neg b)) (aE (body b)))))) Z E (by rw[pc (ij cf fx),Et];rfl) Z Z;refine I ?_;exact bu (t:=4) (u:=5) (v1:=S []) (v2:=.int .i64 30) Z E (by rw[xS (Ol fx)];rfl) Z Z;refine I ?_;refine clb ni (hc:=cu a _ U) (hk:=?_)
 rintro _ _ Ap rfl;have Ab:=Ap.2;refine I ?_;exact bu (t:=4) (u:=5) (v1:=S []) (v2:=.int .i64 30) Z Ab (by rw[xS (Oj cf)];rfl) Z Z
def JR (a b:List UInt8)(w:World)(sa:a.length<=1000000)(sb:b.length<=1000000):
 CL 136 #[S a,S b] w (aG w λv w'=>v=.int .i64 (dH a b)):=by
 refine aC func136 Z (I ?_);rcases qa4 (isInt a)with cf|cf;refine I ?_;refine clb ni (hc:=cu a _ U) (hk:=?_);rintro _ _ Af rfl;have E:=Af.2;refine I ?_;refine clb ni (hc:=cu b _ U) (hk:=?_);rintro _ _ Ap rfl;have E:=xt E Ap.2;refine I ?_;rcases qa4 (isInt b)with fx|fx;refine I ?_;refine cl y7 (eA _ _ cf) ?_;rintro _ _ Am ⟨Av,Ax,Ar,rfl,G⟩;have E:=xt E Am.2;have G:=G.mono (lo':=w.heap.size) U;have Az:=jh G (lP cf);refine I ?_;refine cl y7 (eA _ _ fx) ?_;rintro _ _ A0 ⟨Ay,od,As,rfl,O⟩;have G:=ac5 A0.2 G;have E:=xt E A0.2;have O:=O.mono (lo':=w.heap.size) U;have Aw:=jh O (lP fx);refine I ?_;refine aa (l9 (a:=neg a) (b:=neg b) (q:=(!((neg a)==(neg b)))) U4 Z Z Z ?_);refine I ?_;rcases qa4 ((neg a)==(neg b))with p6|p6;refine I ?_;rcases qa4 (neg a)with r8|r8;refine I ?_;refine clb za (hc:=jK O U G U) (hk:=?_);rintro _ _ Ao rfl;have E:=xt E Ao.2;refine I ?_;exact am (t:=4) (v:=.int .i64 (aN ((aE (body b):Nat):Int) ((aE (body a):Nat):Int))) Z E (qb2 (Value.int .i64) (JM (ij cf fx) p6 r8)) Z;refine I ?_;refine clb za (hc:=jK G U O U) (hk:=?_)
 rintro _ _ wr rfl;have E:=xt E wr.2;refine I ?_;exact am (t:=4) (v:=.int .i64 (aN ((aE (body a):Nat):Int) ((aE (body b):Nat):Int))) Z E (qb2 (Value.int .i64) (JN (ij cf fx) p6 r8)) Z;refine I ?_;rcases qa4 (neg a)with sc|sc;refine I ?_;exact am (t:=4) (v:=.int .i64 (-1)) Z E (qb2 (Value.int .i64) (JO (ij cf fx) p6 sc)) Z;refine I ?_;exact am (t:=4) (v:=.int .i64 1) Z E (qb2 (Value.int .i64) (JP (ij cf fx) p6 sc)) Z;refine I ?_;exact am (t:=4) (v:=.int .i64 0) Z E (by rw[xU (Ol fx)]) Z;refine I ?_;refine clb ni (hc:=cu a _ U) (hk:=?_);rintro _ _ Aq rfl;have Ab:=Aq.2;refine I ?_;exact am (t:=4) (v:=.int .i64 0) Z Ab (by rw[xU (Oj cf)]) Z
def pp (a b:List UInt8)(w:World)(sa:a.length<=1000000)(sb:b.length<=1000000):
 CL 139 #[S a,S b] w (aG w λv w'=>v=vI (dk a b)):=by
 refine aC func139 Z (I ?_);rcases qa4 (isInt a)with cv|cv;rcases qa4 (isInt b)with cw|cw;refine I ?_;refine clb ni (hc:=cu a _ U) (hk:=?_);rintro _ _ Cr rfl;have E:=Cr.2;refine I ?_;refine clb ni (hc:=cu b _ U) (hk:=?_);rintro _ _ CY rfl;have E:=xt E CY.2;refine I ?_;refine rH (b:=[48]) (I ?_);by_cases w9:b=([48]);refine I ?_;exact fq (t:=4) (u:=5) (s:=6) (v1:=S []) (v2:=S []) (v3:=.int .i64 30) Z E (by rw[TU cF];rfl) Z Z Z;have O:0<aE (body b):=Om cw w9;refine I ?_;refine cl y7 (eA _ _ cv) ?_;rintro _ _ E0 ⟨K3,L4,wr,rfl,Af⟩;have E:=xt E E0.2;have Af:=Af.mono (lo':=w.heap.size) U;have L3:=jh Af (lP cv);refine I ?_;refine cl y7 (eA _ _ cw) ?_;rintro _ _ CB ⟨KM,H4,La,rfl,Ab⟩;have Af:=ac5 CB.2 Af;have E:=xt E CB.2;have Ab:=Ab.mono (lo':=w.heap.size) U;have Kp:=jh Ab (lP cw);refine I ?_;refine clb Qy (hc:=z6 Af U Ab U O) (hk:=?_);rintro _ _ Az ⟨Aq,G0,GC,Ar,E9,Ix,rfl,hq,hr⟩;have Ab:=ac5 Az.2 Ab;have E:=xt E Az.2;have hq:=hq.mono (lo':=w.heap.size) U;have hr:=hr.mono (lo':=w.heap.size) U;have L2:=jh hq (Nat.lt_of_le_of_lt (Nat.div_le_self _ _) (lP cv))
 have H3:=jh hr (Nat.lt_trans (Nat.mod_lt _ O) (lP cw));have Ay:aE (body a)%aE (body b)<=aE (body b):=Nat.le_of_lt (Nat.mod_lt _ O);refine I ?_;rcases qa4 (neg a)with ly|ly;refine I ?_;by_cases aoo:0<(E9:Int);have Av:0<aE (body a)%aE (body b):=mz (B:=10) U (by rw[hr.len];omega);have G:=Z9 O ly Av;have A0:aE (body b)-aE (body a)%aE (body b)<=aE (body b):=Nat.sub_le _ _;refine I ?_;refine BS (λ_ As _ E6=>?_);have Ab:=ac5 As Ab;have hq:=ac5 As hq;have hr:=ac5 As hr;have E:=xt E As;have E1:=TT (aa8 E6);refine clb Qz (hc:=wF hq U E1 U) (hk:=?_);rintro _ _ Ax ⟨Ap,L1,H2,rfl,Ao⟩;have Ab:=ac5 Ax.2 Ab;have hr:=ac5 Ax.2 hr;have E:=xt E Ax.2;have Ao:=Ao.mono (lo':=w.heap.size) U;have KC:=jh Ao (Xf (Nat.lt_of_le_of_lt (Nat.div_le_self _ _) (lP cv)) (show 1<10^200 by decide +kernel));refine I ?_;refine clb DO (hc:=lz Ab U hr U Ay) (hk:=?_);rintro _ _ B2 ⟨Am,nm,KY,rfl,hm⟩;have Ao:=ac5 B2.2 Ao;have E:=xt E B2.2;have hm:=hm.mono (lo':=w.heap.size) U;have K2:=jh hm (Nat.lt_of_le_of_lt (Nat.sub_le _ _) (lP cw));refine I ?_;refine aa (l9 (a:=neg a) (b:=neg b) (q:=(!((neg a)==(neg b)))) U4 Z Z Z ?_)
 refine I ?_;refine clb BF (hc:=jN Ao U (!((neg a)==(neg b)))) (hk:=?_);rintro _ _ od rfl;have hm:=ac5 od.2 hm;have E:=xt E od.2;refine I ?_;refine clb Ia (hc:=kK hm U false) (hk:=?_);rintro _ _ E4 rfl;have E:=xt E E4.2;rw[ya (lx cw A0)];refine I ?_;by_cases aop:(rE (ba (bN (!((neg a)==(neg b))) (aE (body a)/aE (body b)+1))))=0;refine I ?_;exact fq (t:=4) (u:=5) (s:=6) (v1:=S (rS (ba (bN (!((neg a)==(neg b))) (aE (body a)/aE (body b)+1))))) (v2:=S (rS (ba (bN false (aE (body b)-aE (body a)%aE (body b)))))) (v3:=.int .i64 0) Z E RK Z Z Z;refine I ?_;exact fq (t:=4) (u:=5) (s:=6) (v1:=S []) (v2:=S []) (v3:=.int .i64 (rE (ba (bN (!((neg a)==(neg b))) (aE (body a)/aE (body b)+1))))) Z E RK Z Z Z;have Av:aE (body a)%aE (body b)=0:=jo (B:=10) U (hr.len.trans U);have G:=Yx (a:=a) O (Or.inr Av);have A0:aE (body a)%aE (body b)<=aE (body b):=Ay;refine I ?_;refine aa (l9 (a:=neg a) (b:=neg b) (q:=(!((neg a)==(neg b)))) U4 Z Z Z ?_);refine I ?_
 refine clb BF (hc:=jN hq U (!((neg a)==(neg b)))) (hk:=?_);rintro _ _ C1 rfl;have hr:=ac5 C1.2 hr;have E:=xt E C1.2;refine I ?_;refine clb Ia (hc:=kK hr U false) (hk:=?_);rintro _ _ E7 rfl;have E:=xt E E7.2;rw[ya (lx cw A0)];refine I ?_;by_cases aoq:(rE (ba (bN (!((neg a)==(neg b))) (aE (body a)/aE (body b)))))=0;refine I ?_;exact fq (t:=4) (u:=5) (s:=6) (v1:=S (rS (ba (bN (!((neg a)==(neg b))) (aE (body a)/aE (body b)))))) (v2:=S (rS (ba (bN false (aE (body a)%aE (body b)))))) (v3:=.int .i64 0) Z E RK Z Z Z;refine I ?_;exact fq (t:=4) (u:=5) (s:=6) (v1:=S []) (v2:=S []) (v3:=.int .i64 (rE (ba (bN (!((neg a)==(neg b))) (aE (body a)/aE (body b)))))) Z E RK Z Z Z;have G:=Yx O (Or.inl ly);have A0:aE (body a)%aE (body b)<=aE (body b):=Ay;refine I ?_;refine aa (l9 (a:=neg a) (b:=neg b) (q:=(!((neg a)==(neg b)))) U4 Z Z Z ?_);refine I ?_;refine clb BF (hc:=jN hq U (!((neg a)==(neg b)))) (hk:=?_);rintro _ _ B1 rfl;have hr:=ac5 B1.2 hr;have E:=xt E B1.2;refine I ?_
 refine clb Ia (hc:=kK hr U false) (hk:=?_);rintro _ _ FR rfl;have E:=xt E FR.2;rw[ya (lx cw A0)];refine I ?_;by_cases aor:(rE (ba (bN (!((neg a)==(neg b))) (aE (body a)/aE (body b)))))=0;refine I ?_;exact fq (t:=4) (u:=5) (s:=6) (v1:=S (rS (ba (bN (!((neg a)==(neg b))) (aE (body a)/aE (body b)))))) (v2:=S (rS (ba (bN false (aE (body a)%aE (body b)))))) (v3:=.int .i64 0) Z E RK Z Z Z;refine I ?_;exact fq (t:=4) (u:=5) (s:=6) (v1:=S []) (v2:=S []) (v3:=.int .i64 (rE (ba (bN (!((neg a)==(neg b))) (aE (body a)/aE (body b)))))) Z E RK Z Z Z;refine I ?_;refine clb ni (hc:=cu a _ U) (hk:=?_);rintro _ _ CG rfl;have Aw:=CG.2;refine I ?_;refine clb ni (hc:=cu b _ U) (hk:=?_);rintro _ _ ES rfl;have Aw:=xt Aw ES.2;refine I ?_;exact fq (t:=4) (u:=5) (s:=6) (v1:=S []) (v2:=S []) (v3:=.int .i64 30) Z Aw (by rw[xV (Ol cw)];rfl) Z Z Z;refine I ?_;refine clb ni (hc:=cu a _ U) (hk:=?_);rintro _ _ E5 rfl;have EW:=E5.2;refine I ?_
 exact fq (t:=4) (u:=5) (s:=6) (v1:=S []) (v2:=S []) (v3:=.int .i64 30) Z EW (by rw[xV (Oj cv)];rfl) Z Z Z
def Ac (a b:List UInt8)(w:World)(sa:a.length<=1000000)(sb:b.length<=1000000):
 CL 138 #[S a,S b] w (aG w λv w'=>v=iA (bP a b)):=by
 refine aC func138 Z (I ?_);rcases qa4 (isInt a)with cf|cf;refine I ?_;refine clb ni (hc:=cu a _ U) (hk:=?_);rintro _ _ E1 rfl;have E:=E1.2;refine I ?_;refine clb ni (hc:=cu b _ U) (hk:=?_);rintro _ _ CY rfl;have E:=xt E CY.2;refine I ?_;rcases qa4 (isInt b)with cw|cw;refine I ?_;refine cl y7 (eA _ _ cf) ?_;rintro _ _ C1 ⟨CG,Az,E6,rfl,O⟩;have E:=xt E C1.2;have O:=O.mono (lo':=w.heap.size) U;refine I ?_;refine cl y7 (eA _ _ cw) ?_;rintro _ _ wr ⟨od,CB,B1,rfl,Ab⟩;have O:=ac5 wr.2 O;have E:=xt E wr.2;have Ab:=Ab.mono (lo':=w.heap.size) U;refine I ?_;refine cg [(7,7),(9,11),(30,40)] (λE4 e W=>∃Ax:Option Addr,∃Am:Nat,∃Ap:Nat,∃x:Nat,∃Ay:Option Addr,∃ny:Nat,∃Af:Nat,∃y:Nat,(y=E4)/\(e 7=.slice Ax Am Ap)/\(e 9=.slice Ay ny Af)/\(Am<=200)/\(ny<=200)/\(Nat.gcd x y=Nat.gcd (aE (body a)) (aE (body b)))/\(aO w W)/\(Dg W w.heap.size Ax Am Ap x)/\(Dg W w.heap.size Ay ny Af y)) (aE (body b)) ⟨CG,Az,E6,aE (body a),od,CB,B1,aE (body b),rfl,rfl,rfl,(jh O (lP cf)),(jh Ab (lP cw)),rfl,E,O,Ab⟩ ?_;rintro _ _ _ ⟨Ax,Am,Ap,x,Ay,ny,Af,y,rfl,EW,FR,q1,Av,Ao,G,hx,hy⟩
 have G0:=bz G;by_cases hm:0<ny;have A0:0<y:=mz (B:=10) U (by rw[hy.len];omega);have Aw:=hx.row.hi;refine I ?_;refine clb Qy (hc:=z6 hx U hy U A0) (hk:=?_);rintro _ _ As ⟨Aq,E9,ES,Ar,Cr,B2,rfl,hq,hr⟩;have hy:=ac5 As.2 hy;have G:=xt G As.2;have hr:=hr.mono (lo':=w.heap.size) U;refine I ?_;exact bI (hk:=by exact Nat.mod_lt _ A0) ⟨Ay,ny,Af,y,Ar,Cr,B2,x%y,rfl,rfl,rfl,U,(by rw[<-hr.len];exact qa8 (ek U (Nat.le_of_lt (Nat.mod_lt _ A0))) (by rw[hy.len];exact Av)),(zS Ao),G,hy,hr⟩;have A0:y=0:=jo (B:=10) U (hy.len.trans U);rw[A0,Nat.gcd_zero_right]at Ao;have Aw:=hx.row.hi;refine I ?_;refine clb BF (hc:=jN hx U false) (hk:=?_);rintro _ _ E5 rfl;have G:=xt G E5.2;refine I ?_;exact bu (t:=4) (u:=5) (v1:=S (rS (ba (bN false x)))) (v2:=.int .i64 (rE (ba (bN false x)))) Z G (by rw[Eu (ij cf cw),<-Ao];rfl) Z Z;refine I ?_;exact bu (t:=4) (u:=5) (v1:=S []) (v2:=.int .i64 30) Z E (by rw[xT (Ol cw)];rfl) Z Z;refine I ?_;refine clb ni (hc:=cu a _ U) (hk:=?_);rintro _ _ E7 rfl;have E0:=E7.2;refine I ?_;exact bu (t:=4) (u:=5) (v1:=S []) (v2:=.int .i64 30) Z E0 (by rw[xT (Oj cf)];rfl) Z Z
def fj {p:Prop}(h:p:=by assumption):p:=h
def Gz {n:Int}(h:fits n=true):(ae n).length<=201:=(kJ (bf h)).2
def Gi (a b:List UInt8):Int:=((Int.gcd (ah a) (ah b):Nat):Int)
def qJ (n d:List UInt8):Option R:=if isInt n&&isInt d then ie (ah n) (ah d)else none
section
variable {x y:List UInt8}
def TV (h:ah y≠0):0<Gi x y:=by
 have:0<Int.gcd (ah x) (ah y):=Int.gcd_pos_of_ne_zero_right _ h
 unfold Gi;omega
def mX (hy:isInt y=true)(h:ah y≠0):fits (Gi x y)=true:=j6 (eO hy) (by
 have hd:Gi x y∣ah y:=Int.gcd_dvd_right ..
 exact Nat.le_of_dvd U (Int.natAbs_dvd_natAbs.2 hd))
def Ad (hx:isInt x=true)(hy:isInt y=true)(h:ah y≠0):bP x y=some (ae (Gi x y)):=by
 unfold bP;rw[if_pos (by rw[hx,hy];rfl)];unfold ba
 show(if fits (Gi x y)=true then some (ae (Gi x y))else none)=_
 rw[if_pos (mX hy h)]
def pq {z:List UInt8}(hz:isInt z=true)(hy:isInt y=true)(h:ah y≠0)(hd:Gi x y∣ah z):dk z (ae (Gi x y))=some (ae (ah z/Gi x y),ae (ah z%Gi x y)):=by
 have E:=TV (x:=x) h
 rw[lw (by rw[hz,bf (mX hy h)];rfl) (by rw[gE,gD];omega),aI]
 obtain⟨g,hg⟩:∃g:Nat,Gi x y=(g:Int):=⟨_,rfl⟩
 rw[hg]at hd E ⊢
 unfold ba
 rw[if_pos (j6 (eO hz) (j7 _ _ U hd))]
 rfl
def Xg:Gi x y∣ah x:=Int.gcd_dvd_left ..
def Xh:Gi x y∣ah y:=Int.gcd_dvd_right ..
def mY (q r:List UInt8):vI (some (q,r))=.tuple #[S q,S r,.int .i64 0]:=rfl
def mZ (q:List UInt8):iA (some q)=.tuple #[S q,.int .i64 0]:=rfl
def CH (h:isInt x=false):none=qJ x y:=by unfold qJ;rw[h];rfl
def CI (h:isInt y=false):none=qJ x y:=by unfold qJ;rw[h];simp
def CJ (h:y=[48]):none=qJ x y:=by
 unfold qJ ie;subst h;rw[kH];simp
def sD (hy:isInt y=true)(h:¬y=[48]):ah y≠0:=λe=>h ((fY hy).1 e)
def TW (hx:isInt x=true)(hy:isInt y=true)(h0:¬y=[48])(hs:¬dH y [48]<0):some (ae (ah x/Gi x y),ae (ah y/Gi x y))=qJ x y:=by
 rw[gL hy,pg]at hs
 unfold qJ ie k8 df
 rw[hx,hy,Bool.and_self,if_pos Z,if_neg (sD hy h0),if_neg hs,if_neg hs];rfl
def TX (hx:isInt x=true)(hy:isInt y=true)(h0:¬y=[48])(hs:dH y [48]<0):
 some (ae (ah (ae (-ah x))/Gi (ae (-ah x)) (ae (-ah y))),ae (ah (ae (-ah y))/Gi (ae (-ah x)) (ae (-ah y))))=qJ x y:=by
 rw[gL hy,pg]at hs
 unfold qJ ie k8 df Gi
 rw[hx,hy,Bool.and_self,if_pos Z,if_neg (sD hy h0),if_pos hs,if_pos hs,aI,aI,Int.gcd_neg,Int.neg_gcd]
def TY (hy:isInt y=true)(h0:¬y=[48]):ah (ae (-ah y))≠0:=by rw[aI];have:=sD hy h0;omega
end
def qK:Value.tuple #[.agg #[S [],S []],.int .i64 40]=gO none:=rfl
def wH (a b:List UInt8):Value.tuple #[.agg #[S a,S b],.int .i64 0]=gO (some (a,b)):=rfl
def ji (h:isInt l=true):l.length<=1000000:=by have:=kJ h;omega
set_option maxRecDepth 100000 in
def GA (x y:List UInt8)(w:World)(s1:x.length<=1000000)(s2:y.length<=1000000):
 CL 82 #[S x,S y] w (aG w λv w'=>v=gO (qJ x y)):=by
 refine aC func82 Z (I ?_);refine al aS (λ_ Af G=>?_);have E:=Af.2;refine I ?_;refine clb ni (hc:=cu x _ fj) (hk:=?_);rintro _ _ Ay rfl;have⟨G,E⟩:=bn Ay.2 G E;refine I ?_;refine clb ni (hc:=cu y _ fj) (hk:=?_);rintro _ _ Cr rfl;have⟨G,E⟩:=bn Cr.2 G E;refine I ?_;rcases qa4 (isInt x)with cr|cr;rcases qa4 (isInt y)with cv|cv;refine I ?_;refine rH (b:=[48]) (I ?_);by_cases cx:y=([48]);refine I ?_;refine SA G (λ_ Ax Az=>?_);have E:=bi Ax E;refine I ?_;refine aX (v:=.tuple #[.agg #[S [],S []],.int .i64 40]) (cO (r1:=.cell 4 33) (r2:=.tmp 5) Z ?_ ?_) E DH;refine ak (t:=4) (cs:=[S [],S []]) (b:=w.heap.size) (o:=0) iK Z bX ?_ ?_;exact Z;exact aa0 Az (i:=0) Z;exact aL (t:=5) GS _;have hx:=cr;have hy:=cv;have A0:=cx;have CY:=sD hy A0;refine I ?_;refine clb YZ (hc:=JR y [48] _ fj dc) (hk:=?_);rintro _ _ Av rfl;have⟨G,E⟩:=bn Av.2 G E;refine I ?_;by_cases cw:(dH y [48])<0;have hs:=cw;have hX:=mV hx
 have hY:=mV hy;have hY0:=TY hy A0;refine I ?_;refine clb V1 (hc:=Aa [48] x _ dc fj) (hk:=?_);rintro _ _ B2 O;have⟨G,E⟩:=bn B2.2 G E;rw[mU hx,mZ]at O;subst O;refine I ?_;refine clb V1 (hc:=Aa [48] y _ dc fj) (hk:=?_);rintro _ _ Aq O;have⟨G,E⟩:=bn Aq.2 G E;rw[mU hy,mZ]at O;subst O;refine I ?_;refine cl V3 (Ac (ae (-ah x)) (ae (-ah y)) _ (ji hX) (ji hY)) ?_;rintro _ _ Ao O;have⟨G,E⟩:=bn Ao.2 G E;rw[Ad hX hY hY0,mZ]at O;subst O;refine I ?_;refine cl M9 (pp (ae (-ah x)) (ae (Gi (ae (-ah x)) (ae (-ah y)))) _ (ji hX) (ji (bf (mX hY hY0)))) ?_;rintro _ _ Aw O;have⟨G,E⟩:=bn Aw.2 G E;rw[pq hX hY hY0 Xg,mY]at O;subst O;refine I ?_;refine cl M9 (pp (ae (-ah y)) (ae (Gi (ae (-ah x)) (ae (-ah y)))) _ (ji hY) (ji (bf (mX hY hY0)))) ?_;rintro _ _ C1 O;have⟨G,E⟩:=bn C1.2 G E;rw[pq hY hY hY0 Xh,mY]at O;subst O;refine I ?_;refine SA G (λ_ nm B1=>?_);have E:=bi nm E;refine I ?_
 refine aX (v:=.tuple #[.agg #[S (ae (ah (ae (-ah x))/Gi (ae (-ah x)) (ae (-ah y)))),S (ae (ah (ae (-ah y))/Gi (ae (-ah x)) (ae (-ah y))))],.int .i64 0]) (cO (r1:=.cell 4 33) (r2:=.tmp 5) Z ?_ ?_) E (by rw[wH,TX hx hy A0 hs]);refine ak (t:=4) (cs:=[S (ae (ah (ae (-ah x))/Gi (ae (-ah x)) (ae (-ah y)))),S (ae (ah (ae (-ah y))/Gi (ae (-ah x)) (ae (-ah y))))]) (b:=w.heap.size) (o:=0) iK Z bX ?_ ?_;exact Z;exact aa0 B1 (i:=0) Z;exact aL (t:=5) GS _;have hs:=cw;have hX:=hx;have hY:=hy;have hY0:=CY;refine I ?_;refine cl V3 (Ac x y _ (ji hX) (ji hY)) ?_;rintro _ _ Am O;have⟨G,E⟩:=bn Am.2 G E;rw[Ad hX hY hY0,mZ]at O;subst O;refine I ?_;refine cl M9 (pp x (ae (Gi x y)) _ (ji hX) (ji (bf (mX hY hY0)))) ?_;rintro _ _ Ab O;have⟨G,E⟩:=bn Ab.2 G E;rw[pq hX hY hY0 Xg,mY]at O;subst O;refine I ?_;refine cl M9 (pp y (ae (Gi x y)) _ (ji hY) (ji (bf (mX hY hY0)))) ?_;rintro _ _ Ap O;have⟨G,E⟩:=bn Ap.2 G E;rw[pq hY hY hY0 Xh,mY]at O;subst O;refine I ?_;refine SA G (λ_ CB wr=>?_);have E:=bi CB E;refine I ?_
 refine aX (v:=.tuple #[.agg #[S (ae (ah x/Gi x y)),S (ae (ah y/Gi x y))],.int .i64 0]) (cO (r1:=.cell 4 33) (r2:=.tmp 5) Z ?_ ?_) E (by rw[wH,TW hx hy A0 hs]);refine ak (t:=4) (cs:=[S (ae (ah x/Gi x y)),S (ae (ah y/Gi x y))]) (b:=w.heap.size) (o:=0) iK Z bX ?_ ?_;exact Z;exact aa0 wr (i:=0) Z;exact aL (t:=5) GS _;refine I ?_;refine SA G (λ_ ny CG=>?_);have E:=bi ny E;refine I ?_;refine aX (v:=.tuple #[.agg #[S [],S []],.int .i64 40]) (cO (r1:=.cell 4 33) (r2:=.tmp 5) Z ?_ ?_) E DH;refine ak (t:=4) (cs:=[S [],S []]) (b:=w.heap.size) (o:=0) iK Z bX ?_ ?_;exact Z;exact aa0 CG (i:=0) Z;exact aL (t:=5) GS _;refine I ?_;refine SA G (λ_ As Ar=>?_);have E:=bi As E;refine I ?_;refine aX (v:=.tuple #[.agg #[S [],S []],.int .i64 40]) (cO (r1:=.cell 4 33) (r2:=.tmp 5) Z ?_ ?_) E DH;refine ak (t:=4) (cs:=[S [],S []]) (b:=w.heap.size) (o:=0) iK Z bX ?_ ?_;exact Z;exact aa0 Ar (i:=0) Z;exact aL (t:=5) GS _
def TZ (n:Int):∃ng x,n=bN ng x/\(ng=true->0<x)/\x=n.natAbs:=by
 by_cases h:n<0
 · exact⟨true,n.natAbs,by simp[bN];omega,λ_=>by omega,rfl⟩
 · exact⟨false,n.natAbs,by simp[bN];omega,by simp,rfl⟩
def T0 (h:ng=true->0<x):rJ (decide (bN ng x<0)) x=ae (bN ng x):=by
 rw[<-qI]
 congr 1
 cases ng with
 | false=>
   have:decide (bN false x<0)=false:=qa2 (by show¬(x:Int)<0;omega)
   rw[this]
 | true=>
   have:=h Z
   have:decide (bN true x<0)=true:=qa1 (by show -(x:Int)<0;omega)
   rw[this]
def uo :bN ng x=0↔x=0:=by cases ng <;>simp[bN] <;>omega
def CK {ng:Bool}{x:Nat}:-(x:Int)<=bN ng x/\bN ng x<=(x:Int):=by cases ng <;>simp[bN] <;>omega
def JS (h:ng=true/\0<d):bN ng d<0/\-bN ng d=(d:Int):=by rw[h.1];simp[bN];omega
def T1 (h:¬(ng=true/\0<d)):bN ng d=(d:Int):=by cases ng <;>simp_all [bN]
def Ae (h:¬x=0):ao 10 x=x%10::ao 10 (x/10):=fO 10 x U U
def aV (c n:Int):Int:=(if c<0 then -(c+1)else c)%n
def du (c n:Int)(h:0<n):0<=aV c n/\aV c n<n:=⟨Int.emod_nonneg _ U,Int.emod_lt_of_pos _ h⟩
def Ag {n:Int}(h:c<0):-(c+1)%n=aV c n:=by unfold aV;rw[if_pos h]
def Ah {n:Int}(h:¬c<0):c%n=aV c n:=by unfold aV;rw[if_neg h]
def wI {n:Int}(h:-100000000<=n/\n<=100000000):(ae n).length<=1000000:=by
 have:fits n=true:=by
  unfold fits;rw[decide_eq_true_eq]
  have E:(10:Nat)^9<=10^200:=Nat.pow_le_pow_right U U
  omega
 have:=Gz this;omega
def Ai (hng:ng=true->0<x0)(hx0:x0<=100000000):
 CL 83 #[.int .i64 (bN ng x0)] w (aG w λv w'=>v=S (ae (bN ng x0))):=by
 have C1:(ao 10 x0).length<=9:=(a7 10 U x0 9).2 U;refine aC func83 Z (I ?_);have As:World.ownsRow w w.heap.size 3 1 (.slice none 0 0) 0 (ints []):=bK;have Av:=aa4 w;refine cg [(3,5),(9,22)] (λAy e W=>∃x:Nat,∃ds:List Nat,∃G:Value,(x=Ay)/\(e 4=.int .i64 (bN ng x))/\(e 3=G)/\(ao 10 x0=ds++ao 10 x)/\(x<=100000000)/\(aO w W)/\(W.ownsRow w.heap.size 3 1 G ds.length (ints ds))) (x0) ⟨x0,[],.slice none 0 0,rfl,rfl,rfl,rfl,hx0,Av,As⟩ ?_;rintro _ _ _ ⟨x,ds,G,rfl,Cr,A0,q1,CB,E,ho⟩;have CG:=bz E;by_cases hx:x=0;rw[hx,gq,List.append_nil]at q1;obtain⟨_,_,rfl,B1⟩:=qG ho q1.symm;have E1:ds.length<=9:=by rw[<-q1];exact C1
 have E4:=show bN ng x=0 from uo.2 hx;refine I ?_;refine clb Ia (hc:=kK B1 U (decide ((bN ng x0)<0))) (hk:=?_);rintro _ _ Aq rfl;have E:=xt E Aq.2;refine I ?_;exact am (t:=2) (v:=S (rJ (decide ((bN ng x0)<0)) x0)) Z E (by rw[T0 hng]) Z;by_cases hd:ng=true/\0<x%10;rw[Ae hx]at q1;have O:=qb2 List.length q1;rw[List.length_append,List.length_cons]at O;have E0:=show¬bN ng x=0 from λh=>hx (uo.1 h);refine I ?_;refine aa (Ca (a:=bN ng x) (b:=10) (c:=bN ng (x%10)) Z Z dc (by rw[z7]) ?_);have CY:=(JS hd).1;refine I ?_;refine aa (yY (a:=bN ng (x%10)) Z (by have:=@CK ng (x%10);unfold In64;omega) ?_);rw[(JS hd).2];refine I ?_;refine aa (aW (v:=G) A0 ?_);refine I ?_;refine BS (λ_ Am _ Ax=>?_);have ho:=ab Am ho;have E:=xt E Am;refine AP ho (aa8 Ax) (λAo _ Ap B2 _=>?_);have E:=bm ho U U E B2;refine aa (aK (v:=Ao) Z ?_);refine I ?_;refine aa (B9 (a:=bN ng x) (b:=10) (c:=bN ng (x/10)) Z Z dc (z8 _ _) (by have:=@CK ng (x/10);unfold In64;omega) ?_);refine I ?_;exact bI ⟨x/10,ds++[x%10],Ao,rfl,rfl,rfl,(by rw[List.append_assoc];exact q1),U,E,(aM Ap Wf (by rw[e7]))⟩
 rw[Ae hx]at q1;have O:=qb2 List.length q1;rw[List.length_append,List.length_cons]at O;have E5:=show¬bN ng x=0 from λh=>hx (uo.1 h);refine I ?_;refine aa (Ca (a:=bN ng x) (b:=10) (c:=((x%10:Nat):Int)) Z Z dc (by rw[z7];exact T1 hd) ?_);refine I ?_;refine aa (aW (v:=G) A0 ?_);refine I ?_;refine BS (λ_ Ab _ Az=>?_);have ho:=ab Ab ho;have E:=xt E Ab;refine AP ho (aa8 Az) (λAf _ Aw Ar _=>?_);have E:=bm ho U U E Ar;refine aa (aK (v:=Af) Z ?_);refine I ?_;refine aa (B9 (a:=bN ng x) (b:=10) (c:=bN ng (x/10)) Z Z dc (z8 _ _) (by have:=@CK ng (x/10);unfold In64;omega) ?_);refine I ?_;exact bI ⟨x/10,ds++[x%10],Af,rfl,rfl,rfl,(by rw[List.append_assoc];exact q1),U,E,(aM Aw Wf (by rw[e7]))⟩
def us (n:Int)(w:World)(h:-100000000<=n/\n<=100000000):CL 83 #[.int .i64 n] w (aG w λv _=>v=S (ae n)):=by
 obtain⟨ng,x,rfl,h1,h2⟩:=TZ n
 exact Ai h1 (by have:=jI ng x;omega)
def Aj (n m:Int)(w:World)(hn:-100000000<=n/\n<=100000000)(hm:-100000000<=m/\m<=100000000):
 CL 34 #[.int .i64 n,.int .i64 m] w (aG w λv w'=>v=gO (qJ (ae n) (ae m))):=by
 refine aC func34 Z (I ?_);refine al aS (λ_ Ab G=>?_);have E:=Ab.2;refine I ?_;refine clb VX (hc:=us n _ U) (hk:=?_);rintro _ _ Af rfl;have⟨G,E⟩:=bn Af.2 G E;refine I ?_;refine clb VX (hc:=us m _ U) (hk:=?_);rintro _ _ O rfl;have⟨G,E⟩:=bn O.2 G E;refine clb YY (hc:=GA (ae n) (ae m) _ (wI U) (wI U)) (hk:=?_);rintro _ _ Am rfl;have⟨G,E⟩:=bn Am.2 G E;refine I ?_;refine SA G (λ_ A0 Ao=>?_);have E:=bi A0 E;refine I ?_;refine aX (v:=.tuple #[.agg #[S (rN (qJ (ae n) (ae m))),S (rD (qJ (ae n) (ae m)))],.int .i64 (TL (qJ (ae n) (ae m)))]) (cO (r1:=.cell 4 33) (r2:=.tmp 5) Z ?_ ?_) E Z;refine ak (t:=4) (cs:=[S (rN (qJ (ae n) (ae m))),S (rD (qJ (ae n) (ae m)))]) (b:=w.heap.size) (o:=0) iK Z bX ?_ ?_;exact Z;exact aa0 Ao (i:=0) Z;exact aL (t:=5) GS _
end
section
open Go Go.Eng Go.RowKit Tryz
def sA:Value->Option Addr
 | .slice A _ _=>A
 |_=>none
def sC:Value->Nat
 | .slice _ _ c=>c
 |_=>0
def cV:Option Addr->Nat
 |some a=>a.block
 |none=>0
def gY:Option Addr->Nat
 |some a=>a.off
 |none=>0
def bT {α:Type}(f:Nat->α)(i:Nat)(a:α):Nat->α:=λj=>if j=i then a else f j
def bg {α:Type}(f:Nat->α)(i:Nat)(a:α):bT f i a i=a:=by simp[bT]
def bh {α:Type}(f:Nat->α)(a:α)(h:j≠i):bT f i a j=f j:=by simp[bT,h]
def JU (h:Rw W lo A cs)(hu:cs[j]?=some u):A=some ⟨cV A,gY A,none⟩/\W.cell? ⟨cV A,gY A+j,none⟩=some u:=by
 obtain⟨b,o,rfl,hc⟩:=h.cells j u hu
 exact⟨rfl,hc⟩
def bD {l:List R}(h:Rw W lo A (ag l))(hk:k<l.length):
 A=some ⟨cV A,gY A,none⟩/\∀j u,[S (ar l k).1,S (ar l k).2][j]?=some u->W.cell? ⟨cV A,gY A+k*2+j,none⟩=some u:=by
 obtain⟨b,o,rfl,hc⟩:=Ew h hk
 exact⟨rfl,hc⟩
def dj (h:W.ownsRow lo t sz v n cs):v=.slice (sA v) n (sC v):=by
 obtain⟨hl,⟨rfl,rfl⟩|⟨g,cap,E,rfl,_⟩⟩:=h <;>rfl
def gi (h:W.ownsRow lo t sz v n cs):Rw W lo (sA v) cs:=by
 have h2:=h
 rw[dj h]at h2
 exact aa8 h2
def dI (h:W.ownsRow lo t sz v n cs):∀g,v.ownBlock=some g->g<W.heap.size:=by
 obtain⟨hl,⟨rfl,rfl⟩|⟨g,cap,G,rfl,O,E,_⟩⟩:=h
 · intro g e;cases e
 · intro _ e;cases e;exact(Array.getElem?_eq_some_iff.1 E).1
def ck (hl:lo'<=lo)(h:W.ownsRow lo t sz v n cs):W.ownsRow lo' t sz v n cs:=by
 obtain⟨h1,h2|⟨g,cap,E,rfl,G,r⟩⟩:=h
 · exact⟨h1,.inl h2⟩
 · exact⟨h1,.inr ⟨g,cap,E,rfl,qa8 hl G,r⟩⟩
structure Mt (W:World)(lo:Nat)(A:Option Addr)(n:Nat)(H:Nat->Value)(L:Nat->List R):Prop where
 out:Rw W lo A ((List.range n).map H)
 hdr:∀i,i<n->H i=.slice (sA (H i)) (L i).length (sC (H i))
 row:∀i,i<n->Rw W lo (sA (H i)) (ag (L i))
 cap:∀i,i<n->(L i).length<=sC (H i)
def m0 (h:W.ownsRow base et sz v k cs):k<=sC v:=by
 obtain⟨hl,⟨rfl,rfl⟩|⟨g,cap,E,rfl,O,G,hc,r⟩⟩:=h
 · exact qa0 _
 · exact hc
section
variable {W':World}{hi m:Nat}{L:Nat->List R}
def Mt.ext (k:aO W W')(h:Mt W lo A n H L):Mt W' lo A n H L:=⟨h.out.ext k,h.hdr,λi hi=>(h.row i hi).ext k,h.cap⟩
def Mt.put {b:Nat}(k:eE W W' b)(hb:b<lo)(h:Mt W lo A n H L):Mt W' lo A n H L:=⟨h.out.put k hb,h.hdr,λi hi=>(h.row i hi).put k hb,h.cap⟩
def Mt.mono (hl:lo'<=lo)(h:Mt W lo A n H L):Mt W lo' A n H L:=⟨h.out.mono hl,h.hdr,λi hi=>(h.row i hi).mono hl,h.cap⟩
def ad6:=@Mt.mono
def Mt.cell (h:Mt W lo A n H L)(hi:i<n):A=some ⟨cV A,gY A,none⟩/\W.cell? ⟨cV A,gY A+i,none⟩=some (.slice (sA (H i)) (L i).length (sC (H i))):=by
 rw[<-h.hdr i hi]
 exact JU h.out (by simp[hi])
def ab1:=@Mt.cell
def Mt.elem (h:Mt W lo A n H L)(hi:i<n)(hk:k<(L i).length):
 sA (H i)=some ⟨cV (sA (H i)),gY (sA (H i)),none⟩/\∀j u,[S (ar (L i) k).1,S (ar (L i) k).2][j]?=some u->W.cell? ⟨cV (sA (H i)),gY (sA (H i))+k*2+j,none⟩=some u:=
 bD (h.row i hi) hk
def ad3:=@Mt.elem
def Mt.congr {L':Nat->List R}(h:Mt W lo A n H L)(hL:∀i,i<n->L i=L' i):Mt W lo A n H L':=
 ⟨h.out,λi hi=>by rw[<-hL i hi];exact h.hdr i hi,λi hi=>by rw[<-hL i hi];exact h.row i hi,λi hi=>by rw[<-hL i hi];exact h.cap i hi⟩
structure Wr (W:World)(lo hi n:Nat)(H:Nat->Value)(L:Nat->List R):Prop where
 own:∀i,i<n->W.ownsRow lo 33 2 (H i) (L i).length (ag (L i))
 hi:∀i,i<n->∀g,(H i).ownBlock=some g->g<hi
 ne:∀i j,i<n->j<n->i≠j->az (H i) (H j)
def Wr.nil:Wr W lo hi 0 H L:=⟨λi h=>by omega,λi h=>by omega,λi j h=>by omega⟩
def Wr.ext (k:aO W W')(h:Wr W lo hi n H L):Wr W' lo hi n H L:=⟨λi hi=>ab k (h.own i hi),h.hi,h.ne⟩
def aa2:=@Wr.ext
def Wr.put {b:Nat}(k:eE W W' b)(hb:b<lo\/hi<=b)(h:Wr W lo hi n H L):Wr W' lo hi n H L:=
 ⟨λi hi'=>ax k (λe=>by have h1:=h.hi i hi' b e;have h2:=aU (h.own i hi') b e;omega) (h.own i hi'),h.hi,h.ne⟩
def ab8:=@Wr.put
def Wr.gr {row:Option Nat}(k:W.grownBy W' row)(hb:∀g,row=some g->g<lo\/hi<=g)(h:Wr W lo hi n H L):Wr W' lo hi n H L:=
 ⟨λi hi'=>nI k (λg e e2=>by have h1:=h.hi i hi' g e;have h2:=aU (h.own i hi') g e;have h3:=hb g e2.symm;omega) (h.own i hi'),h.hi,h.ne⟩
def Wr.grOut (k:W.grownBy W' v.ownBlock)(hne:∀i,i<n->az v (H i))(h:Wr W lo hi n H L):Wr W' lo hi n H L:=
 ⟨λi hi'=>nI k (λg e e2=>hne i hi' g e2.symm e) (h.own i hi'),h.hi,h.ne⟩
def ac8:=@Wr.grOut
def Wr.putOut {b:Nat}(k:eE W W' b)(hne:∀i,i<n->(H i).ownBlock≠some b)(h:Wr W lo hi n H L):Wr W' lo hi n H L:=
 ⟨λi hi'=>ax k (hne i hi') (h.own i hi'),h.hi,h.ne⟩
def Wr.mono (hl:hi<=hi')(h:Wr W lo hi n H L):Wr W lo hi' n H L:=⟨h.own,λi hi g e=>qb1 (h.hi i hi g e) hl,h.ne⟩
def Wr.top (h:Wr W lo hi n H L):Wr W lo W.heap.size n H L:=⟨h.own,λi hi g e=>dI (h.own i hi) g e,h.ne⟩
def Wr.hdr (h:Wr W lo hi n H L)(hi:i<n):H i=.slice (sA (H i)) (L i).length (sC (H i)):=dj (h.own i hi)
def Wr.elem (h:Wr W lo hi n H L)(hi:i<n)(hk:k<(L i).length):
 sA (H i)=some ⟨cV (sA (H i)),gY (sA (H i)),none⟩/\∀j u,[S (ar (L i) k).1,S (ar (L i) k).2][j]?=some u->W.cell? ⟨cV (sA (H i)),gY (sA (H i))+k*2+j,none⟩=some u:=
 bD (gi (h.own i hi)) hk
def Wr.mt (h:Wr W lo hi n H L)(ho:Rw W lo A ((List.range n).map H)):Mt W lo A n H L:=⟨ho,λi hi=>h.hdr hi,λi hi=>gi (h.own i hi),λi hi=>m0 (h.own i hi)⟩
def Wr.congr {L':Nat->List R}(h:Wr W lo hi n H L)(hL:∀i,i<n->L i=L' i):Wr W lo hi n H L':=
 ⟨λi hi=>by rw[<-hL i hi];exact h.own i hi,h.hi,h.ne⟩
def Wr.push {r:Value}{l:List R}(h:Wr W lo hi n H L)(hr:W.ownsRow lo 33 2 r l.length (ag l))(hne:∀i,i<n->az r (H i)):Wr W lo W.heap.size (n+1) (bT H n r) (bT L n l):=by
 refine⟨λi hi=>?_,λi hi g e=>?_,λi j hi _ E=>?_⟩
 · by_cases e:i=n
   · subst e;rw[bg,bg];exact hr
   · rw[bh _ _ e,bh _ _ e];exact h.own i U
 · by_cases e':i=n
   · subst e';rw[bg]at e;exact dI hr g e
   · rw[bh _ _ e']at e;exact dI (h.own i U) g e
 · by_cases e:i=n
   · subst e;rw[bg,bh _ _ (Ne.symm E)];exact hne j U
   · by_cases e2:j=n
     · subst e2;rw[bg,bh _ _ e];exact aa6 (hne i U)
     · rw[bh _ _ e,bh _ _ e2];exact h.ne i j U U E
def eL {α:Type}(H:Nat->α)(n:Nat)(r:α):(List.range (n+1)).map (bT H n r)=(List.range n).map H++[r]:=by
 rw[List.range_succ,List.map_append]
 congr 1
 · exact List.map_congr_left λi hi=>bh _ _ (by have:=List.mem_range.1 hi;omega)
 · simp[bg]
def Wr.app {l':List R}(h:Wr W lo hi n H L)(hj:j<n)(hg:W.grownBy W' (H j).ownBlock)(ho:W'.ownsRow lo 33 2 v' l'.length (ag l'))(ha:v'.ownBlock=(H j).ownBlock\/v'.ownBlock=some W.heap.size):Wr W' lo W'.heap.size n (bT H j v') (bT L j l'):=by
 have hother:∀i,i<n->i≠j->W'.ownsRow lo 33 2 (H i) (L i).length (ag (L i)):=λi hi G=>
  ab3 (h.ne j i hj hi (Ne.symm G)) hg (h.own i hi)
 have O:∀i,i<n->i≠j->az v' (H i):=λi hi G=>aa9 ha (h.ne j i hj hi (Ne.symm G)) (h.own i hi)
 refine⟨λi hi=>?_,λi hi g e=>?_,λi k hi hk E=>?_⟩
 · by_cases e:i=j
   · subst e;rw[bg,bg];exact ho
   · rw[bh _ _ e,bh _ _ e];exact hother i hi e
 · by_cases e':i=j
   · subst e';rw[bg]at e;exact dI ho g e
   · rw[bh _ _ e']at e;exact dI (hother i hi e') g e
 · by_cases e:i=j
   · subst e;rw[bg,bh _ _ (Ne.symm E)];exact O k hk (Ne.symm E)
   · by_cases e2:k=j
     · subst e2;rw[bg,bh _ _ e];exact aa6 (O i hi e)
     · rw[bh _ _ e,bh _ _ e2];exact h.ne i k hi hk E
def Wr.perm (f:Nat->Nat)(hf:∀i,i<n->f i<n)(hi':∀i j,i<n->j<n->f i=f j->i=j)(h:Wr W lo hi n H L):Wr W lo hi n (λi=>H (f i)) (λi=>L (f i)):=
 ⟨λi hi=>h.own _ (hf i hi),λi hi=>h.hi _ (hf i hi),λi j hi E G=>h.ne _ _ (hf i hi) (hf j E) (λe=>G (hi' i j hi E e))⟩
def Wr.far (h:Wr W lo hi n H L)(hr:W.ownsRow base t sz v k cs)(hb:hi<=base):∀i,i<n->az v (H i):=
 λi hi' g e e2=>by have h1:=h.hi i hi' g e2;have h2:=aU hr g e;omega
def dW {r:Value}(h:∀i,i<n->az v (H i))(hr:az v r):∀i,i<n+1->az v (bT H n r i):=λi hi=>by
 by_cases e:i=n
 · subst e;rw[bg];exact hr
 · rw[bh _ _ e];exact h i U
end
def JV {n d:Int}(hn:fits n=true)(hd:fits d=true)(hg:Int.gcd n d=1)(hp:0<d):bJ (ae n,ae d)=true:=by
 unfold bJ
 have h2:=bf hd
 have h1:=bf hn
 show(isInt (ae n)&&isInt (ae d)&& !decide (dH (ae d) [48]<=0)&&decide (bP (ae n) (ae d)=some [49]))=true
 rw[h1,h2]
 have h3:¬dH (ae d) [48]<=0:=by
  rw[gL h2,c7,aI];omega
 have h4:bP (ae n) (ae d)=some [49]:=by
  unfold bP
  rw[h1,h2,Bool.and_self,if_pos Z,aI,aI,hg]
  decide +kernel
 simp[h3,h4]
def ut {n d:Int}{q:R}(hn:fits n=true)(hd:fits d=true)(h:ie n d=some q):bJ q=true:=by
 unfold ie at h
 by_cases h0:d=0
 · rw[if_pos h0]at h;cases h
 · rw [if_neg h0]at h
   cases h
   have O:0<Int.gcd n d:=Int.gcd_pos_of_ne_zero_right _ h0
   have hc:=Int.gcd_ediv_gcd_ediv_gcd O
   obtain⟨g,hgg⟩:∃g:Nat,Int.gcd n d=g:=⟨_,rfl⟩
   rw[hgg]at hc O
   have G:(g:Int)∣n:=by rw[<-hgg];exact Int.gcd_dvd_left ..
   have E:(g:Int)∣d:=by rw[<-hgg];exact Int.gcd_dvd_right ..
   have A0:fits (n/(g:Int))=true:=j6 hn (j7 _ _ U G)
   have Af:fits (d/(g:Int))=true:=j6 hd (j7 _ _ U E)
   have Ap:d/(g:Int)≠0:=λe=>h0 (by have:=Int.mul_ediv_cancel' E;rw[e]at this;omega)
   unfold k8 df
   rw[hgg]
   by_cases hs:d<0
   · rw[if_pos hs,if_pos hs,Int.neg_ediv_of_dvd G,Int.neg_ediv_of_dvd E]
     have Am:d/(g:Int)<0:=by
      have:=Int.mul_ediv_cancel' E
      refine Int.lt_of_not_ge λAb=>?_
      have Ao:0<=(g:Int)*(d/(g:Int)):=Int.mul_nonneg U Ab
      omega
     refine JV ?_ ?_ ?_ U
     · unfold fits at *;rwa [Int.natAbs_neg]
     · unfold fits at *;rwa [Int.natAbs_neg]
     · rw[Int.neg_gcd,Int.gcd_neg];exact hc
   · rw[if_neg hs,if_neg hs]
     have Am:0<=d/(g:Int):=Int.ediv_nonneg U U
     exact JV A0 Af hc U
def pr {n d:Int}{q:R}(h:ig n d=some q):bJ q=true:=by
 unfold ig at h
 cases h1:fits n with
 |false=>rw[h1]at h;simp at h
 | true=>
   cases h2:fits d with
   |false=>rw[h1,h2]at h;simp at h
   |true=>rw[h1,h2,Bool.and_self,if_pos Z]at h;exact ut h1 h2 h
def EF {a b q:R}(h:qr a b=some q):bJ q=true:=by unfold qr at h;split at h <;>first|exact pr h|cases h
def EG {a b q:R}(h:mB a b=some q):bJ q=true:=by unfold mB at h;split at h <;>first|exact pr h|cases h
def EH {a b q:R}(h:jJ a b=some q):bJ q=true:=by
 unfold jJ at h;split at h
 · split at h <;>first|exact pr h|cases h
 · cases h
def yb {a b q:R}(h:dn a b=some q):bJ q=true:=by
 unfold dn at h;split at h
 · split at h <;>first|exact pr h|cases h
 · cases h
def On {n d:List UInt8}{q:R}(h:qJ n d=some q):bJ q=true:=by
 unfold qJ at h
 split at h
 · rename_i hh
   simp only[Bool.and_eq_true]at hh
   exact ut (eO hh.1) (eO hh.2) h
 · cases h
def Oo {a:R}(h:bJ a=true):a.1.length<=1000000/\a.2.length<=1000000:=by
 have h1:=(kJ (ii h)).2
 have h2:=(kJ (fK h)).2
 omega
def T4 {a:R}(h:bJ a=true):(dn ([48],[49]) a).isSome=true:=by
 have E:ah [48]=0:=by decide +kernel
 have ho:ah [49]=1:=by decide +kernel
 unfold dn
 rw[uh,h,Bool.and_self,if_pos Z]
 simp only[E,ho,Int.zero_mul,Int.mul_one,Int.one_mul,Int.zero_sub]
 have G:fits 0=true:=by decide +kernel
 have f1:=eO (ii h)
 have f2:=eO (fK h)
 have O:fits (-ah a.1)=true:=by unfold fits at *;rwa [Int.natAbs_neg]
 rw[G,f1,Bool.and_self,if_pos Z]
 unfold ig
 rw[O,f2,Bool.and_self,if_pos Z]
 unfold ie
 rw[if_neg (by have:=cE h;omega)]
 rfl
def z0:R:=([48],[49])
def o1:R:=([49],[49])
abbrev Rows:=Nat->List R
def mD (r:Nat)(pv:R):Nat->Nat->Rows->Option Rows
 |0,_,L=>some L
 | f+1,k,L=>match mB (ar (L r) k) pv with
   |none=>none
   |some q=>mD r pv f (k+1) (bT L r ((L r).set k q))
def lX (r i:Nat)(by_:R):Nat->Nat->Rows->Option Rows
 |0,_,L=>some L
 | f +1,k,L=>match qr by_ (ar (L r) k)with
   |none=>none
   | some p=>match dn (ar (L i) k) p with
     |none=>none
     |some d=>lX r i by_ f (k+1) (bT L i ((L i).set k d))
def ko (m r c:Nat):Nat->Nat->Rows->Option Rows
 |0,_,L=>some L
 | f+1,i,L=>if i=r\/ar (L i) c=z0 then ko m r c f (i+1) L else match lX r i (ar (L i) c) (m-c) c L with
   |none=>none
   |some L'=>ko m r c f (i+1) L'
def iD (c:Nat)(L:Rows):Nat->Nat->Nat
 |0,p=>p
 |f+1,p=>if ar (L p) c=z0 then iD c L f (p+1)else p
def sE (c:Nat)(L:Rows):∀(f p:Nat),p<=iD c L f p/\iD c L f p<=p+f
 |0,p=>⟨qa0 _,qa0 _⟩
 | f+1,p=>by
   unfold iD
   split
   · have:=sE c L f (p+1);omega
   · omega
def rK (p r i:Nat):Nat:=if i=p then r else if i=r then p else i
def nF (p r:Nat)(L:Rows):Rows:=λi=>L (rK p r i)
structure El where
 L:Rows
 piv:List R
 cols:List Nat
 sw:Nat
def pt (n m c:Nat)(s:El):Option El:=
 if iD c s.L (n-s.piv.length) s.piv.length=n then some s
 else match mD s.piv.length (ar (s.L (iD c s.L (n-s.piv.length) s.piv.length)) c) (m-c) c (nF (iD c s.L (n-s.piv.length) s.piv.length) s.piv.length s.L)with
  |none=>none
  | some L2=>match ko m s.piv.length c n 0 L2 with
    |none=>none
    |some L3=>some ⟨L3,s.piv++[ar (s.L (iD c s.L (n-s.piv.length) s.piv.length)) c],s.cols++[c],if iD c s.L (n-s.piv.length) s.piv.length=s.piv.length then s.sw else s.sw+1⟩
def ik (n m:Nat):Nat->Nat->El->Option El
 |0,_,s=>some s
 | f+1,c,s=>match pt n m c s with
   |none=>none
   |some s'=>ik n m f (c+1) s'
def elim (n m cols:Nat)(L:Rows):Option El:=ik n m cols 0 ⟨L,[],[],0⟩
def qt (n m:Nat)(L:Rows):Prop:=∀i,i<n->(L i).length=m/\∀k,k<m->bJ (ar (L i) k)=true
def sF {l:List R}{q:R}(hk:k<l.length):ar (l.set k q) j=if j=k then q else ar l j:=by
 unfold ar
 rw[List.getD,List.getD,List.getElem?_set]
 by_cases h:k=j
 · subst h;simp[hk]
 · simp[h,Ne.symm h]
def qt.set {m:Nat}{L:Rows}{q:R}(h:qt n m L)(hk:k<m)(hi:i<n)(hq:bJ q=true):qt n m (bT L i ((L i).set k q)):=by
 intro j E
 by_cases e:j=i
 · subst e
   rw[bg]
   refine⟨by rw[List.length_set];exact(h j E).1,λk' G=>?_⟩
   rw[sF (by rw[(h j E).1];exact hk)]
   split
   · exact hq
   · exact(h j E).2 k' G
 · rw[bh _ _ e];exact h j E
def qt.sw {m r:Nat}{L:Rows}(h:qt n m L)(hp:p<n)(hr:r<n):qt n m (nF p r L):=by
 intro i hi
 refine h _ ?_
 unfold rK
 split
 · exact hr
 · split
   · exact hp
   · exact hi
def uu {r:Nat}(hp:p<n)(hr:r<n)(hi:i<n):rK p r i<n:=by
 unfold rK;split
 · exact hr
 · split <;>omega
def Oq {r:Nat}(h:rK p r i=rK p r j):i=j:=by
 unfold rK at h
 split at h <;>split at h <;>(try split at h) <;>(try split at h) <;>omega
def JW (r i:Nat):rK r r i=i:=by unfold rK;split <;>(try split) <;>omega
def pu (r:Nat)(L:Rows):nF r r L=L:=funext λi=>by unfold nF;rw[JW]
section steps
variable {r c m cols:Nat}{pv q by_ d:R}{L L1 L2 L3:Rows}{T:Option Rows}{E:Option El}{piv:List R}{cs:List Nat}{sw sw':Nat}
def jq (h:k<m):m-k=(m-(k+1))+1:=J
def GB (hk:k<m)(h:mD r pv (m-k) k L=T)(hd:mB (ar (L r) k) pv=some q):mD r pv (m-(k+1)) (k+1) (bT L r ((L r).set k q))=T:=by
 rw[jq hk]at h;unfold mD at h;rw[hd]at h;exact h
def GD (hk:k<m)(h:mD r pv (m-k) k L=T)(hd:mB (ar (L r) k) pv=none):T=none:=by
 rw[jq hk]at h;unfold mD at h;rw[hd]at h;exact h.symm
def JX (hk:¬k<m)(h:mD r pv (m-k) k L=T):T=some L:=by
 rw[show m-k=0 by omega]at h;exact h.symm
def GE (hk:k<m)(h:lX r i by_ (m-k) k L=T)(hp:qr by_ (ar (L r) k)=some q)(hd:dn (ar (L i) k) q=some d):lX r i by_ (m-(k+1)) (k+1) (bT L i ((L i).set k d))=T:=by
 rw[jq hk]at h;unfold lX at h;rw[hp]at h;dsimp only at h;rw[hd]at h;exact h
def CM (hk:k<m)(h:lX r i by_ (m-k) k L=T)(hp:qr by_ (ar (L r) k)=none):T=none:=by
 rw[jq hk]at h;unfold lX at h;rw[hp]at h;exact h.symm
def CN (hk:k<m)(h:lX r i by_ (m-k) k L=T)(hp:qr by_ (ar (L r) k)=some q)(hd:dn (ar (L i) k) q=none):T=none:=by
 rw[jq hk]at h;unfold lX at h;rw[hp]at h;dsimp only at h;rw[hd]at h;exact h.symm
def JY (hk:¬k<m)(h:lX r i by_ (m-k) k L=T):T=some L:=by
 rw[show m-k=0 by omega]at h;exact h.symm
def wJ (hi:i<n)(h:ko m r c (n-i) i L=T)(hs:i=r\/ar (L i) c=z0):ko m r c (n-(i+1)) (i+1) L=T:=by
 rw[jq hi]at h;unfold ko at h;rw[if_pos hs]at h;exact h
def GF (hi:i<n)(h:ko m r c (n-i) i L=T)(hs1:¬i=r)(hs2:¬ar (L i) c=z0)(hd:lX r i (ar (L i) c) (m-c) c L=some L1):ko m r c (n-(i+1)) (i+1) L1=T:=by
 rw[jq hi]at h;unfold ko at h;rw[if_neg (by rintro(h|h) <;>contradiction),hd]at h;exact h
def wK (hi:i<n)(h:ko m r c (n-i) i L=T)(hs1:¬i=r)(hs2:¬ar (L i) c=z0)(hd:lX r i (ar (L i) c) (m-c) c L=none):T=none:=by
 rw[jq hi]at h;unfold ko at h;rw[if_neg (by rintro(h|h) <;>contradiction),hd]at h;exact h.symm
def JZ (hi:¬i<n)(h:ko m r c (n-i) i L=T):T=some L:=by
 rw[show n-i=0 by omega]at h;exact h.symm
def sG (h:L1=nF p r L):L1 r=L p:=by
 rw[h];unfold nF rK;split <;>simp_all
def Ot (hc:c<cols)(h:ik n m (cols-c) c ⟨L,piv,cs,sw⟩=E)(hp:iD c L (n-piv.length) piv.length=n):ik n m (cols-(c+1)) (c+1) ⟨L,piv,cs,sw⟩=E:=by
 rw[jq hc]at h;unfold ik pt at h;rw[if_pos hp]at h;exact h
def J0 (hc:c<cols)(h:ik n m (cols-c) c ⟨L,piv,cs,sw⟩=E)(hp:iD c L (n-piv.length) piv.length=p)(hpn:p<n)(hL1:L1=nF p piv.length L)(hd:mD piv.length (ar (L1 piv.length) c) (m-c) c L1=none):E=none:=by
 rw[jq hc]at h;unfold ik pt at h
 dsimp only at h
 rw[hp,if_neg U,<-hL1,<-sG hL1,hd]at h;exact h.symm
def Ak (hc:c<cols)(h:ik n m (cols-c) c ⟨L,piv,cs,sw⟩=E)(hp:iD c L (n-piv.length) piv.length=p)(hpn:p<n)(hL1:L1=nF p piv.length L)(hd:mD piv.length (ar (L1 piv.length) c) (m-c) c L1=some L2)(hcl:ko m piv.length c n 0 L2=none):E=none:=by
 rw[jq hc]at h;unfold ik pt at h
 dsimp only at h
 rw[hp,if_neg U,<-hL1,<-sG hL1,hd]at h
 dsimp only at h
 rw[hcl]at h;exact h.symm
def Ou (hc:c<cols)(h:ik n m (cols-c) c ⟨L,piv,cs,sw⟩=E)(hp:iD c L (n-piv.length) piv.length=p)(hpn:p<n)(hL1:L1=nF p piv.length L)(hsw:sw'=if p=piv.length then sw else sw+1)(hd:mD piv.length (ar (L1 piv.length) c) (m-c) c L1=some L2)(hcl:ko m piv.length c n 0 L2=some L3):
 ik n m (cols-(c+1)) (c+1) ⟨L3,piv++[ar (L1 piv.length) c],cs++[c],sw'⟩=E:=by
 rw[jq hc]at h;unfold ik pt at h
 dsimp only at h
 rw[hp,if_neg U,<-hL1,<-sG hL1,hd]at h
 dsimp only at h
 rw[hcl,<-hsw]at h;exact h
def T5 (hc:¬c<cols){s:El}(h:ik n m (cols-c) c s=E):E=some s:=by
 rw[show cols-c=0 by omega]at h;exact h.symm
end steps
def g36:prog.eqGuardType prog.depth 33=false:=by kernel_rfl
def Ze:prog.stoodInHeld 33=false:=by kernel_rfl
def EJ (w:World)(cs:Array Value)(i:Nat)(v:Value)(h:cs[i]?=some v):(part 9 cs i).run prog w=.ok v w:=by
 unfold part
 simp[isAgg,run_underlying underlying9,h]
def eq9 (w:World)(a b:List UInt8)(d:Nat):(Op.equalIn (d+1) 9 (S a) (S b)).run prog w=.ok (decide (a=b)) w:=by
 unfold Op.equalIn
 simp[run_underlying underlying9,S]
 have h:∀x y:ByteArray,(x==y)=(x.data==y.data):=λx y=>by cases x;cases y;rfl
 rw[h]
 exact Bool.eq_iff_iff.2 Wf
def Xi (w:World)(a b:R):(Op.equal 33 (.agg #[S a.1,S a.2]) (.agg #[S b.1,S b.2])).run prog w=.ok (decide (a=b)) w:=by
 unfold Op.equal Op.maxDepth
 show(Op.equalIn (9998+1+1) 33 _ _).run _ _=_
 unfold Op.equalIn
 obtain⟨a1,G⟩:=a
 obtain⟨b1,b2⟩:=b
 have A0:=EJ w #[S a1,S G] 0 (S a1) Z
 have p2:=EJ w #[S a1,S G] 1 (S G) Z
 have p3:=EJ w #[S b1,S b2] 0 (S b1) Z
 have p4:=EJ w #[S b1,S b2] 1 (S b2) Z
 have O:=eq9 w a1 b1 9998
 have e2:=eq9 w G b2 9998
 simp[run_underlying underlying33,Ze,A0,p2,p3,p4,O,e2]
 by_cases h1:a1=b1 <;>by_cases h2:G=b2 <;>simp[h1,h2]
section
variable {r:Option Nat}{ds:List Deferred}{Q:Exit->Act->World->Prop}{K:Act->World->Prop}
variable {ty:Nat}{pos:String}{af:Array Edge}{g:Option (Nat×Bool)}{x y:Operand}{t':TypeId}
def EK {op:BinOp}(x y:Operand)(a b:Array Value):(eqGuard op 33 x y (.agg a) (.agg b)).run prog w=.ok () w:=by
 unfold eqGuard
 cases op <;>simp[g36]
def CO {a b:R}(hx:ev N e x=.agg #[S a.1,S a.2])(hy:ev N e y=.agg #[S b.1,S b.2])(hq:decide (a=b)=q)(hk:K (act N (upd e d (.bool q)) ds) w):
 Oper.wpIn (Fw r) n prog ⟨some d,.binOp .eql 33 x y t',ty,pos,af,g⟩ (act N e ds) w K Q:=
 dE hx hy (EK ..) (by subst hq;simp[binOp,Xi]) hk
def mE {a b:R}(hx:ev N e x=.agg #[S a.1,S a.2])(hy:ev N e y=.agg #[S b.1,S b.2])(hq:(!decide (a=b))=q)(hk:K (act N (upd e d (.bool q)) ds) w):
 Oper.wpIn (Fw r) n prog ⟨some d,.binOp .neq 33 x y t',ty,pos,af,g⟩ (act N e ds) w K Q:=
 dE hx hy (EK ..) (by subst hq;simp[binOp,Xi]) hk
end
def take_set {α:Type}(l:List α)(m i:Nat)(a:α)(h:i<m):(l.set i a).take m=(l.take m).set i a:=by
 rw[List.take_set]
def uv:∀(l:List R) (k:Nat) (q:R),((ag l).set (k*2) (S q.1)).set (k*2+1) (S q.2)=ag (l.set k q)
 |[],k,q=>by simp[ag]
 |a::t,0,q=>by simp[ag]
 | a::t,k+1,q=>by
   have ih:=uv t k q
   rw[show(k+1)*2=k*2+2 by omega,show k*2+2+1=k*2+1+2 by omega]
   simp only[ag,List.flatMap_cons,List.cons_append,List.nil_append,List.set_cons_succ]at ih ⊢
   rw[ih]
def J1 {l:List R}{q:R}(h:W.ownsRow lo t 2 v n (ag l))(hl:l.length=n)(hk:k<n):
 ∃cur,ap W (cV (sA v)) t cur/\gY (sA v)=0/\k*2+2<=cur.size/\v.ownBlock=some (cV (sA v))/\∀W',ap W' (cV (sA v)) t (putCells cur (k*2) [S q.1,S q.2])->W'.ownsRow lo t 2 v (l.set k q).length (ag (l.set k q)):=by
 obtain⟨h1,⟨rfl,A0⟩|⟨g,cap,cur,rfl,O,G,hc,hm,hs,ht⟩⟩:=h
 · omega
 · refine⟨cur,G,rfl,by omega,rfl,λW' hB=>?_⟩
   rw[List.length_set,hl]
   refine⟨by rw[fJ,List.length_set,hl],.inr ⟨g,cap,_,rfl,O,hB,hc,hm,?_,?_⟩⟩
   · simp[putCells,hs]
   · show((cur.setIfInBounds (k*2) (S q.1)).setIfInBounds (k*2+1) (S q.2)).toList.take (n*2)=_
     rw[Array.toList_setIfInBounds,Array.toList_setIfInBounds,List.take_set,List.take_set,ht,uv]
section
variable {r:Option Nat}{ds:List Deferred}{Q:Exit->Act->World->Prop}{K:Act->World->Prop}
variable {ty:Nat}{pos:String}{af:Array Edge}{g:Option (Nat×Bool)}{x y:Operand}
def uw {hi m:Nat}{L:Nat->List R}{q:R}(h:Wr w lo hi m H L)(hi':i<m)(hk:k<(L i).length)(hs:(prog.info? t).map (·.size)=some 2)(hx:ev N e x=.pointer (some ⟨cV (sA (H i)),gY (sA (H i))+k*2,none⟩))(hy:ev N e y=.agg #[S q.1,S q.2])(hK:∀w',eE w w' (cV (sA (H i)))->lo<=cV (sA (H i))->cV (sA (H i))<hi->(H i).ownBlock=some (cV (sA (H i)))->Wr w' lo hi m H (bT L i ((L i).set k q))->K (act N e ds) w'):
 Oper.wpIn (Fw r) n prog ⟨none,.store t x y,ty,pos,af,g⟩ (act N e ds) w K Q:=by
 obtain⟨Ab,hB,Am,Ao,G,Af⟩:=J1 (q:=q) (h.own i hi') Z hk
 rw[Am,Nat.zero_add]at hx
 refine bF (vs:=[S q.1,S q.2]) (cs:=Ab) hs hx hy (by simp[S,Value.oneCell']) hB Ao (λw' O hB'=>hK w' O (aU (h.own i hi') _ G) (h.hi i hi' _ G) G ?_)
 refine⟨λj A0=>?_,h.hi,h.ne⟩
 by_cases hji:j=i
 · subst hji;rw[bg];exact Af w' hB'
 · rw[bh _ _ hji]
   exact ax O (λe=>h.ne i j hi' A0 (Ne.symm hji) _ G e) (h.own j A0)
end
def Ho (W:World)(A:Option Addr)(n:Nat)(H:Nat->Value):Prop:=∃g cur,A=some ⟨g,0,none⟩/\ap W g 28 cur/\n<=cur.size/\∀i,i<n->cur[i]?=some (H i)
section
variable {W':World}
def Ho.ext (k:aO W W')(h:Ho W A n H):Ho W' A n H:=by
 obtain⟨g,G,h1,h2,h3⟩:=h;exact⟨g,G,h1,h2.ext k,h3⟩
def ac0:=@Ho.ext
def Ho.put {b:Nat}(k:eE W W' b)(hb:cV A≠b)(h:Ho W A n H):Ho W' A n H:=by
 obtain⟨g,G,rfl,h2,h3⟩:=h;exact⟨g,G,rfl,ab0 k hb h2,h3⟩
def Ho.gr {row:Option Nat}(k:W.grownBy W' row)(hb:some (cV A)≠row)(h:Ho W A n H):Ho W' A n H:=by
 obtain⟨g,G,rfl,h2,h3⟩:=h;exact⟨g,G,rfl,aa3 k hb h2,h3⟩
def Ho.cell (h:Ho W A n H)(hi:i<n):A=some ⟨cV A,gY A,none⟩/\W.cell? ⟨cV A,gY A+i,none⟩=some (H i):=by
 obtain⟨g,G,rfl,h2,_,h4⟩:=h
 exact⟨rfl,h2.cell (by show G[0+i]?=_;rw[Nat.zero_add];exact h4 i hi)⟩
def Ho.rw (h:Ho W A n H)(hl:lo<=cV A):Rw W lo A ((List.range n).map H):=by
 obtain⟨g,_,rfl,h2,_,h4⟩:=h
 refine⟨λj u hu=>⟨g,0,rfl,?_⟩,λO e=>by cases e;exact hl,λO e=>by cases e;exact h2.lt⟩
 have G:j<n:=by have:=(List.getElem?_eq_some_iff.1 hu).1;simpa using this
 rw[Nat.zero_add]
 refine h2.cell ?_
 rw[h4 j G]
 rw[List.getElem?_map,List.getElem?_range G]at hu
 simpa using hu
def Ho.of_own (h:W.ownsRow lo 28 1 v n ((List.range n).map H))(hn:0<n):Ho W (sA v) n H/\lo<=cV (sA v)/\v.ownBlock=some (cV (sA v)):=by
 obtain⟨h1,⟨rfl,Ab⟩|⟨g,cap,G,rfl,A0,O,hc,hm,hs,ht⟩⟩:=h
 · omega
 · refine⟨⟨g,G,rfl,O,by omega,λi hi=>?_⟩,A0,rfl⟩
   have h2:(G.toList.take (n*1))[i]?=((List.range n).map H)[i]?:=by rw[ht]
   rw[List.getElem?_take,if_pos U,List.getElem?_map,List.getElem?_range hi]at h2
   simpa using h2
def Ho.congr (h:Ho W A n H)(hL:∀i,i<n->H i=H' i):Ho W A n H':=by
 obtain⟨g,G,h1,h2,h3,h4⟩:=h
 exact⟨g,G,h1,h2,h3,λi hi=>by rw[<-hL i hi];exact h4 i hi⟩
end
section
variable {r:Option Nat}{ds:List Deferred}{Q:Exit->Act->World->Prop}{K:Act->World->Prop}
variable {ty:Nat}{pos:String}{af:Array Edge}{g:Option (Nat×Bool)}{x y:Operand}
def kL {m:Nat}(h:Ho w A m H)(hi:i<m)(hs:(prog.info? t).map (·.size)=some 1)(hx:ev N e x=.pointer (some ⟨cV A,gY A+i,none⟩))(hy:ev N e y=v)(h1:v.oneCell'=true)(hK:∀w',eE w w' (cV A)->Ho w' A m (bT H i v)->K (act N e ds) w'):Oper.wpIn (Fw r) n prog ⟨none,.store t x y,ty,pos,af,g⟩ (act N e ds) w K Q:=by
 obtain⟨G,O,rfl,h2,h3,h4⟩:=h
 have hx':ev N e x=.pointer (some ⟨G,i,none⟩):=by rw[hx];simp[cV,gY]
 refine cC (cs:=O) hs hx' hy h1 h2 U (λw' A0 hB=>hK w' A0 ⟨G,_,rfl,hB,by rw[Array.size_setIfInBounds];exact h3,λj Ab=>?_⟩)
 by_cases hji:j=i
 · subst hji;rw[bg,Array.getElem?_setIfInBounds,if_pos Z,if_pos U]
 · rw[bh _ _ hji,Array.getElem?_setIfInBounds,if_neg (Ne.symm hji)];exact h4 j Ab
end
def jO (f:Nat->Value)(h1:v.oneCell'=true):Instr.fill (λi=>some (i*1,1)) ((Array.range 1).map f) [(0,v)]=some #[v]:=by
 have hc:v.cells=#[v]:=by cases v <;>first|rfl|(simp[Value.oneCell']at h1;done)
 have hr:(Array.range 1).map f=#[f 0]:=by apply Array.ext';simp[Array.range]
 unfold Instr.fill
 rw[hr,hc]
 simp[Instr.fill]
end
section
set_option maxRecDepth 100000
open Go Go.Eng Go.RowKit Tryz
attribute [local irreducible] wpListIn Code.wpIn Oper.wpIn Exit.then Exit.inBlock Exit.noGoto
set_option maxHeartbeats 40000000
abbrev PN:List PanicEntry:=pan 36 130
def CP (a:R):Prop:=a.1.length<=1000000/\a.2.length<=1000000
def sH {a:R}(h:bJ a=true):CP a:=Oo h
def Rh (a b:R)(w:World)(ht:Tb w):CL 312 #[.agg #[S a.1,S a.2],.agg #[S b.1,S b.2]] w (aG w λv _=>v=gO (jJ a b)):=Ob a.1 a.2 b.1 b.2 w ht
def J2 (a b:R)(w:World)(ht:Tb w):CL 117 #[.agg #[S a.1,S a.2],.agg #[S b.1,S b.2]] w (aG w λv _=>v=gO (dn a b)):=Ez a.1 a.2 b.1 b.2 w ht
def Ri (a b:R)(w:World)(ht:Tb w):CL 13 #[.agg #[S a.1,S a.2],.agg #[S b.1,S b.2]] w (aG w λv _=>v=gO (qr a b)):=N7 a.1 a.2 b.1 b.2 w ht
def Rj (a b:R)(w:World)(ht:Tb w):CL 15 #[.agg #[S a.1,S a.2],.agg #[S b.1,S b.2]] w (aG w λv _=>v=gO (mB a b)):=N8 a.1 a.2 b.1 b.2 w ht
def lA (a:R)(c:Int)(w:World)(h:c=0):
 CL 311 #[.agg #[S ((a).1),S ((a).2)],.int .i64 c] w (aG w λv w'=>v=.agg #[S a.1,S a.2]):=by
 refine aC func311 Z (I ?_);refine bx (λA0 Ab G=>?_);have E4:=Ab.2;refine al aS (λ_ Ao Af=>?_);have⟨G,E4⟩:=bn Ao.2 G E4;refine I ?_;refine SA Af (λ_ O Am=>?_);have G:=pb O G;have E4:=bi O E4;refine I ?_;refine aX (v:=.agg #[S ((a).1),S ((a).2)]) (bY  rfl ?_) E4 Z;refine ak (t:=4) (cs:=[S ((a).1),S ((a).2)]) (b:=A0.heap.size) (o:=0) iK Z bX ?_ ?_;exact Z;exact aa0 Am (i:=0) Z
def j9 (a:R)(c:Int)(w:World)(h:¬c=0):CL 311 #[.agg #[S a.1,S a.2],.int .i64 c] w (fe PN w):=by
 refine ia func311 Z (I ?_);refine bx (λ_ O _=>?_);have E14:=O.2;refine al aS (λ_ G _=>?_);have E14:=xt E14 G.2;refine I ?_;refine aa (gU (v:=.int .i64 130) y5 Z Z ?_);refine aa (D9 (ty':=36) (u:=.int .i64 130) Z ?_);refine I ?_;exact gg ⟨E14,rfl⟩
def kM : ei prog 106 "yardstick/linear.zero" 134 := kD q0
def EL : ei prog 106 "yardstick/linear.one" 309 := kD q0
def yc : ei prog 106 "yardstick/linear.add" 306 := kD q0
def pw : ei prog 106 "yardstick/linear.sub" 310 := kD q0
def ka : ei prog 106 "yardstick/linear.mul" 308 := kD q0
def yd : ei prog 106 "yardstick/linear.div" 307 := kD q0
def lB (w:World):
 CL 134 #[.agg #[]] w (aG w λv w'=>v=.agg #[S z0.1,S z0.2]):=by
 refine aC func134 Z (I ?_);refine bx (λAo Ab G=>?_);have E21:=Ab.2;refine al aS (λ_ Af Am=>?_);have⟨G,E21⟩:=bn Af.2 G E21;refine I ?_;refine SA Am (λ_ O A0=>?_);have G:=pb O G;have E21:=bi O E21;refine I ?_;refine aX (v:=.agg #[S [48],S [49]]) (bY  rfl ?_) E21 Z;refine ak (t:=2) (cs:=[S [48],S [49]]) (b:=Ao.heap.size) (o:=0) iK Z bX ?_ ?_;exact Z;exact aa0 A0 (i:=0) Z
def J3 (w:World):
 CL 309 #[.agg #[]] w (aG w λv w'=>v=.agg #[S o1.1,S o1.2]):=by
 refine aC func309 Z (I ?_);refine bx (λA0 Ab G=>?_);have E31:=Ab.2;refine al aS (λ_ Am Ao=>?_);have⟨G,E31⟩:=bn Am.2 G E31;refine I ?_;refine SA Ao (λ_ O Af=>?_);have G:=pb O G;have E31:=bi O E31;refine I ?_;refine aX (v:=.agg #[S [49],S [49]]) (bY  rfl ?_) E31 Z;refine ak (t:=2) (cs:=[S [49],S [49]]) (b:=A0.heap.size) (o:=0) iK Z bX ?_ ?_;exact Z;exact aa0 Af (i:=0) Z
def GG (a b q:R)(w:World)(ht:Tb w)(hT:jJ a b=some q):CL 306 #[.agg #[],.agg #[S ((a).1),S ((a).2)],.agg #[S ((b).1),S ((b).2)]] w (aG w λv w'=>v=.agg #[S q.1,S q.2]):=by
 refine aC func306 Z (I ?_);refine bx (λAy Aq G=>?_);have E41:=Aq.2;refine bx (λC1 Aw O=>?_);have⟨G,E41⟩:=bn Aw.2 G E41;refine bx (λAs Av A0=>?_);have⟨G,O,E41⟩:=cj Av.2 G O E41;refine al aS (λAx Ap Ab=>?_);have⟨G,O,A0,E41⟩:=fo Ap.2 G O A0 E41;refine I ?_;refine cl QG (Rh a b _ (ht.ext E41)) ?_;rintro B1 CG Ar hv;have⟨G,O,A0,Ab,E41⟩:=ku Ar.2 G O A0 Ab E41;rw[hT]at hv;subst hv;refine I ?_;refine cl q7 (lA q 0 _ Z) ?_;rintro B2 CB Ao rfl;have⟨G,O,A0,Ab,E41⟩:=ku Ao.2 G O A0 Ab E41;refine SA Ab (λAz Af Am=>?_);have⟨G,O,A0⟩:=p0 Af G O A0;have E41:=bi Af E41;refine I ?_;refine aX (v:=.agg #[S ((q).1),S ((q).2)]) (bY  rfl ?_) E41 Z;refine ak (t:=6) (cs:=[S ((q).1),S ((q).2)]) (b:=As.heap.size) (o:=0) iK Z bX ?_ ?_;exact Z;exact aa0 Am (i:=0) Z
def CQ (a b:R)(w:World)(ht:Tb w)(hT:jJ a b=none):CL 306 #[.agg #[],.agg #[S ((a).1),S ((a).2)],.agg #[S ((b).1),S ((b).2)]] w (fe PN w):=by
 refine ia func306 Z (I ?_);refine bx (λ_ Ap _=>?_);have E63:=Ap.2;refine bx (λ_ Af G=>?_);have E63:=xt E63 Af.2;refine bx (λ_ A0 O=>?_);have⟨G,E63⟩:=bn A0.2 G E63;refine al aS (λ_ Ao _=>?_);have⟨G,O,E63⟩:=cj Ao.2 G O E63;refine I ?_;refine cl QG (Rh a b _ (ht.ext E63)) ?_;rintro _ _ Am hv;have E63:=xt E63 Am.2;rw[hT]at hv;subst hv;refine I ?_;refine aa (dr (vs:=[.agg #[S [],S []],.int .i64 40]) q7 Z (j9 ([],[]) 40 _ dc) (λ_ Ab=>?_));have E63:=xt E63 Ab;refine I ?_;exact gg ⟨E63,rfl⟩
def J4 (a b:R)(w:World)(ht:Tb w):CL 306 #[.agg #[],.agg #[S ((a).1),S ((a).2)],.agg #[S ((b).1),S ((b).2)]] w (it PN w (jJ a b) λq v _=>v=.agg #[S q.1,S q.2]):=
 it.of (λq h=>GG a b q w ht h) (λh=>CQ a b w ht h)
def GH (a b q:R)(w:World)(ht:Tb w)(hT:dn a b=some q):CL 310 #[.agg #[],.agg #[S ((a).1),S ((a).2)],.agg #[S ((b).1),S ((b).2)]] w (aG w λv w'=>v=.agg #[S q.1,S q.2]):=by
 refine aC func310 Z (I ?_);refine bx (λAz Ao G=>?_);have E81:=Ao.2;refine bx (λC1 Am O=>?_);have⟨G,E81⟩:=bn Am.2 G E81;refine bx (λAs Ap A0=>?_);have⟨G,O,E81⟩:=cj Ap.2 G O E81;refine al aS (λAy Ar Ab=>?_);have⟨G,O,A0,E81⟩:=fo Ar.2 G O A0 E81;refine I ?_;refine cl DV (J2 a b _ (ht.ext E81)) ?_;rintro CG B1 Aw hv;have⟨G,O,A0,Ab,E81⟩:=ku Aw.2 G O A0 Ab E81;rw[hT]at hv;subst hv;refine I ?_;refine cl q7 (lA q 0 _ Z) ?_;rintro CB B2 Av rfl;have⟨G,O,A0,Ab,E81⟩:=ku Av.2 G O A0 Ab E81;refine SA Ab (λAx Af Aq=>?_);have⟨G,O,A0⟩:=p0 Af G O A0;have E81:=bi Af E81;refine I ?_;refine aX (v:=.agg #[S ((q).1),S ((q).2)]) (bY  rfl ?_) E81 Z;refine ak (t:=6) (cs:=[S ((q).1),S ((q).2)]) (b:=As.heap.size) (o:=0) iK Z bX ?_ ?_;exact Z;exact aa0 Aq (i:=0) Z
def CS (a b:R)(w:World)(ht:Tb w)(hT:dn a b=none):CL 310 #[.agg #[],.agg #[S ((a).1),S ((a).2)],.agg #[S ((b).1),S ((b).2)]] w (fe PN w):=by
 refine ia func310 Z (I ?_);refine bx (λ_ Ap _=>?_);have G:=Ap.2;refine bx (λ_ Af O=>?_);have G:=xt G Af.2;refine bx (λ_ Am A0=>?_);have⟨O,G⟩:=bn Am.2 O G;refine al aS (λ_ Ao _=>?_);have⟨O,A0,G⟩:=cj Ao.2 O A0 G;refine I ?_;refine cl DV (J2 a b _ (ht.ext G)) ?_;rintro _ _ Ab hv;have G:=xt G Ab.2;rw[hT]at hv;subst hv;refine I ?_;refine aa (dr (vs:=[.agg #[S [],S []],.int .i64 40]) q7 Z (j9 ([],[]) 40 _ dc) (λ_ Aq=>?_));have G:=xt G Aq;refine I ?_;exact gg ⟨G,rfl⟩
def CU (a b:R)(w:World)(ht:Tb w):CL 310 #[.agg #[],.agg #[S ((a).1),S ((a).2)],.agg #[S ((b).1),S ((b).2)]] w (it PN w (dn a b) λq v _=>v=.agg #[S q.1,S q.2]):=
 it.of (λq h=>GH a b q w ht h) (λh=>CS a b w ht h)
def GI (a b q:R)(w:World)(ht:Tb w)(hT:qr a b=some q):CL 308 #[.agg #[],.agg #[S ((a).1),S ((a).2)],.agg #[S ((b).1),S ((b).2)]] w (aG w λv w'=>v=.agg #[S q.1,S q.2]):=by
 refine aC func308 Z (I ?_);refine bx (λAz Aq O=>?_);have G:=Aq.2;refine bx (λB2 Aw A0=>?_);have⟨O,G⟩:=bn Aw.2 O G;refine bx (λAo Ar Ab=>?_);have⟨O,A0,G⟩:=cj Ar.2 O A0 G;refine al aS (λAy As Af=>?_);have⟨O,A0,Ab,G⟩:=fo As.2 O A0 Ab G;refine I ?_;refine cl QI (Ri a b _ (ht.ext G)) ?_;rintro Ax B1 Ap hv;have⟨O,A0,Ab,Af,G⟩:=ku Ap.2 O A0 Ab Af G;rw[hT]at hv;subst hv;refine I ?_;refine cl q7 (lA q 0 _ Z) ?_;rintro C1 ny Av rfl;have⟨O,A0,Ab,Af,G⟩:=ku Av.2 O A0 Ab Af G;refine SA Af (λod Am nm=>?_);have⟨O,A0,Ab⟩:=p0 Am O A0 Ab;have G:=bi Am G;refine I ?_;refine aX (v:=.agg #[S ((q).1),S ((q).2)]) (bY  rfl ?_) G Z;refine ak (t:=6) (cs:=[S ((q).1),S ((q).2)]) (b:=Ao.heap.size) (o:=0) iK Z bX ?_ ?_;exact Z;exact aa0 nm (i:=0) Z
def CV (a b:R)(w:World)(ht:Tb w)(hT:qr a b=none):CL 308 #[.agg #[],.agg #[S ((a).1),S ((a).2)],.agg #[S ((b).1),S ((b).2)]] w (fe PN w):=by
 refine ia func308 Z (I ?_);refine bx (λ_ Ap _=>?_);have G:=Ap.2;refine bx (λ_ Af O=>?_);have G:=xt G Af.2;refine bx (λ_ Am A0=>?_);have⟨O,G⟩:=bn Am.2 O G;refine al aS (λ_ Ao _=>?_);have⟨O,A0,G⟩:=cj Ao.2 O A0 G;refine I ?_;refine cl QI (Ri a b _ (ht.ext G)) ?_;rintro _ _ Ab hv;have G:=xt G Ab.2;rw[hT]at hv;subst hv;refine I ?_;refine aa (dr (vs:=[.agg #[S [],S []],.int .i64 40]) q7 Z (j9 ([],[]) 40 _ dc) (λ_ Aq=>?_));have G:=xt G Aq;refine I ?_;exact gg ⟨G,rfl⟩
def qL (a b:R)(w:World)(ht:Tb w):CL 308 #[.agg #[],.agg #[S ((a).1),S ((a).2)],.agg #[S ((b).1),S ((b).2)]] w (it PN w (qr a b) λq v _=>v=.agg #[S q.1,S q.2]):=
 it.of (λq h=>GI a b q w ht h) (λh=>CV a b w ht h)
def GJ (a b q:R)(w:World)(ht:Tb w)(hT:mB a b=some q):CL 307 #[.agg #[],.agg #[S ((a).1),S ((a).2)],.agg #[S ((b).1),S ((b).2)]] w (aG w λv w'=>v=.agg #[S q.1,S q.2]):=by
 refine aC func307 Z (I ?_);refine bx (λAz Aq O=>?_);have G:=Aq.2;refine bx (λB2 Aw A0=>?_);have⟨O,G⟩:=bn Aw.2 O G;refine bx (λAo Ar Ab=>?_);have⟨O,A0,G⟩:=cj Ar.2 O A0 G;refine al aS (λAy As Af=>?_);have⟨O,A0,Ab,G⟩:=fo As.2 O A0 Ab G;refine I ?_;refine cl QH (Rj a b _ (ht.ext G)) ?_;rintro Ax B1 Ap hv;have⟨O,A0,Ab,Af,G⟩:=ku Ap.2 O A0 Ab Af G;rw[hT]at hv;subst hv;refine I ?_;refine cl q7 (lA q 0 _ Z) ?_;rintro C1 ny Av rfl;have⟨O,A0,Ab,Af,G⟩:=ku Av.2 O A0 Ab Af G;refine SA Af (λod Am nm=>?_);have⟨O,A0,Ab⟩:=p0 Am O A0 Ab;have G:=bi Am G;refine I ?_;refine aX (v:=.agg #[S ((q).1),S ((q).2)]) (bY  rfl ?_) G Z;refine ak (t:=6) (cs:=[S ((q).1),S ((q).2)]) (b:=Ao.heap.size) (o:=0) iK Z bX ?_ ?_;exact Z;exact aa0 nm (i:=0) Z
def CW (a b:R)(w:World)(ht:Tb w)(hT:mB a b=none):CL 307 #[.agg #[],.agg #[S ((a).1),S ((a).2)],.agg #[S ((b).1),S ((b).2)]] w (fe PN w):=by
 refine ia func307 Z (I ?_);refine bx (λ_ Ap _=>?_);have G:=Ap.2;refine bx (λ_ Af O=>?_);have G:=xt G Af.2;refine bx (λ_ Am A0=>?_);have⟨O,G⟩:=bn Am.2 O G;refine al aS (λ_ Ao _=>?_);have⟨O,A0,G⟩:=cj Ao.2 O A0 G;refine I ?_;refine cl QH (Rj a b _ (ht.ext G)) ?_;rintro _ _ Ab hv;have G:=xt G Ab.2;rw[hT]at hv;subst hv;refine I ?_;refine aa (dr (vs:=[.agg #[S [],S []],.int .i64 40]) q7 Z (j9 ([],[]) 40 _ dc) (λ_ Aq=>?_));have G:=xt G Aq;refine I ?_;exact gg ⟨G,rfl⟩
def J5 (a b:R)(w:World)(ht:Tb w):CL 307 #[.agg #[],.agg #[S ((a).1),S ((a).2)],.agg #[S ((b).1),S ((b).2)]] w (it PN w (mB a b) λq v _=>v=.agg #[S q.1,S q.2]):=
 it.of (λq h=>GJ a b q w ht h) (λh=>CW a b w ht h)
def CZ (w:World):
 CL 81 #[] w (aG w λv w'=>v=.agg #[S z0.1,S z0.2]):=by
 refine aC func81 Z (I ?_);refine al aS (λ_ Ab A0=>?_);have G:=Ab.2;refine I ?_;refine SA A0 (λ_ O Af=>?_);have G:=bi O G;refine I ?_;refine aX (v:=.agg #[S [48],S [49]]) (bY  rfl ?_) G Z;refine ak (t:=0) (cs:=[S [48],S [49]]) (b:=w.heap.size) (o:=0) iK Z bX ?_ ?_;exact Z;exact aa0 Af (i:=0) Z
def GK (w:World):
 CL 128 #[] w (aG w λv w'=>v=.agg #[S o1.1,S o1.2]):=by
 refine aC func128 Z (I ?_);refine al aS (λ_ Ab A0=>?_);have G:=Ab.2;refine I ?_;refine SA A0 (λ_ O Af=>?_);have G:=bi O G;refine I ?_;refine aX (v:=.agg #[S [49],S [49]]) (bY  rfl ?_) G Z;refine ak (t:=0) (cs:=[S [49],S [49]]) (b:=w.heap.size) (o:=0) iK Z bX ?_ ?_;exact Z;exact aa0 Af (i:=0) Z
end
section
set_option maxRecDepth 100000
open Go Go.Eng Go.RowKit Tryz
def rM {c:Code}{args:Array Value}{u:FrameMode}{R:Ending->FrameMode->World->Prop}(hf:P.funcs[f]?=some fn)(hb:fn.body=some c)(h:∀(c₀:Frame) (cs:List Frame),c₀.mode=u->
 c.wpS P (bodyPostS P fn c₀ cs R) {tmps:=args++Array.replicate (fn.ntmps-args.size) undef,defers:=[]} (c₀::cs) w):
 CallsDIn Fence.wide n P f args u w R:=by
 refine⟨trivial,λc₀ cs hu _=>?_⟩
 let b:Frame:={(default:Frame)with fn:=f,kind:=.deferred}
 have henter:Frame.enter P f args .deferred=
  b.at {tmps:=args++Array.replicate (fn.ntmps-args.size) undef,defers:=[]} [.code c]:=by
  simp[Frame.enter,Frame.at,hf,hb,b]
 obtain⟨e,_,_,w',hq,O⟩:=h c₀ cs hu b [] Z Z
 rw[<-henter]at O
 cases e with
 | normal=>
   obtain⟨hd,G,rfl,v,hr,hR⟩:=hq
   exact⟨.returned v,G,w',_,hR,comesIn_wide.2 (Steps.trans O (.one step_end)),rfl,rfl,rfl,hd,fn,hf,hr⟩
 | ret=>
   obtain⟨hd,G,rfl,v,hr,hR⟩:=hq
   obtain⟨A0,hs⟩:=O
   exact⟨.returned v,G,w',_,hR,comesIn_wide.2 hs,rfl,rfl,rfl,hd,fn,hf,hr⟩
 | panic chain=>
   obtain⟨hd,G,rfl,hR⟩:=hq
   obtain⟨A0,hs⟩:=O
   exact⟨.panicked chain,G,w',_,hR,comesIn_wide.2 hs,rfl,rfl,rfl,hd,fn,hf⟩
 |exit id=>exact hq.elim
 |goto l=>exact hq.elim
 | outgrown=>
   obtain⟨G,hR⟩:=hq
   exact⟨.outgrown,G,w',b,hR,O.resolve_left (by simp[b]),rfl,rfl,trivial⟩
section
variable {r:Option Nat}{ds:List Deferred}{Q:Exit->Act->World->Prop}{K:Act->World->Prop}
variable {ty:Nat}{pos:String}{af:Array Edge}{g:Option (Nat×Bool)}{x y:Operand}{t':TypeId}
def Ov {ms:Array (String×TypeId)}(hu:P.underlying t=some (.interface ms))(hx:ev N e x=.nilIface)(hy:y=.const .nilIface)(hk:K (act N (upd e d (.bool true)) ds) w):
 Oper.wpIn (Fw r) n P ⟨some d,.binOp .eql t x y t',ty,pos,af,g⟩ (act N e ds) w K Q:=by
 subst hy
 refine dE (X:=.nilIface) (Y:=.nilIface) hx Z ?_ ?_ hk
 · unfold eqGuard;simp
 · have:(Op.equal t .nilIface .nilIface).run P w=.ok true w:=by
    unfold Op.equal Op.maxDepth
    show(Op.equalIn (9999+1) t _ _).run _ _=_
    unfold Op.equalIn
    simp[run_underlying hu]
   simp[binOp,this]
def Ow {ms:Array (String×TypeId)}(hu:P.underlying t=some (.interface ms))(hx:ev N e x=.iface ty' u)(hy:y=.const .nilIface)(hk:K (act N (upd e d (.bool false)) ds) w):
 Oper.wpIn (Fw r) n P ⟨some d,.binOp .eql t x y t',ty,pos,af,g⟩ (act N e ds) w K Q:=by
 subst hy
 refine dE (X:=.iface ty' u) (Y:=.nilIface) hx Z ?_ ?_ hk
 · unfold eqGuard;simp
 · have:(Op.equal t (.iface ty' u) .nilIface).run P w=.ok false w:=by
    unfold Op.equal Op.maxDepth
    show(Op.equalIn (9999+1) t _ _).run _ _=_
    unfold Op.equalIn
    simp[run_underlying hu]
   simp[binOp,this]
def GL {a:TypeId}{D:TypeDesc}(hu:P.underlying a=some D)(hd:zq D=true)(hx:ev N e x=.iface a u)(hk:K (act N (upd e d (.tuple #[u,.bool true])) ds) w):
 Oper.wpIn (Fw r) n P ⟨some d,.typeAssert x t a true,ty,pos,af,g⟩ (act N e ds) w K Q:=by
 refine cG (v:=.tuple #[u,.bool true]) (w':=w) Z ?_ MT
 have:(Instr.typeAssert (.iface a u) t a true).run P w=.ok (.tuple #[u,.bool true]) w:=by
  unfold Instr.typeAssert
  cases D <;>first|(cases hd;done)|simp[run_underlying hu]
 simp[execOp,hx,this]
def px {xs:Array Operand}(hv:xs.toList.map (ev N e)=vs)(hk:K (act N e ({target:=.fn (.func f) #[],args:=vs.toArray}::ds)) w):
 Oper.wpIn (Fw none) n P ⟨none,.defer {callee:=.value (.func f),args:=xs,argTypes:=ats},ty,pos,af,g⟩ (act N e ds) w K Q:=by
 subst hv
 refine⟨λf _=>kw none f,?_⟩
 rw[s5,Oper.semAt_none,cM]
 have:(execOp (ev N e) (⟨none,.defer {callee:=.value (.func f),args:=xs,argTypes:=ats},ty,pos,af,g⟩:Oper)).run P w=.ok (.defer {target:=.fn (.func f) #[],args:=(xs.toList.map (ev N e)).toArray}) w:=by
  rw[show(xs.toList.map (ev N e)).toArray=xs.map (ev N e)by rw[<-Array.toList_map,Array.toArray_toList]]
  simp[execOp,resolve,Deferred.ofValue,ev]
 rw[this]
 exact hk
end
abbrev cell1 (c:Int):Array Value:=#[.int .i64 c]
section
variable {id ty:Nat}{pos:String}{af:Array Edge}{cs cs':List Frame}{Q:Exit->Act->List Frame->World->Prop}
def GM (hr:recoverD cs=some (v,cs'))(h:Q .normal (act N (upd e d v) []) cs' w):
 (Code.region id #[⟨some d,.call {callee:=.builtin .recover,args:=#[],argTypes:=ats},ty,pos,af,none⟩] false).wpS P Q (act N e []) cs w:=by
 refine wpS_region ?_
 show wpOpsS P _ Q [0] _ _ _
 have hx:(execOp (act N e []).eval ⟨some d,.call {callee:=.builtin .recover,args:=#[],argTypes:=ats},ty,pos,af,none⟩).run P w=.ok .recover w:=by
  simp[execOp,resolve,invoke,builtin]
 simp only[wpOpsS,List.getElem?_toArray,List.getElem?_cons_zero,Region.wanted,if_true,hx,hr]
 rw[aw]
 exact h
def C2 (hr:recoverD cs=none)(h:Q .normal (act N (upd e d .nilIface) []) cs w):
 (Code.region id #[⟨some d,.call {callee:=.builtin .recover,args:=#[],argTypes:=ats},ty,pos,af,none⟩] false).wpS P Q (act N e []) cs w:=by
 refine wpS_region ?_
 show wpOpsS P _ Q [0] _ _ _
 have hx:(execOp (act N e []).eval ⟨some d,.call {callee:=.builtin .recover,args:=#[],argTypes:=ats},ty,pos,af,none⟩).run P w=.ok .recover w:=by
  simp[execOp,resolve,invoke,builtin]
 simp only[wpOpsS,List.getElem?_toArray,List.getElem?_cons_zero,Region.wanted,if_true,hx,hr]
 rw[aw]
 exact h
end
def MY {c:Code}{u:FrameMode}{R:Ending->FrameMode->World->Prop}(hf:P.funcs[f]?=some fn)(hb:fn.body=some c)(h:∀(c₀:Frame) (cs:List Frame),c₀.mode=u->c.wpS P (bodyPostS P fn c₀ cs R) (act (args.length+(fn.ntmps-args.length)) (HY args) []) (c₀::cs) w):CallsDIn Fence.wide n P f args.toArray u w R:=by
 refine rM hf hb (λc₀ cs hu=>?_)
 rw[ju]
 exact h c₀ cs hu
def C3 {b:Nat}(hB:ap w b 36 (cell1 c0)):
 CallsDIn Fence.wide n prog 113 #[pT b] (.panicking [{v:=.iface 36 (.int .i64 c),recovered:=false}]) w
  (λe u' w'=>(∃v,e=.returned v)/\u'=.panicking [{v:=.iface 36 (.int .i64 c),recovered:=true}]/\eE w w' b/\ap w' b 36 (cell1 c)):=by
 refine MY (args:=[pT b]) func113 Z (λc₀ cs hu=>?_)
 refine wpS_seq (GM (v:=.iface 36 (.int .i64 c)) (cs':={c₀ with mode:=.panicking [{v:=.iface 36 (.int .i64 c),recovered:=true}]}::cs) DP ?_)
 refine wpS_of_wp (wpIn_wide (n:=0).1 ?_)
 refine oO (r:=none) ?_
 refine iS (r:=none) ?_
 refine hH (r:=none) ?_
 refine aa (r:=none) (Ow underlying20 Z Z ?_)
 refine ge ?_
 refine e9 ?_
 refine fh (r:=none) Z ?_
 refine iS (r:=none) ?_
 refine hH (r:=none) ?_
 refine aa (r:=none) (GL underlying36 Z Z ?_)
 refine aa (r:=none) (cN Z Z ?_)
 refine aa (r:=none) (cN Z Z ?_)
 refine ge ?_
 refine e9 ?_
 refine mf (r:=none) Z ?_
 refine iS (r:=none) ?_
 refine hH (r:=none) ?_
 refine aa (r:=none) (aK (v:=.int .i64 c) Z ?_)
 refine ge ?_
 refine e9 ?_
 refine hH (r:=none) ?_
 refine aa (r:=none) (aW (v:=pT b) Z ?_)
 refine aa (r:=none) (aW (v:=.int .i64 c) Z ?_)
 refine aa (r:=none) (tt (b:=b) (o:=0) Z ?_)
 refine aa (r:=none) (cC (b:=b) (o:=0) (v:=.int .i64 c) R2 Z Z Z hB Wf (λw' G hb=>?_))
 refine ge ?_
 refine HX ?_
 exact⟨rfl,_,rfl,_,nh Z,⟨_,rfl⟩,rfl,G,hb⟩
def C4 {b:Nat}:
 CallsDIn Fence.wide n prog 113 #[pT b] .returning w (λe u' w'=>(∃v,e=.returned v)/\u'=.returning/\w'=w):=by
 refine MY (args:=[pT b]) func113 Z (λ_ _ hu=>?_)
 refine wpS_seq (C2 DP ?_)
 refine wpS_of_wp (wpIn_wide (n:=0).1 ?_)
 refine oO (r:=none) ?_
 refine iS (r:=none) ?_
 refine hH (r:=none) ?_
 refine aa (r:=none) (Ov underlying20 Z Z ?_)
 refine ge ?_
 refine e9 ?_
 refine mf (r:=none) Z ?_
 refine hH (r:=none) ?_
 refine aa (r:=none) (aK (v:=.nilIface) Z ?_)
 refine ge ?_
 refine HX ?_
 exact⟨rfl,.returning,by rw[<-hu],_,nh Z,⟨_,rfl⟩,rfl,rfl⟩
abbrev dF (b:Nat):Deferred:={target:=.fn (.func 113) #[],args:=[Value.pointer (some ⟨b,0,none⟩)].toArray}
def lQ {c:Code}{R:Ending->World->Prop}(hf:P.funcs[f]?=some fn)(hb:fn.body=some c)(h:c.wpIn (Fw none) 0 P (bodyPostDIn Fence.wide 0 P fn R) (act (args.length+(fn.ntmps-args.length)) (HY args) []) w):Calls P f args.toArray w R:=by
 refine callsIn_wide.1 (callsIn_of_wp_defers (n:=0) hf hb trivial ?_)
 rw[ju]
 exact h
section
variable {b:Nat}{R:Value->World->Prop}
def EM (hx:aO w w')(hr:(results fn (act N e [dF b]).tmps).run prog w'=.ok v w')(hR:R v w'):bodyPostDIn Fence.wide 0 prog fn (aG w R) .ret (act N e [dF b]) w':=by
 refine leavesIn_cons (f:=113) (args:=#[pT b]) Wf kd1 ?_ (λ_ _=>trivial) ?_
 · have h:=VY #[pT b] w'
   simpa[invoke]using h
 · refine CallsDIn.mono C4 ?_
   rintro _ _ _ ⟨⟨v',rfl⟩,rfl,rfl⟩
   exact⟨v,hr,hx,hR⟩
def EN (hx:aO w w')(hb:w.heap.size<=b)(hB:ap w' b 36 (cell1 c0))(hr:∀w'',eE w' w'' b->ap w'' b 36 (cell1 c)->(results fn (act N e [dF b]).tmps).run prog w''=.ok v w''/\R v w''):
 bodyPostDIn Fence.wide 0 prog fn (aG w R) (.panic (pan 36 c)) (act N e [dF b]) w':=by
 refine leavesIn_cons (f:=113) (args:=#[pT b]) Wf kd1 ?_ (λ_ _=>trivial) ?_
 · have h:=VY #[pT b] w'
   simpa[invoke]using h
 · refine CallsDIn.mono (C3 hB) ?_
   rintro _ _ w'' ⟨⟨v',rfl⟩,rfl,G,hB'⟩
   obtain⟨h1,h2⟩:=hr w'' G hB'
   exact⟨v,h1,ad1 G hx hb,h2⟩
end
section
variable {r:Option Nat}{ds:List Deferred}{Q:Exit->Act->World->Prop}{K:Act->World->Prop}
variable {ty:Nat}{pos:String}{af:Array Edge}{g:Option (Nat×Bool)}{x y:Operand}{t':TypeId}
def i8 (hx:ev N e x=.func (.func f) #[] lb.toArray)(hk:K (act N e ({target:=.fn (.func f) lb.toArray,args:=#[]}::ds)) w):
 Oper.wpIn (Fw none) n P ⟨none,.defer {callee:=.value x,args:=#[],argTypes:=ats},ty,pos,af,g⟩ (act N e ds) w K Q:=by
 refine⟨λf _=>kw none f,?_⟩
 rw[s5,Oper.semAt_none,cM]
 have:(execOp (ev N e) (⟨none,.defer {callee:=.value x,args:=#[],argTypes:=ats},ty,pos,af,g⟩:Oper)).run P w=.ok (.defer {target:=.fn (.func f) lb.toArray,args:=#[]}) w:=by
  simp[execOp,resolve,Deferred.ofValue,hx]
 rw[this]
 exact hk
end
section
variable {id ty:Nat}{pos:String}{af:Array Edge}{cs:List Frame}{Q:Exit->Act->List Frame->World->Prop}{ops:Array Oper}{rest:List Nat}{op:Op}{dst:Option Tmp}
def T6 (hn:List.range ops.size=0::rest)(h0:ops[0]?=some ⟨some d,.call {callee:=.builtin .recover,args:=#[],argTypes:=ats},ty,pos,af,none⟩)(hr:recoverD cs=none)(h:wpOpsS P ops Q rest (act N (upd e d .nilIface) []) cs w):
 (Code.region id ops false).wpS P Q (act N e []) cs w:=by
 refine wpS_region ?_
 rw[hn]
 have hx:(execOp (act N e []).eval ⟨some d,.call {callee:=.builtin .recover,args:=#[],argTypes:=ats},ty,pos,af,none⟩).run P w=.ok .recover w:=by
  simp[execOp,resolve,invoke,builtin]
 simp only[wpOpsS,h0,Region.wanted,if_true,hx,hr]
 rw[aw]
 exact h
def jj (h0:ops[i]?=some ⟨some d,op,ty,pos,af,none⟩)(hx:(execOp (ev N e) (⟨some d,op,ty,pos,af,none⟩:Oper)).run P w=.ok (.value v) w)(h:wpOpsS P ops Q rest (act N (upd e d v) []) cs w):
 wpOpsS P ops Q (i::rest) (act N e []) cs w:=by
 have hx':(execOp (act N e []).eval (⟨some d,op,ty,pos,af,none⟩:Oper)).run P w=.ok (.value v) w:=by rw[cM];exact hx
 simp only[wpOpsS,h0,Region.wanted,if_true,hx']
 show wpOpsS P ops Q rest ((act N e []).put (some d) v) cs w
 rw[aw]
 exact h
def J6 (h:Q .normal (act N e []) cs w):wpOpsS P ops Q [] (act N e []) cs w:=h
end
def oe {id ty:Nat}{pos:String}{af:Array Edge}{cs:List Frame}{Q:Exit->Act->List Frame->World->Prop}{d1 ty1 d2 ty2 d3 ty3 d4 ty4 d5 ty5 d6 ty6:Nat}{pos1 pos2 pos3 pos4 pos5 pos6:String}{af1 af2 af3 af4 af5 af6:Array Edge}{op1 op2 op3 op4 op5 op6:Op}(hr:recoverD cs=none)(h1:(execOp (ev N (upd e d .nilIface)) (⟨some d1,op1,ty1,pos1,af1,none⟩:Oper)).run P w=.ok (.value v1) w)(h2:(execOp (ev N (upd (upd e d .nilIface) d1 v1)) (⟨some d2,op2,ty2,pos2,af2,none⟩:Oper)).run P w=.ok (.value v2) w)(h3:(execOp (ev N (upd (upd (upd e d .nilIface) d1 v1) d2 v2)) (⟨some d3,op3,ty3,pos3,af3,none⟩:Oper)).run P w=.ok (.value v3) w)(h4:(execOp (ev N (upd (upd (upd (upd e d .nilIface) d1 v1) d2 v2) d3 v3)) (⟨some d4,op4,ty4,pos4,af4,none⟩:Oper)).run P w=.ok (.value v4) w)(h5:(execOp (ev N (upd (upd (upd (upd (upd e d .nilIface) d1 v1) d2 v2) d3 v3) d4 v4)) (⟨some d5,op5,ty5,pos5,af5,none⟩:Oper)).run P w=.ok (.value v5) w)(h6:(execOp (ev N (upd (upd (upd (upd (upd (upd e d .nilIface) d1 v1) d2 v2) d3 v3) d4 v4) d5 v5)) (⟨some d6,op6,ty6,pos6,af6,none⟩:Oper)).run P w=.ok (.value v6) w)(h:Q .normal (act N (upd (upd (upd (upd (upd (upd (upd e d .nilIface) d1 v1) d2 v2) d3 v3) d4 v4) d5 v5) d6 v6) []) cs w):
 (Code.region id #[⟨some d,.call {callee:=.builtin .recover,args:=#[],argTypes:=ats},ty,pos,af,none⟩,⟨some d1,op1,ty1,pos1,af1,none⟩,⟨some d2,op2,ty2,pos2,af2,none⟩,⟨some d3,op3,ty3,pos3,af3,none⟩,⟨some d4,op4,ty4,pos4,af4,none⟩,⟨some d5,op5,ty5,pos5,af5,none⟩,⟨some d6,op6,ty6,pos6,af6,none⟩] false).wpS P Q (act N e []) cs w:=
 T6 (rest:=[1,2,3,4,5,6]) Z Z hr (jj Z h1 (jj Z h2 (jj Z h3 (jj Z h4 (jj Z h5 (jj Z h6 (J6 h)))))))
def J7 :
 CallsDIn Fence.wide n prog 248 #[pT b1,pT b2] .returning w (λe u' w'=>(∃v,e=.returned v)/\u'=.returning/\w'=w):=by
 refine MY (args:=[pT b1,pT b2]) func248 Z (λ_ _ hu=>?_)
 refine wpS_seq ?_
 refine oe (v1:=.tuple #[.nilIface,.bool false]) (v2:=.tuple #[.nilIface,.bool false]) (v3:=.nilIface) (v4:=.bool false) (v5:=.nilIface) (v6:=.bool false) DP ?_ ?_ ?_ ?_ ?_ ?_ ?_
 · have h:(Instr.typeAssert .nilIface 20 96 true).run prog w=.ok (.tuple #[.nilIface,.bool false]) w:=by
    unfold Instr.typeAssert
    simp[run_underlying underlying96]
   simp only[execOp]
   exact qb2 (λr=>Result.andThen r λa w'=>Result.ok (Next.value a) w') h
 · rfl
 · rfl
 · rfl
 · rfl
 · rfl
 refine wpS_of_wp (wpIn_wide (n:=0).1 ?_)
 refine iS (r:=none) ?_
 refine hH (r:=none) ?_
 refine aa (r:=none) (aW (v:=.bool false) Z ?_)
 refine aa (r:=none) (aW (v:=.bool false) Z ?_)
 with_reducible refine fp (r:=none) (d:=12) (s:=11) ?_ ?_ ?_
 exact Z
 exact Z
 with_reducible refine fp (r:=none) (d:=13) (s:=11) ?_ ?_ ?_
 exact Z
 exact Z
 with_reducible refine fp (r:=none) (d:=14) (s:=11) ?_ ?_ ?_
 exact Z
 exact Z
 refine aa (r:=none) (jy (t:=false) (v:=.bool false) Z Z ?_)
 refine ge ?_
 refine e9 ?_
 refine fh (r:=none) Z ?_
 refine jA (r:=none) ?_
 exact⟨rfl,.returning,by rw[<-hu],_,nh Z,⟨_,rfl⟩,rfl,rfl⟩
def J8 :
 CallsDIn Fence.wide n prog 253 #[pT b1,pT b2] .returning w (λe u' w'=>(∃v,e=.returned v)/\u'=.returning/\w'=w):=by
 refine MY (args:=[pT b1,pT b2]) func253 Z (λ_ _ hu=>?_)
 refine wpS_seq ?_
 refine oe (v1:=.tuple #[.nilIface,.bool false]) (v2:=.tuple #[.nilIface,.bool false]) (v3:=.nilIface) (v4:=.bool false) (v5:=.nilIface) (v6:=.bool false) DP ?_ ?_ ?_ ?_ ?_ ?_ ?_
 · have h:(Instr.typeAssert .nilIface 20 96 true).run prog w=.ok (.tuple #[.nilIface,.bool false]) w:=by
    unfold Instr.typeAssert
    simp[run_underlying underlying96]
   simp only[execOp]
   exact qb2 (λr=>Result.andThen r λa w'=>Result.ok (Next.value a) w') h
 · rfl
 · rfl
 · rfl
 · rfl
 · rfl
 refine wpS_of_wp (wpIn_wide (n:=0).1 ?_)
 refine iS (r:=none) ?_
 refine hH (r:=none) ?_
 refine aa (r:=none) (aW (v:=.bool false) Z ?_)
 refine aa (r:=none) (aW (v:=.bool false) Z ?_)
 with_reducible refine fp (r:=none) (d:=12) (s:=11) ?_ ?_ ?_
 exact Z
 exact Z
 with_reducible refine fp (r:=none) (d:=13) (s:=11) ?_ ?_ ?_
 exact Z
 exact Z
 with_reducible refine fp (r:=none) (d:=14) (s:=11) ?_ ?_ ?_
 exact Z
 exact Z
 refine aa (r:=none) (jy (t:=false) (v:=.bool false) Z Z ?_)
 refine ge ?_
 refine e9 ?_
 refine fh (r:=none) Z ?_
 refine jA (r:=none) ?_
 exact⟨rfl,.returning,by rw[<-hu],_,nh Z,⟨_,rfl⟩,rfl,rfl⟩
abbrev dV (g b1 b2:Nat):Deferred:={target:=.fn (.func g) [Value.pointer (some ⟨b1,0,none⟩),Value.pointer (some ⟨b2,0,none⟩)].toArray,args:=#[]}
def Xj (g b1 b2:Nat):Prop:=∀(n:Nat) (w:World),CallsDIn Fence.wide n prog g #[pT b1,pT b2] .returning w (λe u' w'=>(∃v,e=.returned v)/\u'=.returning/\w'=w)
def og {R:Value->World->Prop}(hg:Enters prog g)(hc:Xj g b1 b2)(hx:aO w w')(hr:(results fn (act N e [dV g b1 b2]).tmps).run prog w'=.ok v w')(hR:R v w'):
 bodyPostDIn Fence.wide 0 prog fn (aG w R) .ret (act N e [dV g b1 b2]) w':=by
 refine leavesIn_cons (f:=g) (args:=#[pT b1,pT b2]) Wf kd1 ?_ (λ_ _=>trivial) ?_
 · have h:=hg #[pT b1,pT b2] w'
   simpa[invoke]using h
 · refine CallsDIn.mono (hc _ _) ?_
   rintro _ _ _ ⟨⟨v',rfl⟩,rfl,rfl⟩
   exact⟨v,hr,hx,hR⟩
end
end Go.Proofs.YtlmihmlnpjkblaaGreatDoor
