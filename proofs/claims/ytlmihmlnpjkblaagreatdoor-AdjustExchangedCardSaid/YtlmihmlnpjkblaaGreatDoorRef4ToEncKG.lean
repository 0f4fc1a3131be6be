/- Part of the proof of a statement about an adjustment. -/
import Derived.Test.YtlmihmlnpjkblaaGreatDoorRat3ToRef3G
set_option linter.all false
namespace Go.Proofs.YtlmihmlnpjkblaaGreatDoor
variable {ats:Array TypeId}{ng q:Bool}{fn:Func}{f:FuncId}{c c0:Int}{l b:List UInt8}{cs args vs lb:List Value}{p lo n a k n1 c1 lo1 d x0 i j sz lo' base hi' N b1 b2 g:Nat}{H H' e:Nat->Value}{A A1 A2:Option Addr}{P:Program}{t et ty':TypeId}{u v v' v1 v2 v3 v4 v5 v6:Value}{w W w':World}
section
set_option maxRecDepth 100000
open Go Go.Eng Go.RowKit Tryz
attribute [local irreducible] wpListIn Code.wpIn Oper.wpIn Exit.then Exit.inBlock Exit.noGoto
set_option maxHeartbeats 40000000
def cK {p:Prop}(h:p:=by assumption):p:=h
def jn {c:Nat}(h:Dg w lo A n c a)(hl:a<10^k):n<=k:=by rw[<-h.len];exact(bi 10 U a k).2 hl
def lU (h:isInt l=true):aD (body l)<10^200:=sy (ez h)
def Ov {a:List UInt8}(h:isInt a=false):(isInt a&&isInt b)=false:=by rw[h];rfl
def Ow {a:List UInt8}(h:isInt b=false):(isInt a&&isInt b)=false:=by rw[h];simp
def io {a:List UInt8}(ha:isInt a=true)(hb:isInt b=true):(isInt a&&isInt b)=true:=by rw[ha,hb];rfl
def wG :fits (bR ng a)=vO a:=by
 unfold vO
 by_cases h:a=0
 · subst h;cases ng <;>decide +kernel
 · rw[o9 ng U,decide_eq_false h,Bool.false_or]
   unfold bC;rw[if_neg h,cN]
def qQ :ae (bR ng a)=r4 ng a:=by
 unfold r4
 by_cases h:a=0
 · subst h;cases ng <;>rfl
 · rw[qL ng U,if_neg h]
def Q5 (h:vO a=false):Value.tuple #[S [],.int .i64 30]=iC (bj (bR ng a)):=by
 unfold bj;rw[wG,h];rfl
def Q6 (h:vO a=true):Value.tuple #[S (r4 ng a),.int .i64 0]=iC (bj (bR ng a)):=by
 unfold bj;rw[wG,h,qQ];rfl
def TP (h:Rw w lo A [Value.int .i64 1]):Dg w lo A 1 1 1:=by
 have e:au 10 1=[1]:=by decide
 exact⟨by rw[e];exact h,by rw[e];rfl,qa0 _⟩
def yc {r:Nat}(h:r<10^200):r4 false r=rS (bj (bR false r)):=by
 have hf:fits (bR false r)=true:=by unfold fits;rw[jQ];exact qa1 h
 rw[pj hf,qQ]
def Xc {b:Nat}(ha:a<10^200)(hb:b<10^200):a+b<10^201:=by
 have:(10:Nat)^201=10^200*10:=by rw[<-Nat.pow_succ]
 generalize (10:Nat)^200=M at *
 omega
def JM {a:List UInt8}(h:(isInt a&&isInt b)=true)(he:(neg a==neg b)=true)(ha:neg a=true):aQ ((aD (body b):Nat):Int) ((aD (body a):Nat):Int)=dR a b:=
 qu h ha (by have:neg a=neg b:=by simpa using he
             rw[<-this];exact ha)
def JN {a:List UInt8}(h:(isInt a&&isInt b)=true)(he:(neg a==neg b)=true)(ha:neg a=false):aQ ((aD (body a):Nat):Int) ((aD (body b):Nat):Int)=dR a b:=
 ub h ha (by have:neg a=neg b:=by simpa using he
             rw[<-this];exact ha)
def JO {a:List UInt8}(h:(isInt a&&isInt b)=true)(he:(neg a==neg b)=false)(ha:neg a=true):(-1:Int)=dR a b:=
 qz h ha (by rw[ha]at he;simpa using he)
def JP {a:List UInt8}(h:(isInt a&&isInt b)=true)(he:(neg a==neg b)=false)(ha:neg a=false):(1:Int)=dR a b:=
 ua h ha (by rw[ha]at he;simpa using he)
def Ak (ng:Bool)(x:Nat):Int.tmod (bR ng x) 10=bR ng (x%10):=by
 cases ng
 · show Int.tmod (x:Int) 10=((x%10:Nat):Int)
   rw[Int.tmod_eq_emod_of_nonneg U];omega
 · show Int.tmod (-(x:Int)) 10=-((x%10:Nat):Int)
   rw[Int.neg_tmod,Int.tmod_eq_emod_of_nonneg U];omega
def Al (ng:Bool)(x:Nat):Int.tdiv (bR ng x) 10=bR ng (x/10):=by
 cases ng
 · show Int.tdiv (x:Int) 10=((x/10:Nat):Int)
   rw[Int.tdiv_eq_ediv_of_nonneg U];omega
 · show Int.tdiv (-(x:Int)) 10=-((x/10:Nat):Int)
   rw[Int.neg_tdiv,Int.tdiv_eq_ediv_of_nonneg U];omega
def TQ {a:List UInt8}(h:b=[48]):dt a b=none:=mE (by subst h;exact qH)
def Ox (h:isInt b=true)(h0:¬b=[48]):0<aD (body b):=by
 rcases Nat.eq_zero_or_pos (aD (body b))with h1|h1
 · exact absurd ((ge h).1 (by have:=ec b;omega)) h0
 · exact h1
def jV (h1:Dg w lo1 A1 n1 c1 a)(s1:n1<=100000)(ng:Bool):
 CL 181 #[.bool ng,.slice A1 n1 c1] w (aH w λv w'=>v=iC (bj (bR ng a))):=by
 refine aC func181 Z (I ?_);refine clb Ig (hc:=kR h1 U ng) (hk:=?_);rintro _ _ G rfl;have E:=G.2;refine I ?_;rcases qa4 (vO a)with cf|cf;refine I ?_;exact bF (t:=4) (u:=5) (v1:=S (r4 ng a)) (v2:=.int .i64 0) Z E (by first|exact Q5 cK|exact Q6 cK) Z Z;refine I ?_;exact bF (t:=4) (u:=5) (v1:=S []) (v2:=.int .i64 30) Z E (by first|exact Q5 cK|exact Q6 cK) Z Z
def JQ (h1:Dg w lo1 A1 n1 c1 a)(s1:n1<=50000){n2 c2 b lo2:Nat}(h2:Dg w lo2 A2 n2 c2 b)(s2:n2<=50000)(nx ny:Bool):
 CL 179 #[.bool nx,.slice A1 n1 c1,.bool ny,.slice A2 n2 c2] w (aH w λv w'=>v=iC (bj (bR nx a+bR ny b))):=by
 have e1:=h1.len;have e2:=h2.len;refine aC func179 Z (I ?_);refine aa (H0 (a:=nx) (b:=ny) (q:=(nx==ny)) U4 Z Z Z ?_);refine I ?_;rcases qa4 (nx==ny)with p6|p6;refine I ?_;refine clb Qu (hc:=wF h1 U h2 U) (hk:=?_);rintro _ _ As ⟨Ay,Ar,C0,rfl,O⟩;have wr:=As.2;have O:=O.mono (lo':=w.heap.size) U;have Am:Ar<=50001:=by rw[<-O.len];exact Ey U _ _ 50000 U U
 refine I ?_;refine clb BX (hc:=jV O U nx) (hk:=?_);rintro _ _ Aq rfl;have wr:=xt wr Aq.2;refine I ?_;exact bF (t:=8) (u:=9) (v1:=S (rS (bj (bR nx (a+b))))) (v2:=.int .i64 (rE (bj (bR nx (a+b))))) Z wr (qb2 (λx=>iC (bj x)) ka2) Z Z;refine I ?_;refine clb zp (hc:=jS h1 U h2 U) (hk:=?_);rintro _ _ Af rfl;have h1:=ac8 Af.2 h1;have h2:=ac8 Af.2 h2;have E:=Af.2;refine I ?_;by_cases mq:0<=(aQ (a:Int) (b:Int));have G:=EA mq;refine I ?_;refine clb D6 (hc:=lD h1 U h2 U G) (hk:=?_);rintro _ _ Ax ⟨Az,Ap,B2,rfl,Ab⟩;have E:=xt E Ax.2;have Ab:=Ab.mono (lo':=w.heap.size) U;have Am:Ap<=50001:=by rw[<-Ab.len];exact qa8 (ey U (Nat.sub_le _ _)) U
 refine I ?_;refine clb BX (hc:=jV Ab U nx) (hk:=?_);rintro _ _ Av rfl;have E:=xt E Av.2;refine I ?_;exact bF (t:=8) (u:=9) (v1:=S (rS (bj (bR nx (a-b))))) (v2:=.int .i64 (rE (bj (bR nx (a-b))))) Z E (qb2 (λx=>iC (bj x)) ka2) Z Z;have G:=zV mq;refine I ?_;refine clb D6 (hc:=lD h2 U h1 U G) (hk:=?_);rintro _ _ Aw ⟨B1,od,B0,rfl,A0⟩;have E:=xt E Aw.2;have A0:=A0.mono (lo':=w.heap.size) U;have Am:od<=50001:=by rw[<-A0.len];exact qa8 (ey U (Nat.sub_le _ _)) U
 refine I ?_;refine clb BX (hc:=jV A0 U ny) (hk:=?_);rintro _ _ Ao rfl;have E:=xt E Ao.2;refine I ?_;exact bF (t:=8) (u:=9) (v1:=S (rS (bj (bR ny (b-a))))) (v2:=.int .i64 (rE (bj (bR ny (b-a))))) Z E (qb2 (λx=>iC (bj x)) ka2) Z Z
def An (a b:List UInt8)(w:World)(sa:a.length<=1000000)(sb:b.length<=1000000):
 CL 137 #[S a,S b] w (aH w λv w'=>v=iC (aW a b)):=by
 refine aC func137 Z (I ?_);rcases qa4 (isInt a)with cf|cf;refine I ?_;refine clb ni (hc:=cH a _ U) (hk:=?_);rintro _ _ Ab rfl;have E:=Ab.2;refine I ?_;refine clb ni (hc:=cH b _ U) (hk:=?_);rintro _ _ Ap rfl;have E:=xt E Ap.2;refine I ?_;rcases qa4 (isInt b)with fx|fx;refine I ?_;refine cl zk (eL _ _ cf) ?_;rintro _ _ wr ⟨Av,Ax,As,rfl,G⟩;have E:=xt E wr.2;have G:=G.mono (lo':=w.heap.size) U;have Ay:=jn G (lU cf);refine I ?_;refine cl zk (eL _ _ fx) ?_;rintro _ _ A0 ⟨Aw,od,Aq,rfl,O⟩;have G:=ac8 A0.2 G;have E:=xt E A0.2;have O:=O.mono (lo':=w.heap.size) U;have Ar:=jn O (lU fx);refine I ?_;refine clb VY (hc:=JQ G U O U (neg a) (!(neg b))) (hk:=?_);rintro _ _ Af rfl;have E:=xt E Af.2;refine I ?_;exact bF (t:=4) (u:=5) (v1:=S (rS (bj (bR (neg a) (aD (body a))+bR (!(neg b)) (aD (body b)))))) (v2:=.int .i64 (rE (bj (bR (neg a) (aD (body a))+bR (!(neg b)) (aD (body b)))))) Z E (by rw[pf (io cf fx),EE];rfl) Z Z;refine I ?_;exact bF (t:=4) (u:=5) (v1:=S []) (v2:=.int .i64 30) Z E (by rw[xU (Ow fx)];rfl) Z Z;refine I ?_;refine clb ni (hc:=cH a _ U) (hk:=?_)
 rintro _ _ Am rfl;have Ao:=Am.2;refine I ?_;exact bF (t:=4) (u:=5) (v1:=S []) (v2:=.int .i64 30) Z Ao (by rw[xU (Ov cf)];rfl) Z Z
def JR (a b:List UInt8)(w:World)(sa:a.length<=1000000)(sb:b.length<=1000000):
 CL 136 #[S a,S b] w (aH w λv w'=>v=.int .i64 (dR a b)):=by
 refine aC func136 Z (I ?_);rcases qa4 (isInt a)with cf|cf;refine I ?_;refine clb ni (hc:=cH a _ U) (hk:=?_);rintro _ _ Aq rfl;have E:=Aq.2;refine I ?_;refine clb ni (hc:=cH b _ U) (hk:=?_);rintro _ _ Ab rfl;have E:=xt E Ab.2;refine I ?_;rcases qa4 (isInt b)with fx|fx;refine I ?_;refine cl zk (eL _ _ cf) ?_;rintro _ _ Am ⟨Aw,Ay,Av,rfl,G⟩;have E:=xt E Am.2;have G:=G.mono (lo':=w.heap.size) U;have As:=jn G (lU cf);refine I ?_;refine cl zk (eL _ _ fx) ?_;rintro _ _ A0 ⟨Ax,od,Ar,rfl,O⟩;have G:=ac8 A0.2 G;have E:=xt E A0.2;have O:=O.mono (lo':=w.heap.size) U;have Az:=jn O (lU fx);refine I ?_;refine aa (md (a:=neg a) (b:=neg b) (q:=(!((neg a)==(neg b)))) U4 Z Z Z ?_);refine I ?_;rcases qa4 ((neg a)==(neg b))with p6|p6;refine I ?_;rcases qa4 (neg a)with r8|r8;refine I ?_;refine clb zp (hc:=jS O U G U) (hk:=?_);rintro _ _ Ao rfl;have E:=xt E Ao.2;refine I ?_;exact am (t:=4) (v:=.int .i64 (aQ ((aD (body b):Nat):Int) ((aD (body a):Nat):Int))) Z E (qb2 (Value.int .i64) (JM (io cf fx) p6 r8)) Z;refine I ?_;refine clb zp (hc:=jS G U O U) (hk:=?_)
 rintro _ _ wr rfl;have E:=xt E wr.2;refine I ?_;exact am (t:=4) (v:=.int .i64 (aQ ((aD (body a):Nat):Int) ((aD (body b):Nat):Int))) Z E (qb2 (Value.int .i64) (JN (io cf fx) p6 r8)) Z;refine I ?_;rcases qa4 (neg a)with sc|sc;refine I ?_;exact am (t:=4) (v:=.int .i64 (-1)) Z E (qb2 (Value.int .i64) (JO (io cf fx) p6 sc)) Z;refine I ?_;exact am (t:=4) (v:=.int .i64 1) Z E (qb2 (Value.int .i64) (JP (io cf fx) p6 sc)) Z;refine I ?_;exact am (t:=4) (v:=.int .i64 0) Z E (by rw[xW (Ow fx)]) Z;refine I ?_;refine clb ni (hc:=cH a _ U) (hk:=?_);rintro _ _ Ap rfl;have Af:=Ap.2;refine I ?_;exact am (t:=4) (v:=.int .i64 0) Z Af (by rw[xW (Ov cf)]) Z
def pq (a b:List UInt8)(w:World)(sa:a.length<=1000000)(sb:b.length<=1000000):
 CL 139 #[S a,S b] w (aH w λv w'=>v=vL (dt a b)):=by
 refine aC func139 Z (I ?_);rcases qa4 (isInt a)with cv|cv;rcases qa4 (isInt b)with cw|cw;refine I ?_;refine clb ni (hc:=cH a _ U) (hk:=?_);rintro _ _ CG rfl;have E:=CG.2;refine I ?_;refine clb ni (hc:=cH b _ U) (hk:=?_);rintro _ _ E1 rfl;have E:=xt E E1.2;refine I ?_;refine rU (b:=[48]) (I ?_);by_cases w9:b=([48]);refine I ?_;exact fH (t:=4) (u:=5) (s:=6) (v1:=S []) (v2:=S []) (v3:=.int .i64 30) Z E (by rw[TQ cK];rfl) Z Z Z;have O:0<aD (body b):=Ox cw w9;refine I ?_;refine cl zk (eL _ _ cv) ?_;rintro _ _ Cr ⟨Ix,L2,wr,rfl,Ao⟩;have E:=xt E Cr.2;have Ao:=Ao.mono (lo':=w.heap.size) U;have ES:=jn Ao (lU cv);refine I ?_;refine cl zk (eL _ _ cw) ?_;rintro _ _ C0 ⟨Kp,EW,KM,rfl,Ab⟩;have Ao:=ac8 C0.2 Ao;have E:=xt E C0.2;have Ab:=Ab.mono (lo':=w.heap.size) U;have FR:=jn Ab (lU cw);refine I ?_;refine clb Qt (hc:=Aj Ao U Ab U O) (hk:=?_);rintro _ _ Az ⟨Aq,KC,GC,Ar,E4,L1,rfl,hq,hr⟩;have Ab:=ac8 Az.2 Ab;have E:=xt E Az.2;have hq:=hq.mono (lo':=w.heap.size) U;have hr:=hr.mono (lo':=w.heap.size) U;have H3:=jn hq (Nat.lt_of_le_of_lt (Nat.div_le_self _ _) (lU cv))
 have G0:=jn hr (Nat.lt_trans (Nat.mod_lt _ O) (lU cw));have Aw:aD (body a)%aD (body b)<=aD (body b):=Nat.le_of_lt (Nat.mod_lt _ O);refine I ?_;rcases qa4 (neg a)with ly|ly;refine I ?_;by_cases aoo:0<(E4:Int);have Ax:0<aD (body a)%aD (body b):=mD (B:=10) U (by rw[hr.len];omega);have G:=Z5 O ly Ax;have A0:aD (body b)-aD (body a)%aD (body b)<=aD (body b):=Nat.sub_le _ _;refine I ?_;refine BS (λ_ As _ E0=>?_);have Ab:=ac8 As Ab;have hq:=ac8 As hq;have hr:=ac8 As hr;have E:=xt E As;have E6:=TP (ab0 E0);refine clb Qu (hc:=wF hq U E6 U) (hk:=?_);rintro _ _ Av ⟨Ap,KY,K2,rfl,Af⟩;have Ab:=ac8 Av.2 Ab;have hr:=ac8 Av.2 hr;have E:=xt E Av.2;have Af:=Af.mono (lo':=w.heap.size) U;have H4:=jn Af (Xc (Nat.lt_of_le_of_lt (Nat.div_le_self _ _) (lU cv)) (show 1<10^200 by decide +kernel));refine I ?_;refine clb D6 (hc:=lD Ab U hr U Aw) (hk:=?_);rintro _ _ B0 ⟨Am,nm,H2,rfl,hm⟩;have Af:=ac8 B0.2 Af;have E:=xt E B0.2;have hm:=hm.mono (lo':=w.heap.size) U;have K3:=jn hm (Nat.lt_of_le_of_lt (Nat.sub_le _ _) (lU cw));refine I ?_;refine aa (md (a:=neg a) (b:=neg b) (q:=(!((neg a)==(neg b)))) U4 Z Z Z ?_)
 refine I ?_;refine clb BX (hc:=jV Af U (!((neg a)==(neg b)))) (hk:=?_);rintro _ _ od rfl;have hm:=ac8 od.2 hm;have E:=xt E od.2;refine I ?_;refine clb Ig (hc:=kR hm U false) (hk:=?_);rintro _ _ CB rfl;have E:=xt E CB.2;rw[yc (lC cw A0)];refine I ?_;by_cases aop:(rE (bj (bR (!((neg a)==(neg b))) (aD (body a)/aD (body b)+1))))=0;refine I ?_;exact fH (t:=4) (u:=5) (s:=6) (v1:=S (rS (bj (bR (!((neg a)==(neg b))) (aD (body a)/aD (body b)+1))))) (v2:=S (rS (bj (bR false (aD (body b)-aD (body a)%aD (body b)))))) (v3:=.int .i64 0) Z E Rg Z Z Z;refine I ?_;exact fH (t:=4) (u:=5) (s:=6) (v1:=S []) (v2:=S []) (v3:=.int .i64 (rE (bj (bR (!((neg a)==(neg b))) (aD (body a)/aD (body b)+1))))) Z E Rg Z Z Z;have Ax:aD (body a)%aD (body b)=0:=jw (B:=10) U (hr.len.trans U);have G:=Yw (a:=a) O (Or.inr Ax);have A0:aD (body a)%aD (body b)<=aD (body b):=Aw;refine I ?_;refine aa (md (a:=neg a) (b:=neg b) (q:=(!((neg a)==(neg b)))) U4 Z Z Z ?_);refine I ?_
 refine clb BX (hc:=jV hq U (!((neg a)==(neg b)))) (hk:=?_);rintro _ _ B2 rfl;have hr:=ac8 B2.2 hr;have E:=xt E B2.2;refine I ?_;refine clb Ig (hc:=kR hr U false) (hk:=?_);rintro _ _ CY rfl;have E:=xt E CY.2;rw[yc (lC cw A0)];refine I ?_;by_cases aoq:(rE (bj (bR (!((neg a)==(neg b))) (aD (body a)/aD (body b)))))=0;refine I ?_;exact fH (t:=4) (u:=5) (s:=6) (v1:=S (rS (bj (bR (!((neg a)==(neg b))) (aD (body a)/aD (body b)))))) (v2:=S (rS (bj (bR false (aD (body a)%aD (body b)))))) (v3:=.int .i64 0) Z E Rg Z Z Z;refine I ?_;exact fH (t:=4) (u:=5) (s:=6) (v1:=S []) (v2:=S []) (v3:=.int .i64 (rE (bj (bR (!((neg a)==(neg b))) (aD (body a)/aD (body b)))))) Z E Rg Z Z Z;have G:=Yw O (Or.inl ly);have A0:aD (body a)%aD (body b)<=aD (body b):=Aw;refine I ?_;refine aa (md (a:=neg a) (b:=neg b) (q:=(!((neg a)==(neg b)))) U4 Z Z Z ?_);refine I ?_;refine clb BX (hc:=jV hq U (!((neg a)==(neg b)))) (hk:=?_);rintro _ _ B1 rfl;have hr:=ac8 B1.2 hr;have E:=xt E B1.2;refine I ?_
 refine clb Ig (hc:=kR hr U false) (hk:=?_);rintro _ _ E9 rfl;have E:=xt E E9.2;rw[yc (lC cw A0)];refine I ?_;by_cases aor:(rE (bj (bR (!((neg a)==(neg b))) (aD (body a)/aD (body b)))))=0;refine I ?_;exact fH (t:=4) (u:=5) (s:=6) (v1:=S (rS (bj (bR (!((neg a)==(neg b))) (aD (body a)/aD (body b)))))) (v2:=S (rS (bj (bR false (aD (body a)%aD (body b)))))) (v3:=.int .i64 0) Z E Rg Z Z Z;refine I ?_;exact fH (t:=4) (u:=5) (s:=6) (v1:=S []) (v2:=S []) (v3:=.int .i64 (rE (bj (bR (!((neg a)==(neg b))) (aD (body a)/aD (body b)))))) Z E Rg Z Z Z;refine I ?_;refine clb ni (hc:=cH a _ U) (hk:=?_);rintro _ _ E5 rfl;have Ay:=E5.2;refine I ?_;refine clb ni (hc:=cH b _ U) (hk:=?_);rintro _ _ D1 rfl;have Ay:=xt Ay D1.2;refine I ?_;exact fH (t:=4) (u:=5) (s:=6) (v1:=S []) (v2:=S []) (v3:=.int .i64 30) Z Ay (by rw[xX (Ow cw)];rfl) Z Z Z;refine I ?_;refine clb ni (hc:=cH a _ U) (hk:=?_);rintro _ _ E7 rfl;have D2:=E7.2;refine I ?_
 exact fH (t:=4) (u:=5) (s:=6) (v1:=S []) (v2:=S []) (v3:=.int .i64 30) Z D2 (by rw[xX (Ov cv)];rfl) Z Z Z
def Au (a b:List UInt8)(w:World)(sa:a.length<=1000000)(sb:b.length<=1000000):
 CL 138 #[S a,S b] w (aH w λv w'=>v=iC (bT a b)):=by
 refine aC func138 Z (I ?_);rcases qa4 (isInt a)with cf|cf;refine I ?_;refine clb ni (hc:=cH a _ U) (hk:=?_);rintro _ _ E1 rfl;have E:=E1.2;refine I ?_;refine clb ni (hc:=cH b _ U) (hk:=?_);rintro _ _ Aw rfl;have E:=xt E Aw.2;refine I ?_;rcases qa4 (isInt b)with cw|cw;refine I ?_;refine cl zk (eL _ _ cf) ?_;rintro _ _ B2 ⟨D1,Az,Cr,rfl,O⟩;have E:=xt E B2.2;have O:=O.mono (lo':=w.heap.size) U;refine I ?_;refine cl zk (eL _ _ cw) ?_;rintro _ _ wr ⟨od,Av,CG,rfl,Ab⟩;have O:=ac8 wr.2 O;have E:=xt E wr.2;have Ab:=Ab.mono (lo':=w.heap.size) U;refine I ?_;refine ck [(7,7),(9,11),(30,40)] (λB0 e W=>∃Ax:Option Addr,∃Am:Nat,∃Ap:Nat,∃x:Nat,∃Ay:Option Addr,∃ny:Nat,∃Af:Nat,∃y:Nat,(y=B0)/\(e 7=.slice Ax Am Ap)/\(e 9=.slice Ay ny Af)/\(Am<=200)/\(ny<=200)/\(Nat.gcd x y=Nat.gcd (aD (body a)) (aD (body b)))/\(aN w W)/\(Dg W w.heap.size Ax Am Ap x)/\(Dg W w.heap.size Ay ny Af y)) (aD (body b)) ⟨D1,Az,Cr,aD (body a),od,Av,CG,aD (body b),rfl,rfl,rfl,(jn O (lU cf)),(jn Ab (lU cw)),rfl,E,O,Ab⟩ ?_;rintro _ _ _ ⟨Ax,Am,Ap,x,Ay,ny,Af,y,rfl,E7,E6,q1,CY,Ao,G,hx,hy⟩
 have E9:=bz G;by_cases hm:0<ny;have A0:0<y:=mD (B:=10) U (by rw[hy.len];omega);have CB:=hx.row.hi;refine I ?_;refine clb Qt (hc:=Aj hx U hy U A0) (hk:=?_);rintro _ _ As ⟨Aq,ES,E5,Ar,C0,D2,rfl,hq,hr⟩;have hy:=ac8 As.2 hy;have G:=xt G As.2;have hr:=hr.mono (lo':=w.heap.size) U;refine I ?_;exact bJ (hk:=by exact Nat.mod_lt _ A0) ⟨Ay,ny,Af,y,Ar,C0,D2,x%y,rfl,rfl,rfl,U,(by rw[<-hr.len];exact qa8 (ey U (Nat.le_of_lt (Nat.mod_lt _ A0))) (by rw[hy.len];exact CY)),(Aa Ao),G,hy,hr⟩;have A0:y=0:=jw (B:=10) U (hy.len.trans U);rw[A0,Nat.gcd_zero_right]at Ao;have CB:=hx.row.hi;refine I ?_;refine clb BX (hc:=jV hx U false) (hk:=?_);rintro _ _ E4 rfl;have G:=xt G E4.2;refine I ?_;exact bF (t:=4) (u:=5) (v1:=S (rS (bj (bR false x)))) (v2:=.int .i64 (rE (bj (bR false x)))) Z G (by rw[EF (io cf cw),<-Ao];rfl) Z Z;refine I ?_;exact bF (t:=4) (u:=5) (v1:=S []) (v2:=.int .i64 30) Z E (by rw[xV (Ow cw)];rfl) Z Z;refine I ?_;refine clb ni (hc:=cH a _ U) (hk:=?_);rintro _ _ E0 rfl;have B1:=E0.2;refine I ?_;exact bF (t:=4) (u:=5) (v1:=S []) (v2:=.int .i64 30) Z B1 (by rw[xV (Ov cf)];rfl) Z Z
def fw {p:Prop}(h:p:=by assumption):p:=h
def GL {n:Int}(h:fits n=true):(ae n).length<=201:=(kQ (bu h)).2
def Gi (a b:List UInt8):Int:=((Int.gcd (ai a) (ai b):Nat):Int)
def qS (n d:List UInt8):Option R:=if isInt n&&isInt d then il (ai n) (ai d)else none
section
variable {x y:List UInt8}
def TR (h:ai y≠0):0<Gi x y:=by
 have:0<Int.gcd (ai x) (ai y):=Int.gcd_pos_of_ne_zero_right _ h
 unfold Gi;omega
def m0 (hy:isInt y=true)(h:ai y≠0):fits (Gi x y)=true:=kg (e9 hy) (by
 have hd:Gi x y∣ai y:=Int.gcd_dvd_right ..
 exact Nat.le_of_dvd U (Int.natAbs_dvd_natAbs.2 hd))
def AA (hx:isInt x=true)(hy:isInt y=true)(h:ai y≠0):bT x y=some (ae (Gi x y)):=by
 unfold bT;rw[if_pos (by rw[hx,hy];rfl)];unfold bj
 show(if fits (Gi x y)=true then some (ae (Gi x y))else none)=_
 rw[if_pos (m0 hy h)]
def pr {z:List UInt8}(hz:isInt z=true)(hy:isInt y=true)(h:ai y≠0)(hd:Gi x y∣ai z):dt z (ae (Gi x y))=some (ae (ai z/Gi x y),ae (ai z%Gi x y)):=by
 have E:=TR (x:=x) h
 rw[lB (by rw[hz,bu (m0 hy h)];rfl) (by rw[gK,gJ];omega),aG]
 obtain⟨g,hg⟩:∃g:Nat,Gi x y=(g:Int):=⟨_,rfl⟩
 rw[hg]at hd E ⊢
 unfold bj
 rw[if_pos (kg (e9 hz) (kh _ _ U hd))]
 rfl
def Xd:Gi x y∣ai x:=Int.gcd_dvd_left ..
def Xe:Gi x y∣ai y:=Int.gcd_dvd_right ..
def m5 (q r:List UInt8):vL (some (q,r))=.tuple #[S q,S r,.int .i64 0]:=rfl
def m6 (q:List UInt8):iC (some q)=.tuple #[S q,.int .i64 0]:=rfl
def C3 (h:isInt x=false):none=qS x y:=by unfold qS;rw[h];rfl
def C4 (h:isInt y=false):none=qS x y:=by unfold qS;rw[h];simp
def C5 (h:y=[48]):none=qS x y:=by
 unfold qS il;subst h;rw[kO];simp
def sI (hy:isInt y=true)(h:¬y=[48]):ai y≠0:=λe=>h ((ge hy).1 e)
def TS (hx:isInt x=true)(hy:isInt y=true)(h0:¬y=[48])(hs:¬dR y [48]<0):some (ae (ai x/Gi x y),ae (ai y/Gi x y))=qS x y:=by
 rw[gT hy,pi]at hs
 unfold qS il ei dm
 rw[hx,hy,Bool.and_self,if_pos Z,if_neg (sI hy h0),if_neg hs,if_neg hs];rfl
def TT (hx:isInt x=true)(hy:isInt y=true)(h0:¬y=[48])(hs:dR y [48]<0):
 some (ae (ai (ae (-ai x))/Gi (ae (-ai x)) (ae (-ai y))),ae (ai (ae (-ai y))/Gi (ae (-ai x)) (ae (-ai y))))=qS x y:=by
 rw[gT hy,pi]at hs
 unfold qS il ei dm Gi
 rw[hx,hy,Bool.and_self,if_pos Z,if_neg (sI hy h0),if_pos hs,if_pos hs,aG,aG,Int.gcd_neg,Int.neg_gcd]
def TU (hy:isInt y=true)(h0:¬y=[48]):ai (ae (-ai y))≠0:=by rw[aG];have:=sI hy h0;omega
end
def qT:Value.tuple #[.agg #[S [],S []],.int .i64 40]=gV none:=rfl
def wH (a b:List UInt8):Value.tuple #[.agg #[S a,S b],.int .i64 0]=gV (some (a,b)):=rfl
def jo (h:isInt l=true):l.length<=1000000:=by have:=kQ h;omega
set_option maxRecDepth 100000 in
def GM (x y:List UInt8)(w:World)(s1:x.length<=1000000)(s2:y.length<=1000000):
 CL 82 #[S x,S y] w (aH w λv w'=>v=gV (qS x y)):=by
 refine aC func82 Z (I ?_);refine al aZ (λ_ Az G=>?_);have E:=Az.2;refine I ?_;refine clb ni (hc:=cH x _ fw) (hk:=?_);rintro _ _ Ao rfl;have⟨G,E⟩:=bw Ao.2 G E;refine I ?_;refine clb ni (hc:=cH y _ fw) (hk:=?_);rintro _ _ As rfl;have⟨G,E⟩:=bw As.2 G E;refine I ?_;rcases qa4 (isInt x)with cr|cr;rcases qa4 (isInt y)with cv|cv;refine I ?_;refine rU (b:=[48]) (I ?_);by_cases cx:y=([48]);refine I ?_;refine SA G (λ_ Ay Af=>?_);have E:=bA Ay E;refine I ?_;refine ba (v:=.tuple #[.agg #[S [],S []],.int .i64 40]) (de (r1:=.cell 4 33) (r2:=.tmp 5) Z ?_ ?_) E DE;refine ak (t:=4) (cs:=[S [],S []]) (b:=w.heap.size) (o:=0) iT Z bX ?_ ?_;exact Z;exact aa1 Af (i:=0) Z;exact aL (t:=5) Wf _;have hx:=cr;have hy:=cv;have A0:=cx;have Aq:=sI hy A0;refine I ?_;refine clb YV (hc:=JR y [48] _ fw dc) (hk:=?_);rintro _ _ Av rfl;have⟨G,E⟩:=bw Av.2 G E;refine I ?_;by_cases cw:(dR y [48])<0;have hs:=cw;have hX:=mY hx
 have hY:=mY hy;have hY0:=TU hy A0;refine I ?_;refine clb VU (hc:=An [48] x _ dc fw) (hk:=?_);rintro _ _ Ab O;have⟨G,E⟩:=bw Ab.2 G E;rw[mX hx,m6]at O;subst O;refine I ?_;refine clb VU (hc:=An [48] y _ dc fw) (hk:=?_);rintro _ _ B2 O;have⟨G,E⟩:=bw B2.2 G E;rw[mX hy,m6]at O;subst O;refine I ?_;refine cl VX (Au (ae (-ai x)) (ae (-ai y)) _ (jo hX) (jo hY)) ?_;rintro _ _ Aw O;have⟨G,E⟩:=bw Aw.2 G E;rw[AA hX hY hY0,m6]at O;subst O;refine I ?_;refine cl Nj (pq (ae (-ai x)) (ae (Gi (ae (-ai x)) (ae (-ai y)))) _ (jo hX) (jo (bu (m0 hY hY0)))) ?_;rintro _ _ Ap O;have⟨G,E⟩:=bw Ap.2 G E;rw[pr hX hY hY0 Xd,m5]at O;subst O;refine I ?_;refine cl Nj (pq (ae (-ai y)) (ae (Gi (ae (-ai x)) (ae (-ai y)))) _ (jo hY) (jo (bu (m0 hY hY0)))) ?_;rintro _ _ C0 O;have⟨G,E⟩:=bw C0.2 G E;rw[pr hY hY hY0 Xe,m5]at O;subst O;refine I ?_;refine SA G (λ_ nm CG=>?_);have E:=bA nm E;refine I ?_
 refine ba (v:=.tuple #[.agg #[S (ae (ai (ae (-ai x))/Gi (ae (-ai x)) (ae (-ai y)))),S (ae (ai (ae (-ai y))/Gi (ae (-ai x)) (ae (-ai y))))],.int .i64 0]) (de (r1:=.cell 4 33) (r2:=.tmp 5) Z ?_ ?_) E (by rw[wH,TT hx hy A0 hs]);refine ak (t:=4) (cs:=[S (ae (ai (ae (-ai x))/Gi (ae (-ai x)) (ae (-ai y)))),S (ae (ai (ae (-ai y))/Gi (ae (-ai x)) (ae (-ai y))))]) (b:=w.heap.size) (o:=0) iT Z bX ?_ ?_;exact Z;exact aa1 CG (i:=0) Z;exact aL (t:=5) Wf _;have hs:=cw;have hX:=hx;have hY:=hy;have hY0:=Aq;refine I ?_;refine cl VX (Au x y _ (jo hX) (jo hY)) ?_;rintro _ _ CY O;have⟨G,E⟩:=bw CY.2 G E;rw[AA hX hY hY0,m6]at O;subst O;refine I ?_;refine cl Nj (pq x (ae (Gi x y)) _ (jo hX) (jo (bu (m0 hY hY0)))) ?_;rintro _ _ Ax O;have⟨G,E⟩:=bw Ax.2 G E;rw[pr hX hY hY0 Xd,m5]at O;subst O;refine I ?_;refine cl Nj (pq y (ae (Gi x y)) _ (jo hY) (jo (bu (m0 hY hY0)))) ?_;rintro _ _ Am O;have⟨G,E⟩:=bw Am.2 G E;rw[pr hY hY hY0 Xe,m5]at O;subst O;refine I ?_;refine SA G (λ_ B0 wr=>?_);have E:=bA B0 E;refine I ?_
 refine ba (v:=.tuple #[.agg #[S (ae (ai x/Gi x y)),S (ae (ai y/Gi x y))],.int .i64 0]) (de (r1:=.cell 4 33) (r2:=.tmp 5) Z ?_ ?_) E (by rw[wH,TS hx hy A0 hs]);refine ak (t:=4) (cs:=[S (ae (ai x/Gi x y)),S (ae (ai y/Gi x y))]) (b:=w.heap.size) (o:=0) iT Z bX ?_ ?_;exact Z;exact aa1 wr (i:=0) Z;exact aL (t:=5) Wf _;refine I ?_;refine SA G (λ_ ny B1=>?_);have E:=bA ny E;refine I ?_;refine ba (v:=.tuple #[.agg #[S [],S []],.int .i64 40]) (de (r1:=.cell 4 33) (r2:=.tmp 5) Z ?_ ?_) E DE;refine ak (t:=4) (cs:=[S [],S []]) (b:=w.heap.size) (o:=0) iT Z bX ?_ ?_;exact Z;exact aa1 B1 (i:=0) Z;exact aL (t:=5) Wf _;refine I ?_;refine SA G (λ_ Ar CB=>?_);have E:=bA Ar E;refine I ?_;refine ba (v:=.tuple #[.agg #[S [],S []],.int .i64 40]) (de (r1:=.cell 4 33) (r2:=.tmp 5) Z ?_ ?_) E DE;refine ak (t:=4) (cs:=[S [],S []]) (b:=w.heap.size) (o:=0) iT Z bX ?_ ?_;exact Z;exact aa1 CB (i:=0) Z;exact aL (t:=5) Wf _
def TV (n:Int):∃ng x,n=bR ng x/\(ng=true->0<x)/\x=n.natAbs:=by
 by_cases h:n<0
 · exact⟨true,n.natAbs,by simp[bR];omega,λ_=>by omega,rfl⟩
 · exact⟨false,n.natAbs,by simp[bR];omega,by simp,rfl⟩
def TW {x:Nat}(h:ng=true->0<x):r4 (decide (bR ng x<0)) x=ae (bR ng x):=by
 rw[<-qQ]
 congr 1
 cases ng with
 | false=>
   have:decide (bR false x<0)=false:=qa2 (by show¬(x:Int)<0;omega)
   rw[this]
 | true=>
   have:=h Z
   have:decide (bR true x<0)=true:=qa1 (by show -(x:Int)<0;omega)
   rw[this]
def uu {x:Nat}:bR ng x=0↔x=0:=by cases ng <;>simp[bR] <;>omega
def C6 {ng:Bool}{x:Nat}:-(x:Int)<=bR ng x/\bR ng x<=(x:Int):=by cases ng <;>simp[bR] <;>omega
def JS (h:ng=true/\0<d):bR ng d<0/\-bR ng d=(d:Int):=by rw[h.1];simp[bR];omega
def TX (h:¬(ng=true/\0<d)):bR ng d=(d:Int):=by cases ng <;>simp_all [bR]
def AB {x:Nat}(h:¬x=0):au 10 x=x%10::au 10 (x/10):=qr 10 x U U
def bL (c n:Int):Int:=(if c<0 then -(c+1)else c)%n
def dY (c n:Int)(h:0<n):0<=bL c n/\bL c n<n:=⟨Int.emod_nonneg _ U,Int.emod_lt_of_pos _ h⟩
def AC {n:Int}(h:c<0):-(c+1)%n=bL c n:=by unfold bL;rw[if_pos h]
def AD {n:Int}(h:¬c<0):c%n=bL c n:=by unfold bL;rw[if_neg h]
def wI {n:Int}(h:-100000000<=n/\n<=100000000):(ae n).length<=1000000:=by
 have:fits n=true:=by
  unfold fits;rw[decide_eq_true_eq]
  have E:(10:Nat)^9<=10^200:=Nat.pow_le_pow_right U U
  omega
 have:=GL this;omega
def AE (hng:ng=true->0<x0)(hx0:x0<=100000000):
 CL 83 #[.int .i64 (bR ng x0)] w (aH w λv w'=>v=S (ae (bR ng x0))):=by
 have Ap:(au 10 x0).length<=9:=(bi 10 U x0 9).2 U;refine aC func83 Z (I ?_);have Aq:World.ownsRow w w.heap.size 3 1 (.slice none 0 0) 0 (ints []):=bO;have Ay:=aa0 w;refine ck [(3,5),(9,22)] (λAr e W=>∃x:Nat,∃ds:List Nat,∃G:Value,(x=Ar)/\(e 4=.int .i64 (bR ng x))/\(e 3=G)/\(au 10 x0=ds++au 10 x)/\(x<=100000000)/\(aN w W)/\(W.ownsRow w.heap.size 3 1 G ds.length (ints ds))) (x0) ⟨x0,[],.slice none 0 0,rfl,rfl,rfl,rfl,hx0,Ay,Aq⟩ ?_;rintro _ _ _ ⟨x,ds,G,rfl,Cr,Am,q1,E0,E,ho⟩;have CB:=bz E;by_cases hx:x=0;rw[hx,gy,List.append_nil]at q1;obtain⟨_,_,rfl,Aw⟩:=qO ho q1.symm;have D1:ds.length<=9:=by rw[<-q1];exact Ap
 have C0:=show bR ng x=0 from uu.2 hx;refine I ?_;refine clb Ig (hc:=kR Aw U (decide ((bR ng x0)<0))) (hk:=?_);rintro _ _ Av rfl;have E:=xt E Av.2;refine I ?_;exact am (t:=2) (v:=S (r4 (decide ((bR ng x0)<0)) x0)) Z E (by rw[TW hng]) Z;by_cases hd:ng=true/\0<x%10;rw[AB hx]at q1;have O:=qb2 List.length q1;rw[List.length_append,List.length_cons]at O;have CG:=show¬bR ng x=0 from λh=>hx (uu.1 h);refine I ?_;refine aa (Cq (a:=bR ng x) (b:=10) (c:=bR ng (x%10)) Z Z dc (by rw[Ak]) ?_);have CY:=(JS hd).1;refine I ?_;refine aa (zg (a:=bR ng (x%10)) Z (by have:=@C6 ng (x%10);unfold In64;omega) ?_);rw[(JS hd).2];refine I ?_;refine aa (aY (v:=G) Am ?_);refine I ?_;refine BS (λ_ A0 _ Ax=>?_);have ho:=ab A0 ho;have E:=xt E A0;refine AP ho (ab0 Ax) (λAb _ As B0 _=>?_);have E:=bB ho U U E B0;refine aa (aJ (v:=Ab) Z ?_);refine I ?_;refine aa (Cp (a:=bR ng x) (b:=10) (c:=bR ng (x/10)) Z Z dc (Al _ _) (by have:=@C6 ng (x/10);unfold In64;omega) ?_);refine I ?_;exact bJ ⟨x/10,ds++[x%10],Ab,rfl,rfl,rfl,(by rw[List.append_assoc];exact q1),U,E,(aP As zd (by rw[fj]))⟩
 rw[AB hx]at q1;have O:=qb2 List.length q1;rw[List.length_append,List.length_cons]at O;have D2:=show¬bR ng x=0 from λh=>hx (uu.1 h);refine I ?_;refine aa (Cq (a:=bR ng x) (b:=10) (c:=((x%10:Nat):Int)) Z Z dc (by rw[Ak];exact TX hd) ?_);refine I ?_;refine aa (aY (v:=G) Am ?_);refine I ?_;refine BS (λ_ Ao _ Az=>?_);have ho:=ab Ao ho;have E:=xt E Ao;refine AP ho (ab0 Az) (λAf _ B2 B1 _=>?_);have E:=bB ho U U E B1;refine aa (aJ (v:=Af) Z ?_);refine I ?_;refine aa (Cp (a:=bR ng x) (b:=10) (c:=bR ng (x/10)) Z Z dc (Al _ _) (by have:=@C6 ng (x/10);unfold In64;omega) ?_);refine I ?_;exact bJ ⟨x/10,ds++[x%10],Af,rfl,rfl,rfl,(by rw[List.append_assoc];exact q1),U,E,(aP B2 zd (by rw[fj]))⟩
def uv (n:Int)(w:World)(h:-100000000<=n/\n<=100000000):CL 83 #[.int .i64 n] w (aH w λv _=>v=S (ae n)):=by
 obtain⟨ng,x,rfl,h1,h2⟩:=TV n
 exact AE h1 (by have:=jQ ng x;omega)
def AF (n m:Int)(w:World)(hn:-100000000<=n/\n<=100000000)(hm:-100000000<=m/\m<=100000000):
 CL 34 #[.int .i64 n,.int .i64 m] w (aH w λv w'=>v=gV (qS (ae n) (ae m))):=by
 refine aC func34 Z (I ?_);refine al aZ (λ_ Af G=>?_);have E:=Af.2;refine I ?_;refine clb VQ (hc:=uv n _ U) (hk:=?_);rintro _ _ Ab rfl;have⟨G,E⟩:=bw Ab.2 G E;refine I ?_;refine clb VQ (hc:=uv m _ U) (hk:=?_);rintro _ _ A0 rfl;have⟨G,E⟩:=bw A0.2 G E;refine clb YU (hc:=GM (ae n) (ae m) _ (wI U) (wI U)) (hk:=?_);rintro _ _ Am rfl;have⟨G,E⟩:=bw Am.2 G E;refine I ?_;refine SA G (λ_ O Ao=>?_);have E:=bA O E;refine I ?_;refine ba (v:=.tuple #[.agg #[S (rN (qS (ae n) (ae m))),S (rD (qS (ae n) (ae m)))],.int .i64 (TH (qS (ae n) (ae m)))]) (de (r1:=.cell 4 33) (r2:=.tmp 5) Z ?_ ?_) E Z;refine ak (t:=4) (cs:=[S (rN (qS (ae n) (ae m))),S (rD (qS (ae n) (ae m)))]) (b:=w.heap.size) (o:=0) iT Z bX ?_ ?_;exact Z;exact aa1 Ao (i:=0) Z;exact aL (t:=5) Wf _
end
section
open Go Go.Eng Go.RowKit Tryz
def sA:Value->Option Addr
 | .slice A _ _=>A
 |_=>none
def sC:Value->Nat
 | .slice _ _ c=>c
 |_=>0
def aO:Option Addr->Nat
 |some a=>a.block
 |none=>0
def cL:Option Addr->Nat
 |some a=>a.off
 |none=>0
def bD {α:Type}(f:Nat->α)(i:Nat)(a:α):Nat->α:=λj=>if j=i then a else f j
def aX {α:Type}(f:Nat->α)(i:Nat)(a:α):bD f i a i=a:=by simp[bD]
def bc {α:Type}(f:Nat->α)(a:α)(h:j≠i):bD f i a j=f j:=by simp[bD,h]
def JU (h:Rw W lo A cs)(hu:cs[j]?=some u):A=some ⟨aO A,cL A,none⟩/\W.cell? ⟨aO A,cL A+j,none⟩=some u:=by
 obtain⟨b,o,rfl,hc⟩:=h.cells j u hu
 exact⟨rfl,hc⟩
def aV {l:List R}(h:Rw W lo A (ag l))(hk:k<l.length):
 A=some ⟨aO A,cL A,none⟩/\∀j u,[S (ap l k).1,S (ap l k).2][j]?=some u->W.cell? ⟨aO A,cL A+k*2+j,none⟩=some u:=by
 obtain⟨b,o,rfl,hc⟩:=EH h hk
 exact⟨rfl,hc⟩
def dr (h:W.ownsRow lo t sz v n cs):v=.slice (sA v) n (sC v):=by
 obtain⟨hl,⟨rfl,rfl⟩|⟨g,cap,E,rfl,_⟩⟩:=h <;>rfl
def ek (h:W.ownsRow lo t sz v n cs):Rw W lo (sA v) cs:=by
 have h2:=h
 rw[dr h]at h2
 exact ab0 h2
def dG (h:W.ownsRow lo t sz v n cs):∀g,v.ownBlock=some g->g<W.heap.size:=by
 obtain⟨hl,⟨rfl,rfl⟩|⟨g,cap,O,rfl,G,E,_⟩⟩:=h
 · intro g e;cases e
 · intro _ e;cases e;exact(Array.getElem?_eq_some_iff.1 E).1
def b9 (hl:lo'<=lo)(h:W.ownsRow lo t sz v n cs):W.ownsRow lo' t sz v n cs:=by
 obtain⟨h1,h2|⟨g,cap,G,rfl,E,r⟩⟩:=h
 · exact⟨h1,.inl h2⟩
 · exact⟨h1,.inr ⟨g,cap,G,rfl,qa8 hl E,r⟩⟩
structure Mt (W:World)(lo:Nat)(A:Option Addr)(n:Nat)(H:Nat->Value)(L:Nat->List R):Prop where
 out:Rw W lo A ((List.range n).map H)
 hdr:∀i,i<n->H i=.slice (sA (H i)) (L i).length (sC (H i))
 row:∀i,i<n->Rw W lo (sA (H i)) (ag (L i))
 cap:∀i,i<n->(L i).length<=sC (H i)
def kj (h:W.ownsRow base et sz v k cs):k<=sC v:=by
 obtain⟨hl,⟨rfl,rfl⟩|⟨g,cap,G,rfl,E,O,hc,r⟩⟩:=h
 · exact qa0 _
 · exact hc
section
variable {W':World}{hi m:Nat}{L:Nat->List R}
def Mt.ext (k:aN W W')(h:Mt W lo A n H L):Mt W' lo A n H L:=⟨h.out.ext k,h.hdr,λi hi=>(h.row i hi).ext k,h.cap⟩
def Mt.put {b:Nat}(k:dP W W' b)(hb:b<lo)(h:Mt W lo A n H L):Mt W' lo A n H L:=⟨h.out.put k hb,h.hdr,λi hi=>(h.row i hi).put k hb,h.cap⟩
def Mt.mono (hl:lo'<=lo)(h:Mt W lo A n H L):Mt W lo' A n H L:=⟨h.out.mono hl,h.hdr,λi hi=>(h.row i hi).mono hl,h.cap⟩
def Mt.cell (h:Mt W lo A n H L)(hi:i<n):A=some ⟨aO A,cL A,none⟩/\W.cell? ⟨aO A,cL A+i,none⟩=some (.slice (sA (H i)) (L i).length (sC (H i))):=by
 rw[<-h.hdr i hi]
 exact JU h.out (by simp[hi])
def aa6:=@Mt.cell
def Mt.elem (h:Mt W lo A n H L)(hi:i<n)(hk:k<(L i).length):
 sA (H i)=some ⟨aO (sA (H i)),cL (sA (H i)),none⟩/\∀j u,[S (ap (L i) k).1,S (ap (L i) k).2][j]?=some u->W.cell? ⟨aO (sA (H i)),cL (sA (H i))+k*2+j,none⟩=some u:=
 aV (h.row i hi) hk
def ac5:=@Mt.elem
def Mt.congr {L':Nat->List R}(h:Mt W lo A n H L)(hL:∀i,i<n->L i=L' i):Mt W lo A n H L':=
 ⟨h.out,λi hi=>by rw[<-hL i hi];exact h.hdr i hi,λi hi=>by rw[<-hL i hi];exact h.row i hi,λi hi=>by rw[<-hL i hi];exact h.cap i hi⟩
structure Wr (W:World)(lo hi n:Nat)(H:Nat->Value)(L:Nat->List R):Prop where
 own:∀i,i<n->W.ownsRow lo 33 2 (H i) (L i).length (ag (L i))
 hi:∀i,i<n->∀g,(H i).ownBlock=some g->g<hi
 ne:∀i j,i<n->j<n->i≠j->ay (H i) (H j)
def Wr.nil:Wr W lo hi 0 H L:=⟨λi h=>by omega,λi h=>by omega,λi j h=>by omega⟩
def Wr.ext (k:aN W W')(h:Wr W lo hi n H L):Wr W' lo hi n H L:=⟨λi hi=>ab k (h.own i hi),h.hi,h.ne⟩
def aa2:=@Wr.ext
def Wr.put {b:Nat}(k:dP W W' b)(hb:b<lo\/hi<=b)(h:Wr W lo hi n H L):Wr W' lo hi n H L:=
 ⟨λi hi'=>av k (λe=>by have h1:=h.hi i hi' b e;have h2:=aR (h.own i hi') b e;omega) (h.own i hi'),h.hi,h.ne⟩
def ab8:=@Wr.put
def Wr.gr {row:Option Nat}(k:W.grownBy W' row)(hb:∀g,row=some g->g<lo\/hi<=g)(h:Wr W lo hi n H L):Wr W' lo hi n H L:=
 ⟨λi hi'=>nK k (λg e e2=>by have h1:=h.hi i hi' g e;have h2:=aR (h.own i hi') g e;have h3:=hb g e2.symm;omega) (h.own i hi'),h.hi,h.ne⟩
def Wr.grOut (k:W.grownBy W' v.ownBlock)(hne:∀i,i<n->ay v (H i))(h:Wr W lo hi n H L):Wr W' lo hi n H L:=
 ⟨λi hi'=>nK k (λg e e2=>hne i hi' g e2.symm e) (h.own i hi'),h.hi,h.ne⟩
def ad4:=@Wr.grOut
def Wr.putOut {b:Nat}(k:dP W W' b)(hne:∀i,i<n->(H i).ownBlock≠some b)(h:Wr W lo hi n H L):Wr W' lo hi n H L:=
 ⟨λi hi'=>av k (hne i hi') (h.own i hi'),h.hi,h.ne⟩
def Wr.mono (hl:hi<=hi')(h:Wr W lo hi n H L):Wr W lo hi' n H L:=⟨h.own,λi hi g e=>qb1 (h.hi i hi g e) hl,h.ne⟩
def Wr.top (h:Wr W lo hi n H L):Wr W lo W.heap.size n H L:=⟨h.own,λi hi g e=>dG (h.own i hi) g e,h.ne⟩
def Wr.hdr (h:Wr W lo hi n H L)(hi:i<n):H i=.slice (sA (H i)) (L i).length (sC (H i)):=dr (h.own i hi)
def Wr.elem (h:Wr W lo hi n H L)(hi:i<n)(hk:k<(L i).length):
 sA (H i)=some ⟨aO (sA (H i)),cL (sA (H i)),none⟩/\∀j u,[S (ap (L i) k).1,S (ap (L i) k).2][j]?=some u->W.cell? ⟨aO (sA (H i)),cL (sA (H i))+k*2+j,none⟩=some u:=
 aV (ek (h.own i hi)) hk
def Wr.mt (h:Wr W lo hi n H L)(ho:Rw W lo A ((List.range n).map H)):Mt W lo A n H L:=⟨ho,λi hi=>h.hdr hi,λi hi=>ek (h.own i hi),λi hi=>kj (h.own i hi)⟩
def Wr.congr {L':Nat->List R}(h:Wr W lo hi n H L)(hL:∀i,i<n->L i=L' i):Wr W lo hi n H L':=
 ⟨λi hi=>by rw[<-hL i hi];exact h.own i hi,h.hi,h.ne⟩
def Wr.push {r:Value}{l:List R}(h:Wr W lo hi n H L)(hr:W.ownsRow lo 33 2 r l.length (ag l))(hne:∀i,i<n->ay r (H i)):Wr W lo W.heap.size (n+1) (bD H n r) (bD L n l):=by
 refine⟨λi hi=>?_,λi hi g e=>?_,λi j hi _ E=>?_⟩
 · by_cases e:i=n
   · subst e;rw[aX,aX];exact hr
   · rw[bc _ _ e,bc _ _ e];exact h.own i U
 · by_cases e':i=n
   · subst e';rw[aX]at e;exact dG hr g e
   · rw[bc _ _ e']at e;exact dG (h.own i U) g e
 · by_cases e:i=n
   · subst e;rw[aX,bc _ _ (Ne.symm E)];exact hne j U
   · by_cases e2:j=n
     · subst e2;rw[aX,bc _ _ e];exact aa4 (hne i U)
     · rw[bc _ _ e,bc _ _ e2];exact h.ne i j U U E
def eU {α:Type}(H:Nat->α)(n:Nat)(r:α):(List.range (n+1)).map (bD H n r)=(List.range n).map H++[r]:=by
 rw[List.range_succ,List.map_append]
 congr 1
 · exact List.map_congr_left λi hi=>bc _ _ (by have:=List.mem_range.1 hi;omega)
 · simp[aX]
def Wr.app {l':List R}(h:Wr W lo hi n H L)(hj:j<n)(hg:W.grownBy W' (H j).ownBlock)(ho:W'.ownsRow lo 33 2 v' l'.length (ag l'))(ha:v'.ownBlock=(H j).ownBlock\/v'.ownBlock=some W.heap.size):Wr W' lo W'.heap.size n (bD H j v') (bD L j l'):=by
 have hother:∀i,i<n->i≠j->W'.ownsRow lo 33 2 (H i) (L i).length (ag (L i)):=λi hi E=>
  ab5 (h.ne j i hj hi (Ne.symm E)) hg (h.own i hi)
 have O:∀i,i<n->i≠j->ay v' (H i):=λi hi E=>ab1 ha (h.ne j i hj hi (Ne.symm E)) (h.own i hi)
 refine⟨λi hi=>?_,λi hi g e=>?_,λi k hi hk G=>?_⟩
 · by_cases e:i=j
   · subst e;rw[aX,aX];exact ho
   · rw[bc _ _ e,bc _ _ e];exact hother i hi e
 · by_cases e':i=j
   · subst e';rw[aX]at e;exact dG ho g e
   · rw[bc _ _ e']at e;exact dG (hother i hi e') g e
 · by_cases e:i=j
   · subst e;rw[aX,bc _ _ (Ne.symm G)];exact O k hk (Ne.symm G)
   · by_cases e2:k=j
     · subst e2;rw[aX,bc _ _ e];exact aa4 (O i hi e)
     · rw[bc _ _ e,bc _ _ e2];exact h.ne i k hi hk G
def Wr.perm (f:Nat->Nat)(hf:∀i,i<n->f i<n)(hi':∀i j,i<n->j<n->f i=f j->i=j)(h:Wr W lo hi n H L):Wr W lo hi n (λi=>H (f i)) (λi=>L (f i)):=
 ⟨λi hi=>h.own _ (hf i hi),λi hi=>h.hi _ (hf i hi),λi j hi E G=>h.ne _ _ (hf i hi) (hf j E) (λe=>G (hi' i j hi E e))⟩
def Wr.far (h:Wr W lo hi n H L)(hr:W.ownsRow base t sz v k cs)(hb:hi<=base):∀i,i<n->ay v (H i):=
 λi hi' g e e2=>by have h1:=h.hi i hi' g e2;have h2:=aR hr g e;omega
def ef {r:Value}(h:∀i,i<n->ay v (H i))(hr:ay v r):∀i,i<n+1->ay v (bD H n r i):=λi hi=>by
 by_cases e:i=n
 · subst e;rw[aX];exact hr
 · rw[bc _ _ e];exact h i U
end
def JV {n d:Int}(hn:fits n=true)(hd:fits d=true)(hg:Int.gcd n d=1)(hp:0<d):bN (ae n,ae d)=true:=by
 unfold bN
 have h2:=bu hd
 have h1:=bu hn
 show(isInt (ae n)&&isInt (ae d)&& !decide (dR (ae d) [48]<=0)&&decide (bT (ae n) (ae d)=some [49]))=true
 rw[h1,h2]
 have h3:¬dR (ae d) [48]<=0:=by
  rw[gT h2,dh,aG];omega
 have h4:bT (ae n) (ae d)=some [49]:=by
  unfold bT
  rw[h1,h2,Bool.and_self,if_pos Z,aG,aG,hg]
  decide +kernel
 simp[h3,h4]
def uw {n d:Int}{q:R}(hn:fits n=true)(hd:fits d=true)(h:il n d=some q):bN q=true:=by
 unfold il at h
 by_cases h0:d=0
 · rw[if_pos h0]at h;cases h
 · rw [if_neg h0]at h
   cases h
   have G:0<Int.gcd n d:=Int.gcd_pos_of_ne_zero_right _ h0
   have hc:=Int.gcd_ediv_gcd_ediv_gcd G
   obtain⟨g,hgg⟩:∃g:Nat,Int.gcd n d=g:=⟨_,rfl⟩
   rw[hgg]at hc G
   have O:(g:Int)∣n:=by rw[<-hgg];exact Int.gcd_dvd_left ..
   have E:(g:Int)∣d:=by rw[<-hgg];exact Int.gcd_dvd_right ..
   have Af:fits (n/(g:Int))=true:=kg hn (kh _ _ U O)
   have Ab:fits (d/(g:Int))=true:=kg hd (kh _ _ U E)
   have Ap:d/(g:Int)≠0:=λe=>h0 (by have:=Int.mul_ediv_cancel' E;rw[e]at this;omega)
   unfold ei dm
   rw[hgg]
   by_cases hs:d<0
   · rw[if_pos hs,if_pos hs,Int.neg_ediv_of_dvd O,Int.neg_ediv_of_dvd E]
     have A0:d/(g:Int)<0:=by
      have:=Int.mul_ediv_cancel' E
      refine Int.lt_of_not_ge λAm=>?_
      have Ao:0<=(g:Int)*(d/(g:Int)):=Int.mul_nonneg U Am
      omega
     refine JV ?_ ?_ ?_ U
     · unfold fits at *;rwa [Int.natAbs_neg]
     · unfold fits at *;rwa [Int.natAbs_neg]
     · rw[Int.neg_gcd,Int.gcd_neg];exact hc
   · rw[if_neg hs,if_neg hs]
     have A0:0<=d/(g:Int):=Int.ediv_nonneg U U
     exact JV Af Ab hc U
def pt {n d:Int}{q:R}(h:im n d=some q):bN q=true:=by
 unfold im at h
 cases h1:fits n with
 |false=>rw[h1]at h;simp at h
 | true=>
   cases h2:fits d with
   |false=>rw[h1,h2]at h;simp at h
   |true=>rw[h1,h2,Bool.and_self,if_pos Z]at h;exact uw h1 h2 h
def ET {a b q:R}(h:gj a b=some q):bN q=true:=by unfold gj at h;split at h <;>first|exact pt h|cases h
def EU {a b q:R}(h:mF a b=some q):bN q=true:=by unfold mF at h;split at h <;>first|exact pt h|cases h
def EV {a b q:R}(h:jR a b=some q):bN q=true:=by
 unfold jR at h;split at h
 · split at h <;>first|exact pt h|cases h
 · cases h
def yd {a b q:R}(h:dE a b=some q):bN q=true:=by
 unfold dE at h;split at h
 · split at h <;>first|exact pt h|cases h
 · cases h
def Oy {n d:List UInt8}{q:R}(h:qS n d=some q):bN q=true:=by
 unfold qS at h
 split at h
 · rename_i hh
   simp only[Bool.and_eq_true]at hh
   exact uw (e9 hh.1) (e9 hh.2) h
 · cases h
def Oz {a:R}(h:bN a=true):a.1.length<=1000000/\a.2.length<=1000000:=by
 have h1:=(kQ (js h)).2
 have h2:=(kQ (gF h)).2
 omega
def TY {a:R}(h:bN a=true):(dE ([48],[49]) a).isSome=true:=by
 have O:ai [48]=0:=by decide +kernel
 have ho:ai [49]=1:=by decide +kernel
 unfold dE
 rw[uk,h,Bool.and_self,if_pos Z]
 simp only[O,ho,Int.zero_mul,Int.mul_one,Int.one_mul,Int.zero_sub]
 have G:fits 0=true:=by decide +kernel
 have f1:=e9 (js h)
 have f2:=e9 (gF h)
 have E:fits (-ai a.1)=true:=by unfold fits at *;rwa [Int.natAbs_neg]
 rw[G,f1,Bool.and_self,if_pos Z]
 unfold im
 rw[E,f2,Bool.and_self,if_pos Z]
 unfold il
 rw[if_neg (by have:=c7 h;omega)]
 rfl
def z0:R:=([48],[49])
def o1:R:=([49],[49])
abbrev Rows:=Nat->List R
def mH (r:Nat)(pv:R):Nat->Nat->Rows->Option Rows
 |0,_,L=>some L
 | f+1,k,L=>match mF (ap (L r) k) pv with
   |none=>none
   |some q=>mH r pv f (k+1) (bD L r ((L r).set k q))
def lW (r i:Nat)(by_:R):Nat->Nat->Rows->Option Rows
 |0,_,L=>some L
 | f +1,k,L=>match gj by_ (ap (L r) k)with
   |none=>none
   | some p=>match dE (ap (L i) k) p with
     |none=>none
     |some d=>lW r i by_ f (k+1) (bD L i ((L i).set k d))
def ky (m r c:Nat):Nat->Nat->Rows->Option Rows
 |0,_,L=>some L
 | f+1,i,L=>if i=r\/ap (L i) c=z0 then ky m r c f (i+1) L else match lW r i (ap (L i) c) (m-c) c L with
   |none=>none
   |some L'=>ky m r c f (i+1) L'
def iF (c:Nat)(L:Rows):Nat->Nat->Nat
 |0,p=>p
 |f+1,p=>if ap (L p) c=z0 then iF c L f (p+1)else p
def sJ (c:Nat)(L:Rows):∀(f p:Nat),p<=iF c L f p/\iF c L f p<=p+f
 |0,p=>⟨qa0 _,qa0 _⟩
 | f+1,p=>by
   unfold iF
   split
   · have:=sJ c L f (p+1);omega
   · omega
def r5 (p r i:Nat):Nat:=if i=p then r else if i=r then p else i
def nG (p r:Nat)(L:Rows):Rows:=λi=>L (r5 p r i)
structure El where
 L:Rows
 piv:List R
 cols:List Nat
 sw:Nat
def pu (n m c:Nat)(s:El):Option El:=
 if iF c s.L (n-s.piv.length) s.piv.length=n then some s
 else match mH s.piv.length (ap (s.L (iF c s.L (n-s.piv.length) s.piv.length)) c) (m-c) c (nG (iF c s.L (n-s.piv.length) s.piv.length) s.piv.length s.L)with
  |none=>none
  | some L2=>match ky m s.piv.length c n 0 L2 with
    |none=>none
    |some L3=>some ⟨L3,s.piv++[ap (s.L (iF c s.L (n-s.piv.length) s.piv.length)) c],s.cols++[c],if iF c s.L (n-s.piv.length) s.piv.length=s.piv.length then s.sw else s.sw+1⟩
def ip (n m:Nat):Nat->Nat->El->Option El
 |0,_,s=>some s
 | f+1,c,s=>match pu n m c s with
   |none=>none
   |some s'=>ip n m f (c+1) s'
def elim (n m cols:Nat)(L:Rows):Option El:=ip n m cols 0 ⟨L,[],[],0⟩
def gk (n m:Nat)(L:Rows):Prop:=∀i,i<n->(L i).length=m/\∀k,k<m->bN (ap (L i) k)=true
def lE {l:List R}{q:R}(hk:k<l.length):ap (l.set k q) j=if j=k then q else ap l j:=by
 unfold ap
 rw[List.getD,List.getD,List.getElem?_set]
 by_cases h:k=j
 · subst h;simp[hk]
 · simp[h,Ne.symm h]
def gk.set {m:Nat}{L:Rows}{q:R}(h:gk n m L)(hk:k<m)(hi:i<n)(hq:bN q=true):gk n m (bD L i ((L i).set k q)):=by
 intro j E
 by_cases e:j=i
 · subst e
   rw[aX]
   refine⟨by rw[List.length_set];exact(h j E).1,λk' G=>?_⟩
   rw[lE (by rw[(h j E).1];exact hk)]
   split
   · exact hq
   · exact(h j E).2 k' G
 · rw[bc _ _ e];exact h j E
def gk.sw {m r:Nat}{L:Rows}(h:gk n m L)(hp:p<n)(hr:r<n):gk n m (nG p r L):=by
 intro i hi
 refine h _ ?_
 unfold r5
 split
 · exact hr
 · split
   · exact hp
   · exact hi
def ux {r:Nat}(hp:p<n)(hr:r<n)(hi:i<n):r5 p r i<n:=by
 unfold r5;split
 · exact hr
 · split <;>omega
def OA {r:Nat}(h:r5 p r i=r5 p r j):i=j:=by
 unfold r5 at h
 split at h <;>split at h <;>(try split at h) <;>(try split at h) <;>omega
def JW (r i:Nat):r5 r r i=i:=by unfold r5;split <;>(try split) <;>omega
def pw (r:Nat)(L:Rows):nG r r L=L:=funext λi=>by unfold nG;rw[JW]
section steps
variable {r c m cols:Nat}{pv q by_ d:R}{L L1 L2 L3:Rows}{T:Option Rows}{E:Option El}{piv:List R}{cs:List Nat}{sw sw':Nat}
def jz (h:k<m):m-k=(m-(k+1))+1:=J
def GN (hk:k<m)(h:mH r pv (m-k) k L=T)(hd:mF (ap (L r) k) pv=some q):mH r pv (m-(k+1)) (k+1) (bD L r ((L r).set k q))=T:=by
 rw[jz hk]at h;unfold mH at h;rw[hd]at h;exact h
def GO (hk:k<m)(h:mH r pv (m-k) k L=T)(hd:mF (ap (L r) k) pv=none):T=none:=by
 rw[jz hk]at h;unfold mH at h;rw[hd]at h;exact h.symm
def JX (hk:¬k<m)(h:mH r pv (m-k) k L=T):T=some L:=by
 rw[show m-k=0 by omega]at h;exact h.symm
def GP (hk:k<m)(h:lW r i by_ (m-k) k L=T)(hp:gj by_ (ap (L r) k)=some q)(hd:dE (ap (L i) k) q=some d):lW r i by_ (m-(k+1)) (k+1) (bD L i ((L i).set k d))=T:=by
 rw[jz hk]at h;unfold lW at h;rw[hp]at h;dsimp only at h;rw[hd]at h;exact h
def C7 (hk:k<m)(h:lW r i by_ (m-k) k L=T)(hp:gj by_ (ap (L r) k)=none):T=none:=by
 rw[jz hk]at h;unfold lW at h;rw[hp]at h;exact h.symm
def C8 (hk:k<m)(h:lW r i by_ (m-k) k L=T)(hp:gj by_ (ap (L r) k)=some q)(hd:dE (ap (L i) k) q=none):T=none:=by
 rw[jz hk]at h;unfold lW at h;rw[hp]at h;dsimp only at h;rw[hd]at h;exact h.symm
def JY (hk:¬k<m)(h:lW r i by_ (m-k) k L=T):T=some L:=by
 rw[show m-k=0 by omega]at h;exact h.symm
def wJ (hi:i<n)(h:ky m r c (n-i) i L=T)(hs:i=r\/ap (L i) c=z0):ky m r c (n-(i+1)) (i+1) L=T:=by
 rw[jz hi]at h;unfold ky at h;rw[if_pos hs]at h;exact h
def GQ (hi:i<n)(h:ky m r c (n-i) i L=T)(hs1:¬i=r)(hs2:¬ap (L i) c=z0)(hd:lW r i (ap (L i) c) (m-c) c L=some L1):ky m r c (n-(i+1)) (i+1) L1=T:=by
 rw[jz hi]at h;unfold ky at h;rw[if_neg (by rintro(h|h) <;>contradiction),hd]at h;exact h
def wK (hi:i<n)(h:ky m r c (n-i) i L=T)(hs1:¬i=r)(hs2:¬ap (L i) c=z0)(hd:lW r i (ap (L i) c) (m-c) c L=none):T=none:=by
 rw[jz hi]at h;unfold ky at h;rw[if_neg (by rintro(h|h) <;>contradiction),hd]at h;exact h.symm
def JZ (hi:¬i<n)(h:ky m r c (n-i) i L=T):T=some L:=by
 rw[show n-i=0 by omega]at h;exact h.symm
def sK (h:L1=nG p r L):L1 r=L p:=by
 rw[h];unfold nG r5;split <;>simp_all
def OB (hc:c<cols)(h:ip n m (cols-c) c ⟨L,piv,cs,sw⟩=E)(hp:iF c L (n-piv.length) piv.length=n):ip n m (cols-(c+1)) (c+1) ⟨L,piv,cs,sw⟩=E:=by
 rw[jz hc]at h;unfold ip pu at h;rw[if_pos hp]at h;exact h
def J0 (hc:c<cols)(h:ip n m (cols-c) c ⟨L,piv,cs,sw⟩=E)(hp:iF c L (n-piv.length) piv.length=p)(hpn:p<n)(hL1:L1=nG p piv.length L)(hd:mH piv.length (ap (L1 piv.length) c) (m-c) c L1=none):E=none:=by
 rw[jz hc]at h;unfold ip pu at h
 dsimp only at h
 rw[hp,if_neg U,<-hL1,<-sK hL1,hd]at h;exact h.symm
def AG (hc:c<cols)(h:ip n m (cols-c) c ⟨L,piv,cs,sw⟩=E)(hp:iF c L (n-piv.length) piv.length=p)(hpn:p<n)(hL1:L1=nG p piv.length L)(hd:mH piv.length (ap (L1 piv.length) c) (m-c) c L1=some L2)(hcl:ky m piv.length c n 0 L2=none):E=none:=by
 rw[jz hc]at h;unfold ip pu at h
 dsimp only at h
 rw[hp,if_neg U,<-hL1,<-sK hL1,hd]at h
 dsimp only at h
 rw[hcl]at h;exact h.symm
def OC (hc:c<cols)(h:ip n m (cols-c) c ⟨L,piv,cs,sw⟩=E)(hp:iF c L (n-piv.length) piv.length=p)(hpn:p<n)(hL1:L1=nG p piv.length L)(hsw:sw'=if p=piv.length then sw else sw+1)(hd:mH piv.length (ap (L1 piv.length) c) (m-c) c L1=some L2)(hcl:ky m piv.length c n 0 L2=some L3):
 ip n m (cols-(c+1)) (c+1) ⟨L3,piv++[ap (L1 piv.length) c],cs++[c],sw'⟩=E:=by
 rw[jz hc]at h;unfold ip pu at h
 dsimp only at h
 rw[hp,if_neg U,<-hL1,<-sK hL1,hd]at h
 dsimp only at h
 rw[hcl,<-hsw]at h;exact h
def TZ (hc:¬c<cols){s:El}(h:ip n m (cols-c) c s=E):E=some s:=by
 rw[show cols-c=0 by omega]at h;exact h.symm
end steps
def g36:prog.eqGuardType prog.depth 33=false:=by kernel_rfl
def Za:prog.stoodInHeld 33=false:=by kernel_rfl
def EX (w:World)(cs:Array Value)(i:Nat)(v:Value)(h:cs[i]?=some v):(part 9 cs i).run prog w=.ok v w:=by
 unfold part
 simp[isAgg,run_underlying underlying9,h]
def Z7 (w:World)(a b:List UInt8)(d:Nat):(Op.equalIn (d+1) 9 (S a) (S b)).run prog w=.ok (decide (a=b)) w:=by
 unfold Op.equalIn
 simp[run_underlying underlying9,S]
 have h:∀x y:ByteArray,(x==y)=(x.data==y.data):=λx y=>by cases x;cases y;rfl
 rw[h]
 exact Bool.eq_iff_iff.2 zd
def Xf (w:World)(a b:R):(Op.equal 33 (.agg #[S a.1,S a.2]) (.agg #[S b.1,S b.2])).run prog w=.ok (decide (a=b)) w:=by
 unfold Op.equal Op.maxDepth
 show(Op.equalIn (9998+1+1) 33 _ _).run _ _=_
 unfold Op.equalIn
 obtain⟨a1,G⟩:=a
 obtain⟨b1,b2⟩:=b
 have O:=EX w #[S a1,S G] 0 (S a1) Z
 have p2:=EX w #[S a1,S G] 1 (S G) Z
 have p3:=EX w #[S b1,S b2] 0 (S b1) Z
 have p4:=EX w #[S b1,S b2] 1 (S b2) Z
 have e1:=Z7 w a1 b1 9998
 have e2:=Z7 w G b2 9998
 simp[run_underlying underlying33,Za,O,p2,p3,p4,e1,e2]
 by_cases h1:a1=b1 <;>by_cases h2:G=b2 <;>simp[h1,h2]
section
variable {r:Option Nat}{ds:List Deferred}{Q:Exit->Act->World->Prop}{K:Act->World->Prop}
variable {ty:Nat}{pos:String}{af:Array Edge}{g:Option (Nat×Bool)}{x y:Operand}{t':TypeId}
def EY {op:BinOp}(x y:Operand)(a b:Array Value):(eqGuard op 33 x y (.agg a) (.agg b)).run prog w=.ok () w:=by
 unfold eqGuard
 cases op <;>simp[g36]
def yf {a b:R}(hx:ev N e x=.agg #[S a.1,S a.2])(hy:ev N e y=.agg #[S b.1,S b.2])(hq:decide (a=b)=q)(hk:K (act N (upd e d (.bool q)) ds) w):
 Oper.wpIn (Fw r) n prog ⟨some d,.binOp .eql 33 x y t',ty,pos,af,g⟩ (act N e ds) w K Q:=
 dQ hx hy (EY ..) (by subst hq;simp[binOp,Xf]) hk
def qU {a b:R}(hx:ev N e x=.agg #[S a.1,S a.2])(hy:ev N e y=.agg #[S b.1,S b.2])(hq:(!decide (a=b))=q)(hk:K (act N (upd e d (.bool q)) ds) w):
 Oper.wpIn (Fw r) n prog ⟨some d,.binOp .neq 33 x y t',ty,pos,af,g⟩ (act N e ds) w K Q:=
 dQ hx hy (EY ..) (by subst hq;simp[binOp,Xf]) hk
end
def take_set {α:Type}(l:List α)(m i:Nat)(a:α)(h:i<m):(l.set i a).take m=(l.take m).set i a:=by
 rw[List.take_set]
def uy:∀(l:List R) (k:Nat) (q:R),((ag l).set (k*2) (S q.1)).set (k*2+1) (S q.2)=ag (l.set k q)
 |[],k,q=>by simp[ag]
 |a::t,0,q=>by simp[ag]
 | a::t,k+1,q=>by
   have ih:=uy t k q
   rw[show(k+1)*2=k*2+2 by omega,show k*2+2+1=k*2+1+2 by omega]
   simp only[ag,List.flatMap_cons,List.cons_append,List.nil_append,List.set_cons_succ]at ih ⊢
   rw[ih]
def px {l:List R}{q:R}(h:W.ownsRow lo t 2 v n (ag l))(hl:l.length=n)(hk:k<n):
 ∃cur,ar W (aO (sA v)) t cur/\cL (sA v)=0/\k*2+2<=cur.size/\v.ownBlock=some (aO (sA v))/\∀W',ar W' (aO (sA v)) t (putCells cur (k*2) [S q.1,S q.2])->W'.ownsRow lo t 2 v (l.set k q).length (ag (l.set k q)):=by
 obtain⟨h1,⟨rfl,A0⟩|⟨g,cap,cur,rfl,G,O,hc,hm,hs,ht⟩⟩:=h
 · omega
 · refine⟨cur,O,rfl,by omega,rfl,λW' hB=>?_⟩
   rw[List.length_set,hl]
   refine⟨by rw[fU,List.length_set,hl],.inr ⟨g,cap,_,rfl,G,hB,hc,hm,?_,?_⟩⟩
   · simp[putCells,hs]
   · show((cur.setIfInBounds (k*2) (S q.1)).setIfInBounds (k*2+1) (S q.2)).toList.take (n*2)=_
     rw[Array.toList_setIfInBounds,Array.toList_setIfInBounds,List.take_set,List.take_set,ht,uy]
section
variable {r:Option Nat}{ds:List Deferred}{Q:Exit->Act->World->Prop}{K:Act->World->Prop}
variable {ty:Nat}{pos:String}{af:Array Edge}{g:Option (Nat×Bool)}{x y:Operand}
def py {hi m:Nat}{L:Nat->List R}{q:R}(h:Wr w lo hi m H L)(hi':i<m)(hk:k<(L i).length)(hs:(prog.info? t).map (·.size)=some 2)(hx:ev N e x=.pointer (some ⟨aO (sA (H i)),cL (sA (H i))+k*2,none⟩))(hy:ev N e y=.agg #[S q.1,S q.2])(hK:∀w',dP w w' (aO (sA (H i)))->lo<=aO (sA (H i))->aO (sA (H i))<hi->(H i).ownBlock=some (aO (sA (H i)))->Wr w' lo hi m H (bD L i ((L i).set k q))->K (act N e ds) w'):
 Oper.wpIn (Fw r) n prog ⟨none,.store t x y,ty,pos,af,g⟩ (act N e ds) w K Q:=by
 obtain⟨Ab,hB,Af,Ao,G,Am⟩:=px (q:=q) (h.own i hi') Z hk
 rw[Af,Nat.zero_add]at hx
 refine bo (vs:=[S q.1,S q.2]) (cs:=Ab) hs hx hy (by simp[S,Value.oneCell']) hB Ao (λw' A0 hB'=>hK w' A0 (aR (h.own i hi') _ G) (h.hi i hi' _ G) G ?_)
 refine⟨λj O=>?_,h.hi,h.ne⟩
 by_cases hji:j=i
 · subst hji;rw[aX];exact Am w' hB'
 · rw[bc _ _ hji]
   exact av A0 (λe=>h.ne i j hi' O (Ne.symm hji) _ G e) (h.own j O)
end
def Ho (W:World)(A:Option Addr)(n:Nat)(H:Nat->Value):Prop:=∃g cur,A=some ⟨g,0,none⟩/\ar W g 28 cur/\n<=cur.size/\∀i,i<n->cur[i]?=some (H i)
section
variable {W':World}
def Ho.ext (k:aN W W')(h:Ho W A n H):Ho W' A n H:=by
 obtain⟨g,G,h1,h2,h3⟩:=h;exact⟨g,G,h1,h2.ext k,h3⟩
def ac0:=@Ho.ext
def Ho.put {b:Nat}(k:dP W W' b)(hb:aO A≠b)(h:Ho W A n H):Ho W' A n H:=by
 obtain⟨g,G,rfl,h2,h3⟩:=h;exact⟨g,G,rfl,ab2 k hb h2,h3⟩
def Ho.gr {row:Option Nat}(k:W.grownBy W' row)(hb:some (aO A)≠row)(h:Ho W A n H):Ho W' A n H:=by
 obtain⟨g,G,rfl,h2,h3⟩:=h;exact⟨g,G,rfl,aa3 k hb h2,h3⟩
def Ho.cell (h:Ho W A n H)(hi:i<n):A=some ⟨aO A,cL A,none⟩/\W.cell? ⟨aO A,cL A+i,none⟩=some (H i):=by
 obtain⟨g,G,rfl,h2,_,h4⟩:=h
 exact⟨rfl,h2.cell (by show G[0+i]?=_;rw[Nat.zero_add];exact h4 i hi)⟩
def Ho.rw (h:Ho W A n H)(hl:lo<=aO A):Rw W lo A ((List.range n).map H):=by
 obtain⟨g,_,rfl,h2,_,h4⟩:=h
 refine⟨λj u hu=>⟨g,0,rfl,?_⟩,λO e=>by cases e;exact hl,λO e=>by cases e;exact h2.lt⟩
 have G:j<n:=by have:=(List.getElem?_eq_some_iff.1 hu).1;simpa using this
 rw[Nat.zero_add]
 refine h2.cell ?_
 rw[h4 j G]
 rw[List.getElem?_map,List.getElem?_range G]at hu
 simpa using hu
def Ho.of_own (h:W.ownsRow lo 28 1 v n ((List.range n).map H))(hn:0<n):Ho W (sA v) n H/\lo<=aO (sA v)/\v.ownBlock=some (aO (sA v)):=by
 obtain⟨h1,⟨rfl,Ab⟩|⟨g,cap,G,rfl,O,A0,hc,hm,hs,ht⟩⟩:=h
 · omega
 · refine⟨⟨g,G,rfl,A0,by omega,λi hi=>?_⟩,O,rfl⟩
   have h2:(G.toList.take (n*1))[i]?=((List.range n).map H)[i]?:=by rw[ht]
   rw[List.getElem?_take,if_pos U,List.getElem?_map,List.getElem?_range hi]at h2
   simpa using h2
def Ho.congr (h:Ho W A n H)(hL:∀i,i<n->H i=H' i):Ho W A n H':=by
 obtain⟨g,G,h1,h2,h3,h4⟩:=h
 exact⟨g,G,h1,h2,h3,λi hi=>by rw[<-hL i hi];exact h4 i hi⟩
end
section
variable {r:Option Nat}{ds:List Deferred}{Q:Exit->Act->World->Prop}{K:Act->World->Prop}
variable {ty:Nat}{pos:String}{af:Array Edge}{g:Option (Nat×Bool)}{x y:Operand}
def ja {m:Nat}(h:Ho w A m H)(hi:i<m)(hs:(prog.info? t).map (·.size)=some 1)(hx:ev N e x=.pointer (some ⟨aO A,cL A+i,none⟩))(hy:ev N e y=v)(h1:v.oneCell'=true)(hK:∀w',dP w w' (aO A)->Ho w' A m (bD H i v)->K (act N e ds) w'):Oper.wpIn (Fw r) n prog ⟨none,.store t x y,ty,pos,af,g⟩ (act N e ds) w K Q:=by
 obtain⟨G,A0,rfl,h2,h3,h4⟩:=h
 have hx':ev N e x=.pointer (some ⟨G,i,none⟩):=by rw[hx];simp[aO,cL]
 refine cI (cs:=A0) hs hx' hy h1 h2 U (λw' Ab hB=>hK w' Ab ⟨G,_,rfl,hB,by rw[Array.size_setIfInBounds];exact h3,λj O=>?_⟩)
 by_cases hji:j=i
 · subst hji;rw[aX,Array.getElem?_setIfInBounds,if_pos Z,if_pos U]
 · rw[bc _ _ hji,Array.getElem?_setIfInBounds,if_neg (Ne.symm hji)];exact h4 j O
end
def jW (f:Nat->Value)(h1:v.oneCell'=true):Instr.fill (λi=>some (i*1,1)) ((Array.range 1).map f) [(0,v)]=some #[v]:=by
 have hc:v.cells=#[v]:=by cases v <;>first|rfl|(simp[Value.oneCell']at h1;done)
 have hr:(Array.range 1).map f=#[f 0]:=by apply Array.ext';simp[Array.range]
 unfold Instr.fill
 rw[hr,hc]
 simp[Instr.fill]
end
section
set_option maxRecDepth 100000
open Go Go.Eng Go.RowKit Tryz
attribute [local irreducible] wpListIn Code.wpIn Oper.wpIn Exit.then Exit.inBlock Exit.noGoto
set_option maxHeartbeats 40000000
abbrev PN:List PanicEntry:=pan 36 130
def C9 (a:R):Prop:=a.1.length<=1000000/\a.2.length<=1000000
def sM {a:R}(h:bN a=true):C9 a:=Oz h
def Q7 (a b:R)(w:World)(ht:Tb w):CL 312 #[.agg #[S a.1,S a.2],.agg #[S b.1,S b.2]] w (aH w λv _=>v=gV (jR a b)):=Oj a.1 a.2 b.1 b.2 w ht
def J1 (a b:R)(w:World)(ht:Tb w):CL 117 #[.agg #[S a.1,S a.2],.agg #[S b.1,S b.2]] w (aH w λv _=>v=gV (dE a b)):=EL a.1 a.2 b.1 b.2 w ht
def Q8 (a b:R)(w:World)(ht:Tb w):CL 13 #[.agg #[S a.1,S a.2],.agg #[S b.1,S b.2]] w (aH w λv _=>v=gV (gj a b)):=Of a.1 a.2 b.1 b.2 w ht
def Ra (a b:R)(w:World)(ht:Tb w):CL 15 #[.agg #[S a.1,S a.2],.agg #[S b.1,S b.2]] w (aH w λv _=>v=gV (mF a b)):=Og a.1 a.2 b.1 b.2 w ht
def lF (a:R)(c:Int)(w:World)(h:c=0):
 CL 311 #[.agg #[S ((a).1),S ((a).2)],.int .i64 c] w (aH w λv w'=>v=.agg #[S a.1,S a.2]):=by
 refine aC func311 Z (I ?_);refine bx (λA0 Af G=>?_);have E4:=Af.2;refine al aZ (λ_ Am Ab=>?_);have⟨G,E4⟩:=bw Am.2 G E4;refine I ?_;refine SA Ab (λ_ O Ao=>?_);have G:=pb O G;have E4:=bA O E4;refine I ?_;refine ba (v:=.agg #[S ((a).1),S ((a).2)]) (cC  rfl ?_) E4 Z;refine ak (t:=4) (cs:=[S ((a).1),S ((a).2)]) (b:=A0.heap.size) (o:=0) iT Z bX ?_ ?_;exact Z;exact aa1 Ao (i:=0) Z
def kn (a:R)(c:Int)(w:World)(h:¬c=0):CL 311 #[.agg #[S a.1,S a.2],.int .i64 c] w (fo PN w):=by
 refine iW func311 Z (I ?_);refine bx (λ_ O _=>?_);have E14:=O.2;refine al aZ (λ_ G _=>?_);have E14:=xt E14 G.2;refine I ?_;refine aa (ju (v:=.int .i64 130) BV Z Z ?_);refine aa (Ek (ty':=36) (u:=.int .i64 130) Z ?_);refine I ?_;exact gD ⟨E14,rfl⟩
def kS : ew prog 106 "yardstick/linear.zero" 134 := kK q0
def EZ : ew prog 106 "yardstick/linear.one" 309 := kK q0
def yg : ew prog 106 "yardstick/linear.add" 306 := kK q0
def pC : ew prog 106 "yardstick/linear.sub" 310 := kK q0
def ko : ew prog 106 "yardstick/linear.mul" 308 := kK q0
def yh : ew prog 106 "yardstick/linear.div" 307 := kK q0
def lG (w:World):
 CL 134 #[.agg #[]] w (aH w λv w'=>v=.agg #[S z0.1,S z0.2]):=by
 refine aC func134 Z (I ?_);refine bx (λA0 Ab G=>?_);have E21:=Ab.2;refine al aZ (λ_ Af Am=>?_);have⟨G,E21⟩:=bw Af.2 G E21;refine I ?_;refine SA Am (λ_ O Ao=>?_);have G:=pb O G;have E21:=bA O E21;refine I ?_;refine ba (v:=.agg #[S [48],S [49]]) (cC  rfl ?_) E21 Z;refine ak (t:=2) (cs:=[S [48],S [49]]) (b:=A0.heap.size) (o:=0) iT Z bX ?_ ?_;exact Z;exact aa1 Ao (i:=0) Z
def J2 (w:World):
 CL 309 #[.agg #[]] w (aH w λv w'=>v=.agg #[S o1.1,S o1.2]):=by
 refine aC func309 Z (I ?_);refine bx (λA0 Am G=>?_);have E31:=Am.2;refine al aZ (λ_ Ao Af=>?_);have⟨G,E31⟩:=bw Ao.2 G E31;refine I ?_;refine SA Af (λ_ O Ab=>?_);have G:=pb O G;have E31:=bA O E31;refine I ?_;refine ba (v:=.agg #[S [49],S [49]]) (cC  rfl ?_) E31 Z;refine ak (t:=2) (cs:=[S [49],S [49]]) (b:=A0.heap.size) (o:=0) iT Z bX ?_ ?_;exact Z;exact aa1 Ab (i:=0) Z
def GR (a b q:R)(w:World)(ht:Tb w)(hT:jR a b=some q):CL 306 #[.agg #[],.agg #[S ((a).1),S ((a).2)],.agg #[S ((b).1),S ((b).2)]] w (aH w λv w'=>v=.agg #[S q.1,S q.2]):=by
 refine aC func306 Z (I ?_);refine bx (λCB Aq G=>?_);have E41:=Aq.2;refine bx (λAy Aw O=>?_);have⟨G,E41⟩:=bw Aw.2 G E41;refine bx (λAp As A0=>?_);have⟨G,O,E41⟩:=cD As.2 G O E41;refine al aZ (λB1 Am Ab=>?_);have⟨G,O,A0,E41⟩:=fE Am.2 G O A0 E41;refine I ?_;refine cl QC (Q7 a b _ (ht.ext E41)) ?_;rintro B0 B2 Ao hv;have⟨G,O,A0,Ab,E41⟩:=ka Ao.2 G O A0 Ab E41;rw[hT]at hv;subst hv;refine I ?_;refine cl rm (lF q 0 _ Z) ?_;rintro Az Ax Av rfl;have⟨G,O,A0,Ab,E41⟩:=ka Av.2 G O A0 Ab E41;refine SA Ab (λC0 Af Ar=>?_);have⟨G,O,A0⟩:=nW Af G O A0;have E41:=bA Af E41;refine I ?_;refine ba (v:=.agg #[S ((q).1),S ((q).2)]) (cC  rfl ?_) E41 Z;refine ak (t:=6) (cs:=[S ((q).1),S ((q).2)]) (b:=Ap.heap.size) (o:=0) iT Z bX ?_ ?_;exact Z;exact aa1 Ar (i:=0) Z
def Da (a b:R)(w:World)(ht:Tb w)(hT:jR a b=none):CL 306 #[.agg #[],.agg #[S ((a).1),S ((a).2)],.agg #[S ((b).1),S ((b).2)]] w (fo PN w):=by
 refine iW func306 Z (I ?_);refine bx (λ_ Ap _=>?_);have E63:=Ap.2;refine bx (λ_ A0 G=>?_);have E63:=xt E63 A0.2;refine bx (λ_ Ab O=>?_);have⟨G,E63⟩:=bw Ab.2 G E63;refine al aZ (λ_ Af _=>?_);have⟨G,O,E63⟩:=cD Af.2 G O E63;refine I ?_;refine cl QC (Q7 a b _ (ht.ext E63)) ?_;rintro _ _ Am hv;have E63:=xt E63 Am.2;rw[hT]at hv;subst hv;refine I ?_;refine aa (dO (vs:=[.agg #[S [],S []],.int .i64 40]) rm Z (kn ([],[]) 40 _ dc) (λ_ Ao=>?_));have E63:=xt E63 Ao;refine I ?_;exact gD ⟨E63,rfl⟩
def J3 (a b:R)(w:World)(ht:Tb w):CL 306 #[.agg #[],.agg #[S ((a).1),S ((a).2)],.agg #[S ((b).1),S ((b).2)]] w (jj PN w (jR a b) λq v _=>v=.agg #[S q.1,S q.2]):=
 jj.of (λq h=>GR a b q w ht h) (λh=>Da a b w ht h)
def GT (a b q:R)(w:World)(ht:Tb w)(hT:dE a b=some q):CL 310 #[.agg #[],.agg #[S ((a).1),S ((a).2)],.agg #[S ((b).1),S ((b).2)]] w (aH w λv w'=>v=.agg #[S q.1,S q.2]):=by
 refine aC func310 Z (I ?_);refine bx (λB0 Aq G=>?_);have E81:=Aq.2;refine bx (λAx Ap O=>?_);have⟨G,E81⟩:=bw Ap.2 G E81;refine bx (λAv Ao A0=>?_);have⟨G,O,E81⟩:=cD Ao.2 G O E81;refine al aZ (λCB Ar Ab=>?_);have⟨G,O,A0,E81⟩:=fE Ar.2 G O A0 E81;refine I ?_;refine cl Ea (J1 a b _ (ht.ext E81)) ?_;rintro B2 Az Am hv;have⟨G,O,A0,Ab,E81⟩:=ka Am.2 G O A0 Ab E81;rw[hT]at hv;subst hv;refine I ?_;refine cl rm (lF q 0 _ Z) ?_;rintro Ay C0 As rfl;have⟨G,O,A0,Ab,E81⟩:=ka As.2 G O A0 Ab E81;refine SA Ab (λB1 Af Aw=>?_);have⟨G,O,A0⟩:=nW Af G O A0;have E81:=bA Af E81;refine I ?_;refine ba (v:=.agg #[S ((q).1),S ((q).2)]) (cC  rfl ?_) E81 Z;refine ak (t:=6) (cs:=[S ((q).1),S ((q).2)]) (b:=Av.heap.size) (o:=0) iT Z bX ?_ ?_;exact Z;exact aa1 Aw (i:=0) Z
def Db (a b:R)(w:World)(ht:Tb w)(hT:dE a b=none):CL 310 #[.agg #[],.agg #[S ((a).1),S ((a).2)],.agg #[S ((b).1),S ((b).2)]] w (fo PN w):=by
 refine iW func310 Z (I ?_);refine bx (λ_ Am _=>?_);have G:=Am.2;refine bx (λ_ Aq O=>?_);have G:=xt G Aq.2;refine bx (λ_ Af A0=>?_);have⟨O,G⟩:=bw Af.2 O G;refine al aZ (λ_ Ao _=>?_);have⟨O,A0,G⟩:=cD Ao.2 O A0 G;refine I ?_;refine cl Ea (J1 a b _ (ht.ext G)) ?_;rintro _ _ Ab hv;have G:=xt G Ab.2;rw[hT]at hv;subst hv;refine I ?_;refine aa (dO (vs:=[.agg #[S [],S []],.int .i64 40]) rm Z (kn ([],[]) 40 _ dc) (λ_ Ap=>?_));have G:=xt G Ap;refine I ?_;exact gD ⟨G,rfl⟩
def Dc (a b:R)(w:World)(ht:Tb w):CL 310 #[.agg #[],.agg #[S ((a).1),S ((a).2)],.agg #[S ((b).1),S ((b).2)]] w (jj PN w (dE a b) λq v _=>v=.agg #[S q.1,S q.2]):=
 jj.of (λq h=>GT a b q w ht h) (λh=>Db a b w ht h)
def GU (a b q:R)(w:World)(ht:Tb w)(hT:gj a b=some q):CL 308 #[.agg #[],.agg #[S ((a).1),S ((a).2)],.agg #[S ((b).1),S ((b).2)]] w (aH w λv w'=>v=.agg #[S q.1,S q.2]):=by
 refine aC func308 Z (I ?_);refine bx (λAy Aq O=>?_);have G:=Aq.2;refine bx (λB1 Ao A0=>?_);have⟨O,G⟩:=bw Ao.2 O G;refine bx (λAw Ar Ab=>?_);have⟨O,A0,G⟩:=cD Ar.2 O A0 G;refine al aZ (λB2 Av Af=>?_);have⟨O,A0,Ab,G⟩:=fE Av.2 O A0 Ab G;refine I ?_;refine cl QE (Q8 a b _ (ht.ext G)) ?_;rintro Az Ax As hv;have⟨O,A0,Ab,Af,G⟩:=ka As.2 O A0 Ab Af G;rw[hT]at hv;subst hv;refine I ?_;refine cl rm (lF q 0 _ Z) ?_;rintro B0 ny Ap rfl;have⟨O,A0,Ab,Af,G⟩:=ka Ap.2 O A0 Ab Af G;refine SA Af (λod Am nm=>?_);have⟨O,A0,Ab⟩:=nW Am O A0 Ab;have G:=bA Am G;refine I ?_;refine ba (v:=.agg #[S ((q).1),S ((q).2)]) (cC  rfl ?_) G Z;refine ak (t:=6) (cs:=[S ((q).1),S ((q).2)]) (b:=Aw.heap.size) (o:=0) iT Z bX ?_ ?_;exact Z;exact aa1 nm (i:=0) Z
def Dd (a b:R)(w:World)(ht:Tb w)(hT:gj a b=none):CL 308 #[.agg #[],.agg #[S ((a).1),S ((a).2)],.agg #[S ((b).1),S ((b).2)]] w (fo PN w):=by
 refine iW func308 Z (I ?_);refine bx (λ_ Am _=>?_);have G:=Am.2;refine bx (λ_ Aq O=>?_);have G:=xt G Aq.2;refine bx (λ_ Af A0=>?_);have⟨O,G⟩:=bw Af.2 O G;refine al aZ (λ_ Ao _=>?_);have⟨O,A0,G⟩:=cD Ao.2 O A0 G;refine I ?_;refine cl QE (Q8 a b _ (ht.ext G)) ?_;rintro _ _ Ab hv;have G:=xt G Ab.2;rw[hT]at hv;subst hv;refine I ?_;refine aa (dO (vs:=[.agg #[S [],S []],.int .i64 40]) rm Z (kn ([],[]) 40 _ dc) (λ_ Ap=>?_));have G:=xt G Ap;refine I ?_;exact gD ⟨G,rfl⟩
def qV (a b:R)(w:World)(ht:Tb w):CL 308 #[.agg #[],.agg #[S ((a).1),S ((a).2)],.agg #[S ((b).1),S ((b).2)]] w (jj PN w (gj a b) λq v _=>v=.agg #[S q.1,S q.2]):=
 jj.of (λq h=>GU a b q w ht h) (λh=>Dd a b w ht h)
def GV (a b q:R)(w:World)(ht:Tb w)(hT:mF a b=some q):CL 307 #[.agg #[],.agg #[S ((a).1),S ((a).2)],.agg #[S ((b).1),S ((b).2)]] w (aH w λv w'=>v=.agg #[S q.1,S q.2]):=by
 refine aC func307 Z (I ?_);refine bx (λAy Aq O=>?_);have G:=Aq.2;refine bx (λB1 Ao A0=>?_);have⟨O,G⟩:=bw Ao.2 O G;refine bx (λAw Ar Ab=>?_);have⟨O,A0,G⟩:=cD Ar.2 O A0 G;refine al aZ (λB2 Av Af=>?_);have⟨O,A0,Ab,G⟩:=fE Av.2 O A0 Ab G;refine I ?_;refine cl QD (Ra a b _ (ht.ext G)) ?_;rintro Az Ax As hv;have⟨O,A0,Ab,Af,G⟩:=ka As.2 O A0 Ab Af G;rw[hT]at hv;subst hv;refine I ?_;refine cl rm (lF q 0 _ Z) ?_;rintro B0 ny Ap rfl;have⟨O,A0,Ab,Af,G⟩:=ka Ap.2 O A0 Ab Af G;refine SA Af (λod Am nm=>?_);have⟨O,A0,Ab⟩:=nW Am O A0 Ab;have G:=bA Am G;refine I ?_;refine ba (v:=.agg #[S ((q).1),S ((q).2)]) (cC  rfl ?_) G Z;refine ak (t:=6) (cs:=[S ((q).1),S ((q).2)]) (b:=Aw.heap.size) (o:=0) iT Z bX ?_ ?_;exact Z;exact aa1 nm (i:=0) Z
def De (a b:R)(w:World)(ht:Tb w)(hT:mF a b=none):CL 307 #[.agg #[],.agg #[S ((a).1),S ((a).2)],.agg #[S ((b).1),S ((b).2)]] w (fo PN w):=by
 refine iW func307 Z (I ?_);refine bx (λ_ Am _=>?_);have G:=Am.2;refine bx (λ_ Aq O=>?_);have G:=xt G Aq.2;refine bx (λ_ Af A0=>?_);have⟨O,G⟩:=bw Af.2 O G;refine al aZ (λ_ Ao _=>?_);have⟨O,A0,G⟩:=cD Ao.2 O A0 G;refine I ?_;refine cl QD (Ra a b _ (ht.ext G)) ?_;rintro _ _ Ab hv;have G:=xt G Ab.2;rw[hT]at hv;subst hv;refine I ?_;refine aa (dO (vs:=[.agg #[S [],S []],.int .i64 40]) rm Z (kn ([],[]) 40 _ dc) (λ_ Ap=>?_));have G:=xt G Ap;refine I ?_;exact gD ⟨G,rfl⟩
def J4 (a b:R)(w:World)(ht:Tb w):CL 307 #[.agg #[],.agg #[S ((a).1),S ((a).2)],.agg #[S ((b).1),S ((b).2)]] w (jj PN w (mF a b) λq v _=>v=.agg #[S q.1,S q.2]):=
 jj.of (λq h=>GV a b q w ht h) (λh=>De a b w ht h)
def Df (w:World):
 CL 81 #[] w (aH w λv w'=>v=.agg #[S z0.1,S z0.2]):=by
 refine aC func81 Z (I ?_);refine al aZ (λ_ A0 O=>?_);have G:=A0.2;refine I ?_;refine SA O (λ_ Af Ab=>?_);have G:=bA Af G;refine I ?_;refine ba (v:=.agg #[S [48],S [49]]) (cC  rfl ?_) G Z;refine ak (t:=0) (cs:=[S [48],S [49]]) (b:=w.heap.size) (o:=0) iT Z bX ?_ ?_;exact Z;exact aa1 Ab (i:=0) Z
def GW (w:World):
 CL 128 #[] w (aH w λv w'=>v=.agg #[S o1.1,S o1.2]):=by
 refine aC func128 Z (I ?_);refine al aZ (λ_ A0 O=>?_);have G:=A0.2;refine I ?_;refine SA O (λ_ Af Ab=>?_);have G:=bA Af G;refine I ?_;refine ba (v:=.agg #[S [49],S [49]]) (cC  rfl ?_) G Z;refine ak (t:=0) (cs:=[S [49],S [49]]) (b:=w.heap.size) (o:=0) iT Z bX ?_ ?_;exact Z;exact aa1 Ab (i:=0) Z
end
section
set_option maxRecDepth 100000
open Go Go.Eng Go.RowKit Tryz
def r6 {c:Code}{args:Array Value}{u:FrameMode}{R:Ending->FrameMode->World->Prop}(hf:P.funcs[f]?=some fn)(hb:fn.body=some c)(h:∀(c₀:Frame) (cs:List Frame),c₀.mode=u->
 c.wpS P (bodyPostS P fn c₀ cs R) {tmps:=args++Array.replicate (fn.ntmps-args.size) undef,defers:=[]} (c₀::cs) w):
 CallsDIn Fence.wide n P f args u w R:=by
 refine⟨trivial,λc₀ cs hu _=>?_⟩
 let b:Frame:={(default:Frame)with fn:=f,kind:=.deferred}
 have henter:Frame.enter P f args .deferred=
  b.at {tmps:=args++Array.replicate (fn.ntmps-args.size) undef,defers:=[]} [.code c]:=by
  simp[Frame.enter,Frame.at,hf,hb,b]
 obtain⟨e,_,_,w',hq,O⟩:=h c₀ cs hu b [] Z Z
 rw[<-henter]at O
 cases e with
 | normal=>
   obtain⟨hd,G,rfl,v,hr,hR⟩:=hq
   exact⟨.returned v,G,w',_,hR,comesIn_wide.2 (Steps.trans O (.one step_end)),rfl,rfl,rfl,hd,fn,hf,hr⟩
 | ret=>
   obtain⟨hd,G,rfl,v,hr,hR⟩:=hq
   obtain⟨A0,hs⟩:=O
   exact⟨.returned v,G,w',_,hR,comesIn_wide.2 hs,rfl,rfl,rfl,hd,fn,hf,hr⟩
 | panic chain=>
   obtain⟨hd,G,rfl,hR⟩:=hq
   obtain⟨A0,hs⟩:=O
   exact⟨.panicked chain,G,w',_,hR,comesIn_wide.2 hs,rfl,rfl,rfl,hd,fn,hf⟩
 |exit id=>exact hq.elim
 |goto l=>exact hq.elim
 | outgrown=>
   obtain⟨G,hR⟩:=hq
   exact⟨.outgrown,G,w',b,hR,O.resolve_left (by simp[b]),rfl,rfl,trivial⟩
section
variable {r:Option Nat}{ds:List Deferred}{Q:Exit->Act->World->Prop}{K:Act->World->Prop}
variable {ty:Nat}{pos:String}{af:Array Edge}{g:Option (Nat×Bool)}{x y:Operand}{t':TypeId}
def OD {ms:Array (String×TypeId)}(hu:P.underlying t=some (.interface ms))(hx:ev N e x=.nilIface)(hy:y=.const .nilIface)(hk:K (act N (upd e d (.bool true)) ds) w):
 Oper.wpIn (Fw r) n P ⟨some d,.binOp .eql t x y t',ty,pos,af,g⟩ (act N e ds) w K Q:=by
 subst hy
 refine dQ (X:=.nilIface) (Y:=.nilIface) hx Z ?_ ?_ hk
 · unfold eqGuard;simp
 · have:(Op.equal t .nilIface .nilIface).run P w=.ok true w:=by
    unfold Op.equal Op.maxDepth
    show(Op.equalIn (9999+1) t _ _).run _ _=_
    unfold Op.equalIn
    simp[run_underlying hu]
   simp[binOp,this]
def OE {ms:Array (String×TypeId)}(hu:P.underlying t=some (.interface ms))(hx:ev N e x=.iface ty' u)(hy:y=.const .nilIface)(hk:K (act N (upd e d (.bool false)) ds) w):
 Oper.wpIn (Fw r) n P ⟨some d,.binOp .eql t x y t',ty,pos,af,g⟩ (act N e ds) w K Q:=by
 subst hy
 refine dQ (X:=.iface ty' u) (Y:=.nilIface) hx Z ?_ ?_ hk
 · unfold eqGuard;simp
 · have:(Op.equal t (.iface ty' u) .nilIface).run P w=.ok false w:=by
    unfold Op.equal Op.maxDepth
    show(Op.equalIn (9999+1) t _ _).run _ _=_
    unfold Op.equalIn
    simp[run_underlying hu]
   simp[binOp,this]
def GX {a:TypeId}{D:TypeDesc}(hu:P.underlying a=some D)(hd:zF D=true)(hx:ev N e x=.iface a u)(hk:K (act N (upd e d (.tuple #[u,.bool true])) ds) w):
 Oper.wpIn (Fw r) n P ⟨some d,.typeAssert x t a true,ty,pos,af,g⟩ (act N e ds) w K Q:=by
 refine cW (v:=.tuple #[u,.bool true]) (w':=w) Z ?_ Hx
 have:(Instr.typeAssert (.iface a u) t a true).run P w=.ok (.tuple #[u,.bool true]) w:=by
  unfold Instr.typeAssert
  cases D <;>first|(cases hd;done)|simp[run_underlying hu]
 simp[execOp,hx,this]
def uz {xs:Array Operand}(hv:xs.toList.map (ev N e)=vs)(hk:K (act N e ({target:=.fn (.func f) #[],args:=vs.toArray}::ds)) w):
 Oper.wpIn (Fw none) n P ⟨none,.defer {callee:=.value (.func f),args:=xs,argTypes:=ats},ty,pos,af,g⟩ (act N e ds) w K Q:=by
 subst hv
 refine⟨λf _=>kE none f,?_⟩
 rw[s7,Oper.semAt_none,cS]
 have:(execOp (ev N e) (⟨none,.defer {callee:=.value (.func f),args:=xs,argTypes:=ats},ty,pos,af,g⟩:Oper)).run P w=.ok (.defer {target:=.fn (.func f) #[],args:=(xs.toList.map (ev N e)).toArray}) w:=by
  rw[show(xs.toList.map (ev N e)).toArray=xs.map (ev N e)by rw[<-Array.toList_map,Array.toArray_toList]]
  simp[execOp,resolve,Deferred.ofValue,ev]
 rw[this]
 exact hk
end
abbrev cell1 (c:Int):Array Value:=#[.int .i64 c]
section
variable {id ty:Nat}{pos:String}{af:Array Edge}{cs cs':List Frame}{Q:Exit->Act->List Frame->World->Prop}
def GY (hr:recoverD cs=some (v,cs'))(h:Q .normal (act N (upd e d v) []) cs' w):
 (Code.region id #[⟨some d,.call {callee:=.builtin .recover,args:=#[],argTypes:=ats},ty,pos,af,none⟩] false).wpS P Q (act N e []) cs w:=by
 refine wpS_region ?_
 show wpOpsS P _ Q [0] _ _ _
 have hx:(execOp (act N e []).eval ⟨some d,.call {callee:=.builtin .recover,args:=#[],argTypes:=ats},ty,pos,af,none⟩).run P w=.ok .recover w:=by
  simp[execOp,resolve,invoke,builtin]
 simp only[wpOpsS,List.getElem?_toArray,List.getElem?_cons_zero,Region.wanted,if_true,hx,hr]
 rw[ax]
 exact h
def Dh (hr:recoverD cs=none)(h:Q .normal (act N (upd e d .nilIface) []) cs w):
 (Code.region id #[⟨some d,.call {callee:=.builtin .recover,args:=#[],argTypes:=ats},ty,pos,af,none⟩] false).wpS P Q (act N e []) cs w:=by
 refine wpS_region ?_
 show wpOpsS P _ Q [0] _ _ _
 have hx:(execOp (act N e []).eval ⟨some d,.call {callee:=.builtin .recover,args:=#[],argTypes:=ats},ty,pos,af,none⟩).run P w=.ok .recover w:=by
  simp[execOp,resolve,invoke,builtin]
 simp only[wpOpsS,List.getElem?_toArray,List.getElem?_cons_zero,Region.wanted,if_true,hx,hr]
 rw[ax]
 exact h
end
def M6 {c:Code}{u:FrameMode}{R:Ending->FrameMode->World->Prop}(hf:P.funcs[f]?=some fn)(hb:fn.body=some c)(h:∀(c₀:Frame) (cs:List Frame),c₀.mode=u->c.wpS P (bodyPostS P fn c₀ cs R) (act (args.length+(fn.ntmps-args.length)) (H7 args) []) (c₀::cs) w):CallsDIn Fence.wide n P f args.toArray u w R:=by
 refine r6 hf hb (λc₀ cs hu=>?_)
 rw[jE]
 exact h c₀ cs hu
def Di {b:Nat}(hB:ar w b 36 (cell1 c0)):
 CallsDIn Fence.wide n prog 113 #[pT b] (.panicking [{v:=.iface 36 (.int .i64 c),recovered:=false}]) w
  (λe u' w'=>(∃v,e=.returned v)/\u'=.panicking [{v:=.iface 36 (.int .i64 c),recovered:=true}]/\dP w w' b/\ar w' b 36 (cell1 c)):=by
 refine M6 (args:=[pT b]) func113 Z (λc₀ cs hu=>?_)
 refine wpS_seq (GY (v:=.iface 36 (.int .i64 c)) (cs':={c₀ with mode:=.panicking [{v:=.iface 36 (.int .i64 c),recovered:=true}]}::cs) DM ?_)
 refine wpS_of_wp (wpIn_wide (n:=0).1 ?_)
 refine oO (r:=none) ?_
 refine iR (r:=none) ?_
 refine ii (r:=none) ?_
 refine aa (r:=none) (OE underlying20 Z Z ?_)
 refine gm ?_
 refine fm ?_
 refine qp (r:=none) Z ?_
 refine iR (r:=none) ?_
 refine ii (r:=none) ?_
 refine aa (r:=none) (GX underlying36 Z Z ?_)
 refine aa (r:=none) (cX Z Z ?_)
 refine aa (r:=none) (cX Z Z ?_)
 refine gm ?_
 refine fm ?_
 refine mh (r:=none) Z ?_
 refine iR (r:=none) ?_
 refine ii (r:=none) ?_
 refine aa (r:=none) (aJ (v:=.int .i64 c) Z ?_)
 refine gm ?_
 refine fm ?_
 refine ii (r:=none) ?_
 refine aa (r:=none) (aY (v:=pT b) Z ?_)
 refine aa (r:=none) (aY (v:=.int .i64 c) Z ?_)
 refine aa (r:=none) (tu (b:=b) (o:=0) Z ?_)
 refine aa (r:=none) (cI (b:=b) (o:=0) (v:=.int .i64 c) RU Z Z Z hB zd (λw' G hb=>?_))
 refine gm ?_
 refine H6 ?_
 exact⟨rfl,_,rfl,_,nh Z,⟨_,rfl⟩,rfl,G,hb⟩
def Dj {b:Nat}:
 CallsDIn Fence.wide n prog 113 #[pT b] .returning w (λe u' w'=>(∃v,e=.returned v)/\u'=.returning/\w'=w):=by
 refine M6 (args:=[pT b]) func113 Z (λ_ _ hu=>?_)
 refine wpS_seq (Dh DM ?_)
 refine wpS_of_wp (wpIn_wide (n:=0).1 ?_)
 refine oO (r:=none) ?_
 refine iR (r:=none) ?_
 refine ii (r:=none) ?_
 refine aa (r:=none) (OD underlying20 Z Z ?_)
 refine gm ?_
 refine fm ?_
 refine mh (r:=none) Z ?_
 refine ii (r:=none) ?_
 refine aa (r:=none) (aJ (v:=.nilIface) Z ?_)
 refine gm ?_
 refine H6 ?_
 exact⟨rfl,.returning,by rw[<-hu],_,nh Z,⟨_,rfl⟩,rfl,rfl⟩
abbrev dF (b:Nat):Deferred:={target:=.fn (.func 113) #[],args:=[Value.pointer (some ⟨b,0,none⟩)].toArray}
def mI {c:Code}{R:Ending->World->Prop}(hf:P.funcs[f]?=some fn)(hb:fn.body=some c)(h:c.wpIn (Fw none) 0 P (bodyPostDIn Fence.wide 0 P fn R) (act (args.length+(fn.ntmps-args.length)) (H7 args) []) w):Calls P f args.toArray w R:=by
 refine callsIn_wide.1 (callsIn_of_wp_defers (n:=0) hf hb trivial ?_)
 rw[jE]
 exact h
section
variable {b:Nat}{R:Value->World->Prop}
def J5 (hx:aN w w')(hr:(results fn (act N e [dF b]).tmps).run prog w'=.ok v w')(hR:R v w'):bodyPostDIn Fence.wide 0 prog fn (aH w R) .ret (act N e [dF b]) w':=by
 refine leavesIn_cons (f:=113) (args:=#[pT b]) zd kd1 ?_ (λ_ _=>trivial) ?_
 · have h:=VR #[pT b] w'
   simpa[invoke]using h
 · refine CallsDIn.mono Dj ?_
   rintro _ _ _ ⟨⟨v',rfl⟩,rfl,rfl⟩
   exact⟨v,hr,hx,hR⟩
def J6 (hx:aN w w')(hb:w.heap.size<=b)(hB:ar w' b 36 (cell1 c0))(hr:∀w'',dP w' w'' b->ar w'' b 36 (cell1 c)->(results fn (act N e [dF b]).tmps).run prog w''=.ok v w''/\R v w''):
 bodyPostDIn Fence.wide 0 prog fn (aH w R) (.panic (pan 36 c)) (act N e [dF b]) w':=by
 refine leavesIn_cons (f:=113) (args:=#[pT b]) zd kd1 ?_ (λ_ _=>trivial) ?_
 · have h:=VR #[pT b] w'
   simpa[invoke]using h
 · refine CallsDIn.mono (Di hB) ?_
   rintro _ _ w'' ⟨⟨v',rfl⟩,rfl,G,hB'⟩
   obtain⟨h1,h2⟩:=hr w'' G hB'
   exact⟨v,h1,ad5 G hx hb,h2⟩
end
section
variable {r:Option Nat}{ds:List Deferred}{Q:Exit->Act->World->Prop}{K:Act->World->Prop}
variable {ty:Nat}{pos:String}{af:Array Edge}{g:Option (Nat×Bool)}{x y:Operand}{t':TypeId}
def jb (hx:ev N e x=.func (.func f) #[] lb.toArray)(hk:K (act N e ({target:=.fn (.func f) lb.toArray,args:=#[]}::ds)) w):
 Oper.wpIn (Fw none) n P ⟨none,.defer {callee:=.value x,args:=#[],argTypes:=ats},ty,pos,af,g⟩ (act N e ds) w K Q:=by
 refine⟨λf _=>kE none f,?_⟩
 rw[s7,Oper.semAt_none,cS]
 have:(execOp (ev N e) (⟨none,.defer {callee:=.value x,args:=#[],argTypes:=ats},ty,pos,af,g⟩:Oper)).run P w=.ok (.defer {target:=.fn (.func f) lb.toArray,args:=#[]}) w:=by
  simp[execOp,resolve,Deferred.ofValue,hx]
 rw[this]
 exact hk
end
section
variable {id ty:Nat}{pos:String}{af:Array Edge}{cs:List Frame}{Q:Exit->Act->List Frame->World->Prop}{ops:Array Oper}{rest:List Nat}{op:Op}{dst:Option Tmp}
def T0 (hn:List.range ops.size=0::rest)(h0:ops[0]?=some ⟨some d,.call {callee:=.builtin .recover,args:=#[],argTypes:=ats},ty,pos,af,none⟩)(hr:recoverD cs=none)(h:wpOpsS P ops Q rest (act N (upd e d .nilIface) []) cs w):
 (Code.region id ops false).wpS P Q (act N e []) cs w:=by
 refine wpS_region ?_
 rw[hn]
 have hx:(execOp (act N e []).eval ⟨some d,.call {callee:=.builtin .recover,args:=#[],argTypes:=ats},ty,pos,af,none⟩).run P w=.ok .recover w:=by
  simp[execOp,resolve,invoke,builtin]
 simp only[wpOpsS,h0,Region.wanted,if_true,hx,hr]
 rw[ax]
 exact h
def jp (h0:ops[i]?=some ⟨some d,op,ty,pos,af,none⟩)(hx:(execOp (ev N e) (⟨some d,op,ty,pos,af,none⟩:Oper)).run P w=.ok (.value v) w)(h:wpOpsS P ops Q rest (act N (upd e d v) []) cs w):
 wpOpsS P ops Q (i::rest) (act N e []) cs w:=by
 have hx':(execOp (act N e []).eval (⟨some d,op,ty,pos,af,none⟩:Oper)).run P w=.ok (.value v) w:=by rw[cS];exact hx
 simp only[wpOpsS,h0,Region.wanted,if_true,hx']
 show wpOpsS P ops Q rest ((act N e []).put (some d) v) cs w
 rw[ax]
 exact h
def J7 (h:Q .normal (act N e []) cs w):wpOpsS P ops Q [] (act N e []) cs w:=h
end
def ot {id ty:Nat}{pos:String}{af:Array Edge}{cs:List Frame}{Q:Exit->Act->List Frame->World->Prop}{d1 ty1 d2 ty2 d3 ty3 d4 ty4 d5 ty5 d6 ty6:Nat}{pos1 pos2 pos3 pos4 pos5 pos6:String}{af1 af2 af3 af4 af5 af6:Array Edge}{op1 op2 op3 op4 op5 op6:Op}(hr:recoverD cs=none)(h1:(execOp (ev N (upd e d .nilIface)) (⟨some d1,op1,ty1,pos1,af1,none⟩:Oper)).run P w=.ok (.value v1) w)(h2:(execOp (ev N (upd (upd e d .nilIface) d1 v1)) (⟨some d2,op2,ty2,pos2,af2,none⟩:Oper)).run P w=.ok (.value v2) w)(h3:(execOp (ev N (upd (upd (upd e d .nilIface) d1 v1) d2 v2)) (⟨some d3,op3,ty3,pos3,af3,none⟩:Oper)).run P w=.ok (.value v3) w)(h4:(execOp (ev N (upd (upd (upd (upd e d .nilIface) d1 v1) d2 v2) d3 v3)) (⟨some d4,op4,ty4,pos4,af4,none⟩:Oper)).run P w=.ok (.value v4) w)(h5:(execOp (ev N (upd (upd (upd (upd (upd e d .nilIface) d1 v1) d2 v2) d3 v3) d4 v4)) (⟨some d5,op5,ty5,pos5,af5,none⟩:Oper)).run P w=.ok (.value v5) w)(h6:(execOp (ev N (upd (upd (upd (upd (upd (upd e d .nilIface) d1 v1) d2 v2) d3 v3) d4 v4) d5 v5)) (⟨some d6,op6,ty6,pos6,af6,none⟩:Oper)).run P w=.ok (.value v6) w)(h:Q .normal (act N (upd (upd (upd (upd (upd (upd (upd e d .nilIface) d1 v1) d2 v2) d3 v3) d4 v4) d5 v5) d6 v6) []) cs w):
 (Code.region id #[⟨some d,.call {callee:=.builtin .recover,args:=#[],argTypes:=ats},ty,pos,af,none⟩,⟨some d1,op1,ty1,pos1,af1,none⟩,⟨some d2,op2,ty2,pos2,af2,none⟩,⟨some d3,op3,ty3,pos3,af3,none⟩,⟨some d4,op4,ty4,pos4,af4,none⟩,⟨some d5,op5,ty5,pos5,af5,none⟩,⟨some d6,op6,ty6,pos6,af6,none⟩] false).wpS P Q (act N e []) cs w:=
 T0 (rest:=[1,2,3,4,5,6]) Z Z hr (jp Z h1 (jp Z h2 (jp Z h3 (jp Z h4 (jp Z h5 (jp Z h6 (J7 h)))))))
def J8 :
 CallsDIn Fence.wide n prog 248 #[pT b1,pT b2] .returning w (λe u' w'=>(∃v,e=.returned v)/\u'=.returning/\w'=w):=by
 refine M6 (args:=[pT b1,pT b2]) func248 Z (λ_ _ hu=>?_)
 refine wpS_seq ?_
 refine ot (v1:=.tuple #[.nilIface,.bool false]) (v2:=.tuple #[.nilIface,.bool false]) (v3:=.nilIface) (v4:=.bool false) (v5:=.nilIface) (v6:=.bool false) DM ?_ ?_ ?_ ?_ ?_ ?_ ?_
 · have h:(Instr.typeAssert .nilIface 20 96 true).run prog w=.ok (.tuple #[.nilIface,.bool false]) w:=by
    unfold Instr.typeAssert
    simp[run_underlying underlying96]
   simp only[execOp]
   exact qb2 (λr=>Result.andThen r λa w'=>Result.ok (Next.value a) w') h
 · rfl
 · rfl
 · rfl
 · rfl
 · rfl
 refine wpS_of_wp (wpIn_wide (n:=0).1 ?_)
 refine iR (r:=none) ?_
 refine ii (r:=none) ?_
 refine aa (r:=none) (aY (v:=.bool false) Z ?_)
 refine aa (r:=none) (aY (v:=.bool false) Z ?_)
 with_reducible refine fF (r:=none) (d:=12) (s:=11) ?_ ?_ ?_
 exact Z
 exact Z
 with_reducible refine fF (r:=none) (d:=13) (s:=11) ?_ ?_ ?_
 exact Z
 exact Z
 with_reducible refine fF (r:=none) (d:=14) (s:=11) ?_ ?_ ?_
 exact Z
 exact Z
 refine aa (r:=none) (jH (t:=false) (v:=.bool false) Z Z ?_)
 refine gm ?_
 refine fm ?_
 refine qp (r:=none) Z ?_
 refine jJ (r:=none) ?_
 exact⟨rfl,.returning,by rw[<-hu],_,nh Z,⟨_,rfl⟩,rfl,rfl⟩
def J9 :
 CallsDIn Fence.wide n prog 253 #[pT b1,pT b2] .returning w (λe u' w'=>(∃v,e=.returned v)/\u'=.returning/\w'=w):=by
 refine M6 (args:=[pT b1,pT b2]) func253 Z (λ_ _ hu=>?_)
 refine wpS_seq ?_
 refine ot (v1:=.tuple #[.nilIface,.bool false]) (v2:=.tuple #[.nilIface,.bool false]) (v3:=.nilIface) (v4:=.bool false) (v5:=.nilIface) (v6:=.bool false) DM ?_ ?_ ?_ ?_ ?_ ?_ ?_
 · have h:(Instr.typeAssert .nilIface 20 96 true).run prog w=.ok (.tuple #[.nilIface,.bool false]) w:=by
    unfold Instr.typeAssert
    simp[run_underlying underlying96]
   simp only[execOp]
   exact qb2 (λr=>Result.andThen r λa w'=>Result.ok (Next.value a) w') h
 · rfl
 · rfl
 · rfl
 · rfl
 · rfl
 refine wpS_of_wp (wpIn_wide (n:=0).1 ?_)
 refine iR (r:=none) ?_
 refine ii (r:=none) ?_
 refine aa (r:=none) (aY (v:=.bool false) Z ?_)
 refine aa (r:=none) (aY (v:=.bool false) Z ?_)
 with_reducible refine fF (r:=none) (d:=12) (s:=11) ?_ ?_ ?_
 exact Z
 exact Z
 with_reducible refine fF (r:=none) (d:=13) (s:=11) ?_ ?_ ?_
 exact Z
 exact Z
 with_reducible refine fF (r:=none) (d:=14) (s:=11) ?_ ?_ ?_
 exact Z
 exact Z
 refine aa (r:=none) (jH (t:=false) (v:=.bool false) Z Z ?_)
 refine gm ?_
 refine fm ?_
 refine qp (r:=none) Z ?_
 refine jJ (r:=none) ?_
 exact⟨rfl,.returning,by rw[<-hu],_,nh Z,⟨_,rfl⟩,rfl,rfl⟩
abbrev dV (g b1 b2:Nat):Deferred:={target:=.fn (.func g) [Value.pointer (some ⟨b1,0,none⟩),Value.pointer (some ⟨b2,0,none⟩)].toArray,args:=#[]}
def Xg (g b1 b2:Nat):Prop:=∀(n:Nat) (w:World),CallsDIn Fence.wide n prog g #[pT b1,pT b2] .returning w (λe u' w'=>(∃v,e=.returned v)/\u'=.returning/\w'=w)
def ou {R:Value->World->Prop}(hg:Enters prog g)(hc:Xg g b1 b2)(hx:aN w w')(hr:(results fn (act N e [dV g b1 b2]).tmps).run prog w'=.ok v w')(hR:R v w'):
 bodyPostDIn Fence.wide 0 prog fn (aH w R) .ret (act N e [dV g b1 b2]) w':=by
 refine leavesIn_cons (f:=g) (args:=#[pT b1,pT b2]) zd kd1 ?_ (λ_ _=>trivial) ?_
 · have h:=hg #[pT b1,pT b2] w'
   simpa[invoke]using h
 · refine CallsDIn.mono (hc _ _) ?_
   rintro _ _ _ ⟨⟨v',rfl⟩,rfl,rfl⟩
   exact⟨v,hr,hx,hR⟩
end
end Go.Proofs.YtlmihmlnpjkblaaGreatDoor
