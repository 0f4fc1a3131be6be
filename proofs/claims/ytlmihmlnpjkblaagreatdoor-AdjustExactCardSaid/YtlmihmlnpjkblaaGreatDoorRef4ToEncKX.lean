/- Part of the proof of a statement about an adjustment. -/
import Derived.Test.YtlmihmlnpjkblaaGreatDoorRat3ToRef3X
set_option linter.all false
namespace Go.Proofs.YtlmihmlnpjkblaaGreatDoor
variable {ats:Array TypeId}{ng q:Bool}{fn:Func}{f:FuncId}{c c0:Int}{l b:List UInt8}{cs args vs lb:List Value}{p lo n a k n1 c1 lo1 x d x0 i j sz lo' base hi' N b1 b2 g:Nat}{H H' e:Nat->Value}{A A1 A2:Option Addr}{P:Program}{t et ty':TypeId}{u v v' v1 v2 v3 v4 v5 v6:Value}{w W w':World}
section
set_option maxRecDepth 100000
open Go Go.Eng Go.RowKit Tryz
attribute [local irreducible] wpListIn Code.wpIn Oper.wpIn Exit.then Exit.inBlock Exit.noGoto
set_option maxHeartbeats 40000000
def cH {p:Prop}(h:p:=by assumption):p:=h
def ji {c:Nat}(h:Dg w lo A n c a)(hl:a<10^k):n<=k:=by rw[<-h.len];exact(ba 10 U a k).2 hl
def lO (h:isInt l=true):aH (body l)<10^200:=sK (eu h)
def Oz {a:List UInt8}(h:isInt a=false):(isInt a&&isInt b)=false:=by rw[h];rfl
def OA {a:List UInt8}(h:isInt b=false):(isInt a&&isInt b)=false:=by rw[h];simp
def ik {a:List UInt8}(ha:isInt a=true)(hb:isInt b=true):(isInt a&&isInt b)=true:=by rw[ha,hb];rfl
def wI :fits (bO ng a)=vU a:=by
 unfold vU
 by_cases h:a=0
 · subst h;cases ng <;>decide +kernel
 · rw[pg ng U,decide_eq_false h,Bool.false_or]
   unfold br;rw[if_neg h,cL]
def qU :ae (bO ng a)=sj ng a:=by
 unfold sj
 by_cases h:a=0
 · subst h;cases ng <;>rfl
 · rw[qN ng U,if_neg h]
def Rf (h:vU a=false):Value.tuple #[S [],.int .i64 30]=iC (bc (bO ng a)):=by
 unfold bc;rw[wI,h];rfl
def Rh (h:vU a=true):Value.tuple #[S (sj ng a),.int .i64 0]=iC (bc (bO ng a)):=by
 unfold bc;rw[wI,h,qU];rfl
def TS (h:Rw w lo A [Value.int .i64 1]):Dg w lo A 1 1 1:=by
 have e:ap 10 1=[1]:=by decide
 exact⟨by rw[e];exact h,by rw[e];rfl,qa0 _⟩
def yd {r:Nat}(h:r<10^200):sj false r=rS (bc (bO false r)):=by
 have hf:fits (bO false r)=true:=by unfold fits;rw[jK];exact qa1 h
 rw[po hf,qU]
def Xg {b:Nat}(ha:a<10^200)(hb:b<10^200):a+b<10^201:=by
 have:(10:Nat)^201=10^200*10:=by rw[<-Nat.pow_succ]
 generalize (10:Nat)^200=M at *
 omega
def JQ {a:List UInt8}(h:(isInt a&&isInt b)=true)(he:(neg a==neg b)=true)(ha:neg a=true):aO ((aH (body b):Nat):Int) ((aH (body a):Nat):Int)=dM a b:=
 ue h ha (by have:neg a=neg b:=by simpa using he
             rw[<-this];exact ha)
def JR {a:List UInt8}(h:(isInt a&&isInt b)=true)(he:(neg a==neg b)=true)(ha:neg a=false):aO ((aH (body a):Nat):Int) ((aH (body b):Nat):Int)=dM a b:=
 uh h ha (by have:neg a=neg b:=by simpa using he
             rw[<-this];exact ha)
def JS {a:List UInt8}(h:(isInt a&&isInt b)=true)(he:(neg a==neg b)=false)(ha:neg a=true):(-1:Int)=dM a b:=
 uf h ha (by rw[ha]at he;simpa using he)
def JU {a:List UInt8}(h:(isInt a&&isInt b)=true)(he:(neg a==neg b)=false)(ha:neg a=false):(1:Int)=dM a b:=
 ug h ha (by rw[ha]at he;simpa using he)
def Ac (ng:Bool)(x:Nat):Int.tmod (bO ng x) 10=bO ng (x%10):=by
 cases ng
 · show Int.tmod (x:Int) 10=((x%10:Nat):Int)
   rw[Int.tmod_eq_emod_of_nonneg U];omega
 · show Int.tmod (-(x:Int)) 10=-((x%10:Nat):Int)
   rw[Int.neg_tmod,Int.tmod_eq_emod_of_nonneg U];omega
def Ad (ng:Bool)(x:Nat):Int.tdiv (bO ng x) 10=bO ng (x/10):=by
 cases ng
 · show Int.tdiv (x:Int) 10=((x/10:Nat):Int)
   rw[Int.tdiv_eq_ediv_of_nonneg U];omega
 · show Int.tdiv (-(x:Int)) 10=-((x/10:Nat):Int)
   rw[Int.neg_tdiv,Int.tdiv_eq_ediv_of_nonneg U];omega
def TT {a:List UInt8}(h:b=[48]):dm a b=none:=mA (by subst h;exact qJ)
def OB (h:isInt b=true)(h0:¬b=[48]):0<aH (body b):=by
 rcases Nat.eq_zero_or_pos (aH (body b))with h1|h1
 · exact absurd ((fY h).1 (by have:=dX b;omega)) h0
 · exact h1
def jP (h1:Dg w lo1 A1 n1 c1 a)(s1:n1<=100000)(ng:Bool):
 CL 181 #[.bool ng,.slice A1 n1 c1] w (aI w λv w'=>v=iC (bc (bO ng a))):=by
 refine aE func181 Z (I ?_);refine clb Ie (hc:=kO h1 U ng) (hk:=?_);rintro _ _ G rfl;have E:=G.2;refine I ?_;rcases qa4 (vU a)with cf|cf;refine I ?_;exact bw (t:=4) (u:=5) (v1:=S (sj ng a)) (v2:=.int .i64 0) Z E (by first|exact Rf cH|exact Rh cH) Z Z;refine I ?_;exact bw (t:=4) (u:=5) (v1:=S []) (v2:=.int .i64 30) Z E (by first|exact Rf cH|exact Rh cH) Z Z
def JV (h1:Dg w lo1 A1 n1 c1 a)(s1:n1<=50000){n2 c2 b lo2:Nat}(h2:Dg w lo2 A2 n2 c2 b)(s2:n2<=50000)(nx ny:Bool):
 CL 179 #[.bool nx,.slice A1 n1 c1,.bool ny,.slice A2 n2 c2] w (aI w λv w'=>v=iC (bc (bO nx a+bO ny b))):=by
 have Az:=h1.len;have e2:=h2.len;refine aE func179 Z (I ?_);refine aa (HY (a:=nx) (b:=ny) (q:=(nx==ny)) U4 Z Z Z ?_);refine I ?_;rcases qa4 (nx==ny)with p6|p6;refine I ?_;refine clb QC (hc:=wH h1 U h2 U) (hk:=?_);rintro _ _ Aw ⟨B1,As,Ay,rfl,Ab⟩;have wr:=Aw.2;have Ab:=Ab.mono (lo':=w.heap.size) U;have Am:As<=50001:=by rw[<-Ab.len];exact Ev U _ _ 50000 U U
 refine I ?_;refine clb BM (hc:=jP Ab U nx) (hk:=?_);rintro _ _ Ao rfl;have wr:=xt wr Ao.2;refine I ?_;exact bw (t:=8) (u:=9) (v1:=S (rS (bc (bO nx (a+b))))) (v2:=.int .i64 (rE (bc (bO nx (a+b))))) Z wr (qb2 (λx=>iC (bc x)) ka2) Z Z;refine I ?_;refine clb zg (hc:=jM h1 U h2 U) (hk:=?_);rintro _ _ Af rfl;have h1:=ac4 Af.2 h1;have h2:=ac4 Af.2 h2;have E:=Af.2;refine I ?_;by_cases mq:0<=(aO (a:Int) (b:Int));have G:=Ex mq;refine I ?_;refine clb DZ (hc:=lB h1 U h2 U G) (hk:=?_);rintro _ _ Ax ⟨B0,Av,C1,rfl,A0⟩;have E:=xt E Ax.2;have A0:=A0.mono (lo':=w.heap.size) U;have Am:Av<=50001:=by rw[<-A0.len];exact qa8 (ep U (Nat.sub_le _ _)) U
 refine I ?_;refine clb BM (hc:=jP A0 U nx) (hk:=?_);rintro _ _ Ar rfl;have E:=xt E Ar.2;refine I ?_;exact bw (t:=8) (u:=9) (v1:=S (rS (bc (bO nx (a-b))))) (v2:=.int .i64 (rE (bc (bO nx (a-b))))) Z E (qb2 (λx=>iC (bc x)) ka2) Z Z;have G:=zO mq;refine I ?_;refine clb DZ (hc:=lB h2 U h1 U G) (hk:=?_);rintro _ _ Ap ⟨B2,od,CB,rfl,O⟩;have E:=xt E Ap.2;have O:=O.mono (lo':=w.heap.size) U;have Am:od<=50001:=by rw[<-O.len];exact qa8 (ep U (Nat.sub_le _ _)) U
 refine I ?_;refine clb BM (hc:=jP O U ny) (hk:=?_);rintro _ _ Aq rfl;have E:=xt E Aq.2;refine I ?_;exact bw (t:=8) (u:=9) (v1:=S (rS (bc (bO ny (b-a))))) (v2:=.int .i64 (rE (bc (bO ny (b-a))))) Z E (qb2 (λx=>iC (bc x)) ka2) Z Z
def Ae (a b:List UInt8)(w:World)(sa:a.length<=1000000)(sb:b.length<=1000000):
 CL 137 #[S a,S b] w (aI w λv w'=>v=iC (aW a b)):=by
 refine aE func137 Z (I ?_);rcases qa4 (isInt a)with cf|cf;refine I ?_;refine clb nd (hc:=cF a _ U) (hk:=?_);rintro _ _ Ao rfl;have E:=Ao.2;refine I ?_;refine clb nd (hc:=cF b _ U) (hk:=?_);rintro _ _ Af rfl;have E:=xt E Af.2;refine I ?_;rcases qa4 (isInt b)with fx|fx;refine I ?_;refine cl zc (eH _ _ cf) ?_;rintro _ _ wr ⟨As,Ar,Ay,rfl,G⟩;have E:=xt E wr.2;have G:=G.mono (lo':=w.heap.size) U;have Aq:=ji G (lO cf);refine I ?_;refine cl zc (eH _ _ fx) ?_;rintro _ _ A0 ⟨Ax,od,Aw,rfl,O⟩;have G:=ac4 A0.2 G;have E:=xt E A0.2;have O:=O.mono (lo':=w.heap.size) U;have Av:=ji O (lO fx);refine I ?_;refine clb V5 (hc:=JV G U O U (neg a) (!(neg b))) (hk:=?_);rintro _ _ Ab rfl;have E:=xt E Ab.2;refine I ?_;exact bw (t:=4) (u:=5) (v1:=S (rS (bc (bO (neg a) (aH (body a))+bO (!(neg b)) (aH (body b)))))) (v2:=.int .i64 (rE (bc (bO (neg a) (aH (body a))+bO (!(neg b)) (aH (body b)))))) Z E (by rw[pj (ik cf fx),EB];rfl) Z Z;refine I ?_;exact bw (t:=4) (u:=5) (v1:=S []) (v2:=.int .i64 30) Z E (by rw[xV (OA fx)];rfl) Z Z;refine I ?_;refine clb nd (hc:=cF a _ U) (hk:=?_)
 rintro _ _ Am rfl;have Ap:=Am.2;refine I ?_;exact bw (t:=4) (u:=5) (v1:=S []) (v2:=.int .i64 30) Z Ap (by rw[xV (Oz cf)];rfl) Z Z
def JW (a b:List UInt8)(w:World)(sa:a.length<=1000000)(sb:b.length<=1000000):
 CL 136 #[S a,S b] w (aI w λv w'=>v=.int .i64 (dM a b)):=by
 refine aE func136 Z (I ?_);rcases qa4 (isInt a)with cf|cf;refine I ?_;refine clb nd (hc:=cF a _ U) (hk:=?_);rintro _ _ Aq rfl;have E:=Aq.2;refine I ?_;refine clb nd (hc:=cF b _ U) (hk:=?_);rintro _ _ Am rfl;have E:=xt E Am.2;refine I ?_;rcases qa4 (isInt b)with fx|fx;refine I ?_;refine cl zc (eH _ _ cf) ?_;rintro _ _ Ap ⟨Av,As,Az,rfl,G⟩;have E:=xt E Ap.2;have G:=G.mono (lo':=w.heap.size) U;have Aw:=ji G (lO cf);refine I ?_;refine cl zc (eH _ _ fx) ?_;rintro _ _ A0 ⟨Ay,od,Ax,rfl,O⟩;have G:=ac4 A0.2 G;have E:=xt E A0.2;have O:=O.mono (lo':=w.heap.size) U;have Ar:=ji O (lO fx);refine I ?_;refine aa (md (a:=neg a) (b:=neg b) (q:=(!((neg a)==(neg b)))) U4 Z Z Z ?_);refine I ?_;rcases qa4 ((neg a)==(neg b))with p6|p6;refine I ?_;rcases qa4 (neg a)with r8|r8;refine I ?_;refine clb zg (hc:=jM O U G U) (hk:=?_);rintro _ _ Ab rfl;have E:=xt E Ab.2;refine I ?_;exact am (t:=4) (v:=.int .i64 (aO ((aH (body b):Nat):Int) ((aH (body a):Nat):Int))) Z E (qb2 (Value.int .i64) (JQ (ik cf fx) p6 r8)) Z;refine I ?_;refine clb zg (hc:=jM G U O U) (hk:=?_)
 rintro _ _ wr rfl;have E:=xt E wr.2;refine I ?_;exact am (t:=4) (v:=.int .i64 (aO ((aH (body a):Nat):Int) ((aH (body b):Nat):Int))) Z E (qb2 (Value.int .i64) (JR (ik cf fx) p6 r8)) Z;refine I ?_;rcases qa4 (neg a)with sc|sc;refine I ?_;exact am (t:=4) (v:=.int .i64 (-1)) Z E (qb2 (Value.int .i64) (JS (ik cf fx) p6 sc)) Z;refine I ?_;exact am (t:=4) (v:=.int .i64 1) Z E (qb2 (Value.int .i64) (JU (ik cf fx) p6 sc)) Z;refine I ?_;exact am (t:=4) (v:=.int .i64 0) Z E (by rw[xX (OA fx)]) Z;refine I ?_;refine clb nd (hc:=cF a _ U) (hk:=?_);rintro _ _ Af rfl;have Ao:=Af.2;refine I ?_;exact am (t:=4) (v:=.int .i64 0) Z Ao (by rw[xX (Oz cf)]) Z
def pu (a b:List UInt8)(w:World)(sa:a.length<=1000000)(sb:b.length<=1000000):
 CL 139 #[S a,S b] w (aI w λv w'=>v=vT (dm a b)):=by
 refine aE func139 Z (I ?_);rcases qa4 (isInt a)with cv|cv;rcases qa4 (isInt b)with cw|cw;refine I ?_;refine clb nd (hc:=cF a _ U) (hk:=?_);rintro _ _ D2 rfl;have E:=D2.2;refine I ?_;refine clb nd (hc:=cF b _ U) (hk:=?_);rintro _ _ Cr rfl;have E:=xt E Cr.2;refine I ?_;refine sh (b:=[48]) (I ?_);by_cases w9:b=([48]);refine I ?_;exact fq (t:=4) (u:=5) (s:=6) (v1:=S []) (v2:=S []) (v3:=.int .i64 30) Z E (by rw[TT cH];rfl) Z Z Z;have O:0<aH (body b):=OB cw w9;refine I ?_;refine cl zc (eH _ _ cv) ?_;rintro _ _ CB ⟨KY,EW,wr,rfl,Af⟩;have E:=xt E CB.2;have Af:=Af.mono (lo':=w.heap.size) U;have K3:=ji Af (lO cv);refine I ?_;refine cl zc (eH _ _ cw) ?_;rintro _ _ Az ⟨K2,Kp,G0,rfl,A0⟩;have Af:=ac4 Az.2 Af;have E:=xt E Az.2;have A0:=A0.mono (lo':=w.heap.size) U;have KC:=ji A0 (lO cw);refine I ?_;refine clb QB (hc:=Aa Af U A0 U O) (hk:=?_);rintro _ _ B1 ⟨Aq,FR,L1,Ar,E6,L2,rfl,hq,hr⟩;have A0:=ac4 B1.2 A0;have E:=xt E B1.2;have hq:=hq.mono (lo':=w.heap.size) U;have hr:=hr.mono (lo':=w.heap.size) U;have KM:=ji hq (Nat.lt_of_le_of_lt (Nat.div_le_self _ _) (lO cv))
 have Ix:=ji hr (Nat.lt_trans (Nat.mod_lt _ O) (lO cw));have Aw:aH (body a)%aH (body b)<=aH (body b):=Nat.le_of_lt (Nat.mod_lt _ O);refine I ?_;rcases qa4 (neg a)with ly|ly;refine I ?_;by_cases aoo:0<(E6:Int);have Av:0<aH (body a)%aH (body b):=mz (B:=10) U (by rw[hr.len];omega);have G:=Z8 O ly Av;have Ab:aH (body b)-aH (body a)%aH (body b)<=aH (body b):=Nat.sub_le _ _;refine I ?_;refine BS (λ_ As _ E9=>?_);have A0:=ac4 As A0;have hq:=ac4 As hq;have hr:=ac4 As hr;have E:=xt E As;have CY:=TS (aa7 E9);refine clb QC (hc:=wH hq U CY U) (hk:=?_);rintro _ _ Ay ⟨Ap,H4,H2,rfl,Ao⟩;have A0:=ac4 Ay.2 A0;have hr:=ac4 Ay.2 hr;have E:=xt E Ay.2;have Ao:=Ao.mono (lo':=w.heap.size) U;have GC:=ji Ao (Xg (Nat.lt_of_le_of_lt (Nat.div_le_self _ _) (lO cv)) (show 1<10^200 by decide +kernel));refine I ?_;refine clb DZ (hc:=lB A0 U hr U Aw) (hk:=?_);rintro _ _ C1 ⟨Am,nm,H3,rfl,hm⟩;have Ao:=ac4 C1.2 Ao;have E:=xt E C1.2;have hm:=hm.mono (lo':=w.heap.size) U;have ES:=ji hm (Nat.lt_of_le_of_lt (Nat.sub_le _ _) (lO cw));refine I ?_;refine aa (md (a:=neg a) (b:=neg b) (q:=(!((neg a)==(neg b)))) U4 Z Z Z ?_)
 refine I ?_;refine clb BM (hc:=jP Ao U (!((neg a)==(neg b)))) (hk:=?_);rintro _ _ od rfl;have hm:=ac4 od.2 hm;have E:=xt E od.2;refine I ?_;refine clb Ie (hc:=kO hm U false) (hk:=?_);rintro _ _ E5 rfl;have E:=xt E E5.2;rw[yd (lA cw Ab)];refine I ?_;by_cases aop:(rE (bc (bO (!((neg a)==(neg b))) (aH (body a)/aH (body b)+1))))=0;refine I ?_;exact fq (t:=4) (u:=5) (s:=6) (v1:=S (rS (bc (bO (!((neg a)==(neg b))) (aH (body a)/aH (body b)+1))))) (v2:=S (rS (bc (bO false (aH (body b)-aH (body a)%aH (body b)))))) (v3:=.int .i64 0) Z E RC Z Z Z;refine I ?_;exact fq (t:=4) (u:=5) (s:=6) (v1:=S []) (v2:=S []) (v3:=.int .i64 (rE (bc (bO (!((neg a)==(neg b))) (aH (body a)/aH (body b)+1))))) Z E RC Z Z Z;have Av:aH (body a)%aH (body b)=0:=jq (B:=10) U (hr.len.trans U);have G:=YB (a:=a) O (Or.inr Av);have Ab:aH (body a)%aH (body b)<=aH (body b):=Aw;refine I ?_;refine aa (md (a:=neg a) (b:=neg b) (q:=(!((neg a)==(neg b)))) U4 Z Z Z ?_);refine I ?_
 refine clb BM (hc:=jP hq U (!((neg a)==(neg b)))) (hk:=?_);rintro _ _ B2 rfl;have hr:=ac4 B2.2 hr;have E:=xt E B2.2;refine I ?_;refine clb Ie (hc:=kO hr U false) (hk:=?_);rintro _ _ E7 rfl;have E:=xt E E7.2;rw[yd (lA cw Ab)];refine I ?_;by_cases aoq:(rE (bc (bO (!((neg a)==(neg b))) (aH (body a)/aH (body b)))))=0;refine I ?_;exact fq (t:=4) (u:=5) (s:=6) (v1:=S (rS (bc (bO (!((neg a)==(neg b))) (aH (body a)/aH (body b)))))) (v2:=S (rS (bc (bO false (aH (body a)%aH (body b)))))) (v3:=.int .i64 0) Z E RC Z Z Z;refine I ?_;exact fq (t:=4) (u:=5) (s:=6) (v1:=S []) (v2:=S []) (v3:=.int .i64 (rE (bc (bO (!((neg a)==(neg b))) (aH (body a)/aH (body b)))))) Z E RC Z Z Z;have G:=YB O (Or.inl ly);have Ab:aH (body a)%aH (body b)<=aH (body b):=Aw;refine I ?_;refine aa (md (a:=neg a) (b:=neg b) (q:=(!((neg a)==(neg b)))) U4 Z Z Z ?_);refine I ?_;refine clb BM (hc:=jP hq U (!((neg a)==(neg b)))) (hk:=?_);rintro _ _ B0 rfl;have hr:=ac4 B0.2 hr;have E:=xt E B0.2;refine I ?_
 refine clb Ie (hc:=kO hr U false) (hk:=?_);rintro _ _ E4 rfl;have E:=xt E E4.2;rw[yd (lA cw Ab)];refine I ?_;by_cases aor:(rE (bc (bO (!((neg a)==(neg b))) (aH (body a)/aH (body b)))))=0;refine I ?_;exact fq (t:=4) (u:=5) (s:=6) (v1:=S (rS (bc (bO (!((neg a)==(neg b))) (aH (body a)/aH (body b)))))) (v2:=S (rS (bc (bO false (aH (body a)%aH (body b)))))) (v3:=.int .i64 0) Z E RC Z Z Z;refine I ?_;exact fq (t:=4) (u:=5) (s:=6) (v1:=S []) (v2:=S []) (v3:=.int .i64 (rE (bc (bO (!((neg a)==(neg b))) (aH (body a)/aH (body b)))))) Z E RC Z Z Z;refine I ?_;refine clb nd (hc:=cF a _ U) (hk:=?_);rintro _ _ D1 rfl;have Ax:=D1.2;refine I ?_;refine clb nd (hc:=cF b _ U) (hk:=?_);rintro _ _ E1 rfl;have Ax:=xt Ax E1.2;refine I ?_;exact fq (t:=4) (u:=5) (s:=6) (v1:=S []) (v2:=S []) (v3:=.int .i64 30) Z Ax (by rw[xY (OA cw)];rfl) Z Z Z;refine I ?_;refine clb nd (hc:=cF a _ U) (hk:=?_);rintro _ _ CG rfl;have E0:=CG.2;refine I ?_
 exact fq (t:=4) (u:=5) (s:=6) (v1:=S []) (v2:=S []) (v3:=.int .i64 30) Z E0 (by rw[xY (Oz cv)];rfl) Z Z Z
def Ag (a b:List UInt8)(w:World)(sa:a.length<=1000000)(sb:b.length<=1000000):
 CL 138 #[S a,S b] w (aI w λv w'=>v=iC (bQ a b)):=by
 refine aE func138 Z (I ?_);rcases qa4 (isInt a)with cf|cf;refine I ?_;refine clb nd (hc:=cF a _ U) (hk:=?_);rintro _ _ B2 rfl;have E:=B2.2;refine I ?_;refine clb nd (hc:=cF b _ U) (hk:=?_);rintro _ _ D1 rfl;have E:=xt E D1.2;refine I ?_;rcases qa4 (isInt b)with cw|cw;refine I ?_;refine cl zc (eH _ _ cf) ?_;rintro _ _ B0 ⟨CB,E0,Aw,rfl,O⟩;have E:=xt E B0.2;have O:=O.mono (lo':=w.heap.size) U;refine I ?_;refine cl zc (eH _ _ cw) ?_;rintro _ _ wr ⟨od,Cr,C1,rfl,Ab⟩;have O:=ac4 wr.2 O;have E:=xt E wr.2;have Ab:=Ab.mono (lo':=w.heap.size) U;refine I ?_;refine cg [(7,7),(9,11),(30,40)] (λCG e W=>∃Ax:Option Addr,∃Am:Nat,∃Ap:Nat,∃x:Nat,∃Ay:Option Addr,∃ny:Nat,∃Af:Nat,∃y:Nat,(y=CG)/\(e 7=.slice Ax Am Ap)/\(e 9=.slice Ay ny Af)/\(Am<=200)/\(ny<=200)/\(Nat.gcd x y=Nat.gcd (aH (body a)) (aH (body b)))/\(aP w W)/\(Dg W w.heap.size Ax Am Ap x)/\(Dg W w.heap.size Ay ny Af y)) (aH (body b)) ⟨CB,E0,Aw,aH (body a),od,Cr,C1,aH (body b),rfl,rfl,rfl,(ji O (lO cf)),(ji Ab (lO cw)),rfl,E,O,Ab⟩ ?_;rintro _ _ _ ⟨Ax,Am,Ap,x,Ay,ny,Af,y,rfl,E9,ES,E6,B1,Ao,G,hx,hy⟩
 have E7:=bz G;by_cases hm:0<ny;have A0:0<y:=mz (B:=10) U (by rw[hy.len];omega);have E1:=hx.row.hi;refine I ?_;refine clb QB (hc:=Aa hx U hy U A0) (hk:=?_);rintro _ _ As ⟨Aq,E5,EW,Ar,D2,E4,rfl,hq,hr⟩;have hy:=ac4 As.2 hy;have G:=xt G As.2;have hr:=hr.mono (lo':=w.heap.size) U;refine I ?_;exact bJ (hk:=by exact Nat.mod_lt _ A0) ⟨Ay,ny,Af,y,Ar,D2,E4,x%y,rfl,rfl,rfl,U,(by rw[<-hr.len];exact qa8 (ep U (Nat.le_of_lt (Nat.mod_lt _ A0))) (by rw[hy.len];exact B1)),(zV Ao),G,hy,hr⟩;have A0:y=0:=jq (B:=10) U (hy.len.trans U);rw[A0,Nat.gcd_zero_right]at Ao;have E1:=hx.row.hi;refine I ?_;refine clb BM (hc:=jP hx U false) (hk:=?_);rintro _ _ Av rfl;have G:=xt G Av.2;refine I ?_;exact bw (t:=4) (u:=5) (v1:=S (rS (bc (bO false x)))) (v2:=.int .i64 (rE (bc (bO false x)))) Z G (by rw[EC (ik cf cw),<-Ao];rfl) Z Z;refine I ?_;exact bw (t:=4) (u:=5) (v1:=S []) (v2:=.int .i64 30) Z E (by rw[xW (OA cw)];rfl) Z Z;refine I ?_;refine clb nd (hc:=cF a _ U) (hk:=?_);rintro _ _ CY rfl;have Az:=CY.2;refine I ?_;exact bw (t:=4) (u:=5) (v1:=S []) (v2:=.int .i64 30) Z Az (by rw[xW (Oz cf)];rfl) Z Z
def fk {p:Prop}(h:p:=by assumption):p:=h
def GF {n:Int}(h:fits n=true):(ae n).length<=201:=(kN (bi h)).2
def Gi (a b:List UInt8):Int:=((Int.gcd (aj a) (aj b):Nat):Int)
def qV (n d:List UInt8):Option R:=if isInt n&&isInt d then ii (aj n) (aj d)else none
section
variable {x y:List UInt8}
def TU (h:aj y≠0):0<Gi x y:=by
 have:0<Int.gcd (aj x) (aj y):=Int.gcd_pos_of_ne_zero_right _ h
 unfold Gi;omega
def mX (hy:isInt y=true)(h:aj y≠0):fits (Gi x y)=true:=j7 (eU hy) (by
 have hd:Gi x y∣aj y:=Int.gcd_dvd_right ..
 exact Nat.le_of_dvd U (Int.natAbs_dvd_natAbs.2 hd))
def Ah (hx:isInt x=true)(hy:isInt y=true)(h:aj y≠0):bQ x y=some (ae (Gi x y)):=by
 unfold bQ;rw[if_pos (by rw[hx,hy];rfl)];unfold bc
 show(if fits (Gi x y)=true then some (ae (Gi x y))else none)=_
 rw[if_pos (mX hy h)]
def pw {z:List UInt8}(hz:isInt z=true)(hy:isInt y=true)(h:aj y≠0)(hd:Gi x y∣aj z):dm z (ae (Gi x y))=some (ae (aj z/Gi x y),ae (aj z%Gi x y)):=by
 have E:=TU (x:=x) h
 rw[lz (by rw[hz,bi (mX hy h)];rfl) (by rw[gE,gD];omega),aK]
 obtain⟨g,hg⟩:∃g:Nat,Gi x y=(g:Int):=⟨_,rfl⟩
 rw[hg]at hd E ⊢
 unfold bc
 rw[if_pos (j7 (eU hz) (j8 _ _ U hd))]
 rfl
def Xh:Gi x y∣aj x:=Int.gcd_dvd_left ..
def Xi:Gi x y∣aj y:=Int.gcd_dvd_right ..
def mY (q r:List UInt8):vT (some (q,r))=.tuple #[S q,S r,.int .i64 0]:=rfl
def mZ (q:List UInt8):iC (some q)=.tuple #[S q,.int .i64 0]:=rfl
def CS (h:isInt x=false):none=qV x y:=by unfold qV;rw[h];rfl
def CU (h:isInt y=false):none=qV x y:=by unfold qV;rw[h];simp
def CV (h:y=[48]):none=qV x y:=by
 unfold qV ii;subst h;rw[kL];simp
def sT (hy:isInt y=true)(h:¬y=[48]):aj y≠0:=λe=>h ((fY hy).1 e)
def TV (hx:isInt x=true)(hy:isInt y=true)(h0:¬y=[48])(hs:¬dM y [48]<0):some (ae (aj x/Gi x y),ae (aj y/Gi x y))=qV x y:=by
 rw[gP hy,pn]at hs
 unfold qV ii qc dh
 rw[hx,hy,Bool.and_self,if_pos Z,if_neg (sT hy h0),if_neg hs,if_neg hs];rfl
def TW (hx:isInt x=true)(hy:isInt y=true)(h0:¬y=[48])(hs:dM y [48]<0):
 some (ae (aj (ae (-aj x))/Gi (ae (-aj x)) (ae (-aj y))),ae (aj (ae (-aj y))/Gi (ae (-aj x)) (ae (-aj y))))=qV x y:=by
 rw[gP hy,pn]at hs
 unfold qV ii qc dh Gi
 rw[hx,hy,Bool.and_self,if_pos Z,if_neg (sT hy h0),if_pos hs,if_pos hs,aK,aK,Int.gcd_neg,Int.neg_gcd]
def TX (hy:isInt y=true)(h0:¬y=[48]):aj (ae (-aj y))≠0:=by rw[aK];have:=sT hy h0;omega
end
def qW:Value.tuple #[.agg #[S [],S []],.int .i64 40]=gT none:=rfl
def wJ (a b:List UInt8):Value.tuple #[.agg #[S a,S b],.int .i64 0]=gT (some (a,b)):=rfl
def jj (h:isInt l=true):l.length<=1000000:=by have:=kN h;omega
set_option maxRecDepth 100000 in
def GG (x y:List UInt8)(w:World)(s1:x.length<=1000000)(s2:y.length<=1000000):
 CL 82 #[S x,S y] w (aI w λv w'=>v=gT (qV x y)):=by
 refine aE func82 Z (I ?_);refine al aY (λ_ CG G=>?_);have E:=CG.2;refine I ?_;refine clb nd (hc:=cF x _ fk) (hk:=?_);rintro _ _ Af rfl;have⟨G,E⟩:=bn Af.2 G E;refine I ?_;refine clb nd (hc:=cF y _ fk) (hk:=?_);rintro _ _ Am rfl;have⟨G,E⟩:=bn Am.2 G E;refine I ?_;rcases qa4 (isInt x)with cr|cr;rcases qa4 (isInt y)with cv|cv;refine I ?_;refine sh (b:=[48]) (I ?_);by_cases cx:y=([48]);refine I ?_;refine SA G (λ_ B1 C1=>?_);have E:=bh B1 E;refine I ?_;refine aX (v:=.tuple #[.agg #[S [],S []],.int .i64 40]) (cQ (r1:=.cell 4 33) (r2:=.tmp 5) Z ?_ ?_) E DE;refine ai (t:=4) (cs:=[S [],S []]) (b:=w.heap.size) (o:=0) iO Z bV ?_ ?_;exact Z;exact aa0 C1 (i:=0) Z;exact aM (t:=5) WD _;have hx:=cr;have hy:=cv;have A0:=cx;have Ax:=sT hy A0;refine I ?_;refine clb Y0 (hc:=JW y [48] _ fk dc) (hk:=?_);rintro _ _ Ab rfl;have⟨G,E⟩:=bn Ab.2 G E;refine I ?_;by_cases cw:(dM y [48])<0;have hs:=cw;have hX:=mV hx
 have hY:=mV hy;have hY0:=TX hy A0;refine I ?_;refine clb V2 (hc:=Ae [48] x _ dc fk) (hk:=?_);rintro _ _ CB O;have⟨G,E⟩:=bn CB.2 G E;rw[mU hx,mZ]at O;subst O;refine I ?_;refine clb V2 (hc:=Ae [48] y _ dc fk) (hk:=?_);rintro _ _ B0 O;have⟨G,E⟩:=bn B0.2 G E;rw[mU hy,mZ]at O;subst O;refine I ?_;refine cl V4 (Ag (ae (-aj x)) (ae (-aj y)) _ (jj hX) (jj hY)) ?_;rintro _ _ Aq O;have⟨G,E⟩:=bn Aq.2 G E;rw[Ah hX hY hY0,mZ]at O;subst O;refine I ?_;refine cl Nl (pu (ae (-aj x)) (ae (Gi (ae (-aj x)) (ae (-aj y)))) _ (jj hX) (jj (bi (mX hY hY0)))) ?_;rintro _ _ As O;have⟨G,E⟩:=bn As.2 G E;rw[pw hX hY hY0 Xh,mY]at O;subst O;refine I ?_;refine cl Nl (pu (ae (-aj y)) (ae (Gi (ae (-aj x)) (ae (-aj y)))) _ (jj hY) (jj (bi (mX hY hY0)))) ?_;rintro _ _ Ar O;have⟨G,E⟩:=bn Ar.2 G E;rw[pw hY hY hY0 Xi,mY]at O;subst O;refine I ?_;refine SA G (λ_ nm Av=>?_);have E:=bh nm E;refine I ?_
 refine aX (v:=.tuple #[.agg #[S (ae (aj (ae (-aj x))/Gi (ae (-aj x)) (ae (-aj y)))),S (ae (aj (ae (-aj y))/Gi (ae (-aj x)) (ae (-aj y))))],.int .i64 0]) (cQ (r1:=.cell 4 33) (r2:=.tmp 5) Z ?_ ?_) E (by rw[wJ,TW hx hy A0 hs]);refine ai (t:=4) (cs:=[S (ae (aj (ae (-aj x))/Gi (ae (-aj x)) (ae (-aj y)))),S (ae (aj (ae (-aj y))/Gi (ae (-aj x)) (ae (-aj y))))]) (b:=w.heap.size) (o:=0) iO Z bV ?_ ?_;exact Z;exact aa0 Av (i:=0) Z;exact aM (t:=5) WD _;have hs:=cw;have hX:=hx;have hY:=hy;have hY0:=Ax;refine I ?_;refine cl V4 (Ag x y _ (jj hX) (jj hY)) ?_;rintro _ _ Ao O;have⟨G,E⟩:=bn Ao.2 G E;rw[Ah hX hY hY0,mZ]at O;subst O;refine I ?_;refine cl Nl (pu x (ae (Gi x y)) _ (jj hX) (jj (bi (mX hY hY0)))) ?_;rintro _ _ Aw O;have⟨G,E⟩:=bn Aw.2 G E;rw[pw hX hY hY0 Xh,mY]at O;subst O;refine I ?_;refine cl Nl (pu y (ae (Gi x y)) _ (jj hY) (jj (bi (mX hY hY0)))) ?_;rintro _ _ B2 O;have⟨G,E⟩:=bn B2.2 G E;rw[pw hY hY hY0 Xi,mY]at O;subst O;refine I ?_;refine SA G (λ_ Ay wr=>?_);have E:=bh Ay E;refine I ?_
 refine aX (v:=.tuple #[.agg #[S (ae (aj x/Gi x y)),S (ae (aj y/Gi x y))],.int .i64 0]) (cQ (r1:=.cell 4 33) (r2:=.tmp 5) Z ?_ ?_) E (by rw[wJ,TV hx hy A0 hs]);refine ai (t:=4) (cs:=[S (ae (aj x/Gi x y)),S (ae (aj y/Gi x y))]) (b:=w.heap.size) (o:=0) iO Z bV ?_ ?_;exact Z;exact aa0 wr (i:=0) Z;exact aM (t:=5) WD _;refine I ?_;refine SA G (λ_ ny Az=>?_);have E:=bh ny E;refine I ?_;refine aX (v:=.tuple #[.agg #[S [],S []],.int .i64 40]) (cQ (r1:=.cell 4 33) (r2:=.tmp 5) Z ?_ ?_) E DE;refine ai (t:=4) (cs:=[S [],S []]) (b:=w.heap.size) (o:=0) iO Z bV ?_ ?_;exact Z;exact aa0 Az (i:=0) Z;exact aM (t:=5) WD _;refine I ?_;refine SA G (λ_ Ap CY=>?_);have E:=bh Ap E;refine I ?_;refine aX (v:=.tuple #[.agg #[S [],S []],.int .i64 40]) (cQ (r1:=.cell 4 33) (r2:=.tmp 5) Z ?_ ?_) E DE;refine ai (t:=4) (cs:=[S [],S []]) (b:=w.heap.size) (o:=0) iO Z bV ?_ ?_;exact Z;exact aa0 CY (i:=0) Z;exact aM (t:=5) WD _
def TY (n:Int):∃ng x,n=bO ng x/\(ng=true->0<x)/\x=n.natAbs:=by
 by_cases h:n<0
 · exact⟨true,n.natAbs,by simp[bO];omega,λ_=>by omega,rfl⟩
 · exact⟨false,n.natAbs,by simp[bO];omega,by simp,rfl⟩
def TZ (h:ng=true->0<x):sj (decide (bO ng x<0)) x=ae (bO ng x):=by
 rw[<-qU]
 congr 1
 cases ng with
 | false=>
   have:decide (bO false x<0)=false:=qa2 (by show¬(x:Int)<0;omega)
   rw[this]
 | true=>
   have:=h Z
   have:decide (bO true x<0)=true:=qa1 (by show -(x:Int)<0;omega)
   rw[this]
def uz :bO ng x=0↔x=0:=by cases ng <;>simp[bO] <;>omega
def CW {ng:Bool}{x:Nat}:-(x:Int)<=bO ng x/\bO ng x<=(x:Int):=by cases ng <;>simp[bO] <;>omega
def JX (h:ng=true/\0<d):bO ng d<0/\-bO ng d=(d:Int):=by rw[h.1];simp[bO];omega
def T0 (h:¬(ng=true/\0<d)):bO ng d=(d:Int):=by cases ng <;>simp_all [bO]
def Ai (h:¬x=0):ap 10 x=x%10::ap 10 (x/10):=fO 10 x U U
def ay (c n:Int):Int:=(if c<0 then -(c+1)else c)%n
def cI (c n:Int)(h:0<n):0<=ay c n/\ay c n<n:=⟨Int.emod_nonneg _ U,Int.emod_lt_of_pos _ h⟩
def Aj {n:Int}(h:c<0):-(c+1)%n=ay c n:=by unfold ay;rw[if_pos h]
def Ak {n:Int}(h:¬c<0):c%n=ay c n:=by unfold ay;rw[if_neg h]
def wK {n:Int}(h:-100000000<=n/\n<=100000000):(ae n).length<=1000000:=by
 have:fits n=true:=by
  unfold fits;rw[decide_eq_true_eq]
  have E:(10:Nat)^9<=10^200:=Nat.pow_le_pow_right U U
  omega
 have:=GF this;omega
def Al (hng:ng=true->0<x0)(hx0:x0<=100000000):
 CL 83 #[.int .i64 (bO ng x0)] w (aI w λv w'=>v=S (ae (bO ng x0))):=by
 have B1:(ap 10 x0).length<=9:=(ba 10 U x0 9).2 U;refine aE func83 Z (I ?_);have B0:World.ownsRow w w.heap.size 3 1 (.slice none 0 0) 0 (ints []):=bM;have Av:=aa1 w;refine cg [(3,5),(9,22)] (λAz e W=>∃x:Nat,∃ds:List Nat,∃O:Value,(x=Az)/\(e 4=.int .i64 (bO ng x))/\(e 3=O)/\(ap 10 x0=ds++ap 10 x)/\(x<=100000000)/\(aP w W)/\(W.ownsRow w.heap.size 3 1 O ds.length (ints ds))) (x0) ⟨x0,[],.slice none 0 0,rfl,rfl,rfl,rfl,hx0,Av,B0⟩ ?_;rintro _ _ _ ⟨x,ds,O,rfl,CY,Ap,G,CB,E,ho⟩;have E1:=bz E;by_cases hx:x=0;rw[hx,gm,List.append_nil]at G;obtain⟨_,_,rfl,Ay⟩:=qQ ho G.symm;have Cr:ds.length<=9:=by rw[<-G];exact B1
 have CG:=show bO ng x=0 from uz.2 hx;refine I ?_;refine clb Ie (hc:=kO Ay U (decide ((bO ng x0)<0))) (hk:=?_);rintro _ _ B2 rfl;have E:=xt E B2.2;refine I ?_;exact am (t:=2) (v:=S (sj (decide ((bO ng x0)<0)) x0)) Z E (by rw[TZ hng]) Z;by_cases hd:ng=true/\0<x%10;rw[Ai hx]at G;have A0:=qb2 List.length G;rw[List.length_append,List.length_cons]at A0;have D1:=show¬bO ng x=0 from λh=>hx (uz.1 h);refine I ?_;refine aa (Cj (a:=bO ng x) (b:=10) (c:=bO ng (x%10)) Z Z dc (by rw[Ac]) ?_);have D2:=(JX hd).1;refine I ?_;refine aa (y6 (a:=bO ng (x%10)) Z (by have:=@CW ng (x%10);unfold In64;omega) ?_);rw[(JX hd).2];refine I ?_;refine aa (aT (v:=O) Ap ?_);refine I ?_;refine BS (λ_ Ao _ C1=>?_);have ho:=ab Ao ho;have E:=xt E Ao;refine AP ho (aa7 C1) (λAf _ Aw Ar _=>?_);have E:=bo ho U U E Ar;refine aa (aL (v:=Af) Z ?_);refine I ?_;refine aa (Ci (a:=bO ng x) (b:=10) (c:=bO ng (x/10)) Z Z dc (Ad _ _) (by have:=@CW ng (x/10);unfold In64;omega) ?_);refine I ?_;exact bJ ⟨x/10,ds++[x%10],Af,rfl,rfl,rfl,(by rw[List.append_assoc];exact G),U,E,(aQ Aw JT (by rw[e8]))⟩
 rw[Ai hx]at G;have A0:=qb2 List.length G;rw[List.length_append,List.length_cons]at A0;have E0:=show¬bO ng x=0 from λh=>hx (uz.1 h);refine I ?_;refine aa (Cj (a:=bO ng x) (b:=10) (c:=((x%10:Nat):Int)) Z Z dc (by rw[Ac];exact T0 hd) ?_);refine I ?_;refine aa (aT (v:=O) Ap ?_);refine I ?_;refine BS (λ_ Am _ As=>?_);have ho:=ab Am ho;have E:=xt E Am;refine AP ho (aa7 As) (λAb _ Ax Aq _=>?_);have E:=bo ho U U E Aq;refine aa (aL (v:=Ab) Z ?_);refine I ?_;refine aa (Ci (a:=bO ng x) (b:=10) (c:=bO ng (x/10)) Z Z dc (Ad _ _) (by have:=@CW ng (x/10);unfold In64;omega) ?_);refine I ?_;exact bJ ⟨x/10,ds++[x%10],Ab,rfl,rfl,rfl,(by rw[List.append_assoc];exact G),U,E,(aQ Ax JT (by rw[e8]))⟩
def uA (n:Int)(w:World)(h:-100000000<=n/\n<=100000000):CL 83 #[.int .i64 n] w (aI w λv _=>v=S (ae n)):=by
 obtain⟨ng,x,rfl,h1,h2⟩:=TY n
 exact Al h1 (by have:=jK ng x;omega)
def An (n m:Int)(w:World)(hn:-100000000<=n/\n<=100000000)(hm:-100000000<=m/\m<=100000000):
 CL 34 #[.int .i64 n,.int .i64 m] w (aI w λv w'=>v=gT (qV (ae n) (ae m))):=by
 refine aE func34 Z (I ?_);refine al aY (λ_ O G=>?_);have E:=O.2;refine I ?_;refine clb VY (hc:=uA n _ U) (hk:=?_);rintro _ _ Ao rfl;have⟨G,E⟩:=bn Ao.2 G E;refine I ?_;refine clb VY (hc:=uA m _ U) (hk:=?_);rintro _ _ Af rfl;have⟨G,E⟩:=bn Af.2 G E;refine clb YZ (hc:=GG (ae n) (ae m) _ (wK U) (wK U)) (hk:=?_);rintro _ _ Am rfl;have⟨G,E⟩:=bn Am.2 G E;refine I ?_;refine SA G (λ_ Ab A0=>?_);have E:=bh Ab E;refine I ?_;refine aX (v:=.tuple #[.agg #[S (rN (qV (ae n) (ae m))),S (rD (qV (ae n) (ae m)))],.int .i64 (TK (qV (ae n) (ae m)))]) (cQ (r1:=.cell 4 33) (r2:=.tmp 5) Z ?_ ?_) E Z;refine ai (t:=4) (cs:=[S (rN (qV (ae n) (ae m))),S (rD (qV (ae n) (ae m)))]) (b:=w.heap.size) (o:=0) iO Z bV ?_ ?_;exact Z;exact aa0 A0 (i:=0) Z;exact aM (t:=5) WD _
end
section
open Go Go.Eng Go.RowKit Tryz
def sA:Value->Option Addr
 | .slice A _ _=>A
 |_=>none
def sC:Value->Nat
 | .slice _ _ c=>c
 |_=>0
def ci:Option Addr->Nat
 |some a=>a.block
 |none=>0
def gH:Option Addr->Nat
 |some a=>a.off
 |none=>0
def bX {α:Type}(f:Nat->α)(i:Nat)(a:α):Nat->α:=λj=>if j=i then a else f j
def bj {α:Type}(f:Nat->α)(i:Nat)(a:α):bX f i a i=a:=by simp[bX]
def bm {α:Type}(f:Nat->α)(a:α)(h:j≠i):bX f i a j=f j:=by simp[bX,h]
def JY (h:Rw W lo A cs)(hu:cs[j]?=some u):A=some ⟨ci A,gH A,none⟩/\W.cell? ⟨ci A,gH A+j,none⟩=some u:=by
 obtain⟨b,o,rfl,hc⟩:=h.cells j u hu
 exact⟨rfl,hc⟩
def bA {l:List R}(h:Rw W lo A (ag l))(hk:k<l.length):
 A=some ⟨ci A,gH A,none⟩/\∀j u,[S (ar l k).1,S (ar l k).2][j]?=some u->W.cell? ⟨ci A,gH A+k*2+j,none⟩=some u:=by
 obtain⟨b,o,rfl,hc⟩:=EE h hk
 exact⟨rfl,hc⟩
def dl (h:W.ownsRow lo t sz v n cs):v=.slice (sA v) n (sC v):=by
 obtain⟨hl,⟨rfl,rfl⟩|⟨g,cap,E,rfl,_⟩⟩:=h <;>rfl
def fh (h:W.ownsRow lo t sz v n cs):Rw W lo (sA v) cs:=by
 have h2:=h
 rw[dl h]at h2
 exact aa7 h2
def dN (h:W.ownsRow lo t sz v n cs):∀g,v.ownBlock=some g->g<W.heap.size:=by
 obtain⟨hl,⟨rfl,rfl⟩|⟨g,cap,O,rfl,G,E,_⟩⟩:=h
 · intro g e;cases e
 · intro _ e;cases e;exact(Array.getElem?_eq_some_iff.1 E).1
def cD (hl:lo'<=lo)(h:W.ownsRow lo t sz v n cs):W.ownsRow lo' t sz v n cs:=by
 obtain⟨h1,h2|⟨g,cap,G,rfl,E,r⟩⟩:=h
 · exact⟨h1,.inl h2⟩
 · exact⟨h1,.inr ⟨g,cap,G,rfl,qa8 hl E,r⟩⟩
structure Mt (W:World)(lo:Nat)(A:Option Addr)(n:Nat)(H:Nat->Value)(L:Nat->List R):Prop where
 out:Rw W lo A ((List.range n).map H)
 hdr:∀i,i<n->H i=.slice (sA (H i)) (L i).length (sC (H i))
 row:∀i,i<n->Rw W lo (sA (H i)) (ag (L i))
 cap:∀i,i<n->(L i).length<=sC (H i)
def m0 (h:W.ownsRow base et sz v k cs):k<=sC v:=by
 obtain⟨hl,⟨rfl,rfl⟩|⟨g,cap,O,rfl,G,E,hc,r⟩⟩:=h
 · exact qa0 _
 · exact hc
section
variable {W':World}{hi m:Nat}{L:Nat->List R}
def Mt.ext (k:aP W W')(h:Mt W lo A n H L):Mt W' lo A n H L:=⟨h.out.ext k,h.hdr,λi hi=>(h.row i hi).ext k,h.cap⟩
def Mt.put {b:Nat}(k:ez W W' b)(hb:b<lo)(h:Mt W lo A n H L):Mt W' lo A n H L:=⟨h.out.put k hb,h.hdr,λi hi=>(h.row i hi).put k hb,h.cap⟩
def Mt.mono (hl:lo'<=lo)(h:Mt W lo A n H L):Mt W lo' A n H L:=⟨h.out.mono hl,h.hdr,λi hi=>(h.row i hi).mono hl,h.cap⟩
def ad8:=@Mt.mono
def Mt.cell (h:Mt W lo A n H L)(hi:i<n):A=some ⟨ci A,gH A,none⟩/\W.cell? ⟨ci A,gH A+i,none⟩=some (.slice (sA (H i)) (L i).length (sC (H i))):=by
 rw[<-h.hdr i hi]
 exact JY h.out (by simp[hi])
def ab2:=@Mt.cell
def Mt.elem (h:Mt W lo A n H L)(hi:i<n)(hk:k<(L i).length):
 sA (H i)=some ⟨ci (sA (H i)),gH (sA (H i)),none⟩/\∀j u,[S (ar (L i) k).1,S (ar (L i) k).2][j]?=some u->W.cell? ⟨ci (sA (H i)),gH (sA (H i))+k*2+j,none⟩=some u:=
 bA (h.row i hi) hk
def ad3:=@Mt.elem
def Mt.congr {L':Nat->List R}(h:Mt W lo A n H L)(hL:∀i,i<n->L i=L' i):Mt W lo A n H L':=
 ⟨h.out,λi hi=>by rw[<-hL i hi];exact h.hdr i hi,λi hi=>by rw[<-hL i hi];exact h.row i hi,λi hi=>by rw[<-hL i hi];exact h.cap i hi⟩
structure Wr (W:World)(lo hi n:Nat)(H:Nat->Value)(L:Nat->List R):Prop where
 own:∀i,i<n->W.ownsRow lo 33 2 (H i) (L i).length (ag (L i))
 hi:∀i,i<n->∀g,(H i).ownBlock=some g->g<hi
 ne:∀i j,i<n->j<n->i≠j->aA (H i) (H j)
def Wr.nil:Wr W lo hi 0 H L:=⟨λi h=>by omega,λi h=>by omega,λi j h=>by omega⟩
def Wr.ext (k:aP W W')(h:Wr W lo hi n H L):Wr W' lo hi n H L:=⟨λi hi=>ab k (h.own i hi),h.hi,h.ne⟩
def aa2:=@Wr.ext
def Wr.put {b:Nat}(k:ez W W' b)(hb:b<lo\/hi<=b)(h:Wr W lo hi n H L):Wr W' lo hi n H L:=
 ⟨λi hi'=>aw k (λe=>by have h1:=h.hi i hi' b e;have h2:=aV (h.own i hi') b e;omega) (h.own i hi'),h.hi,h.ne⟩
def ab7:=@Wr.put
def Wr.gr {row:Option Nat}(k:W.grownBy W' row)(hb:∀g,row=some g->g<lo\/hi<=g)(h:Wr W lo hi n H L):Wr W' lo hi n H L:=
 ⟨λi hi'=>nK k (λg e e2=>by have h1:=h.hi i hi' g e;have h2:=aV (h.own i hi') g e;have h3:=hb g e2.symm;omega) (h.own i hi'),h.hi,h.ne⟩
def Wr.grOut (k:W.grownBy W' v.ownBlock)(hne:∀i,i<n->aA v (H i))(h:Wr W lo hi n H L):Wr W' lo hi n H L:=
 ⟨λi hi'=>nK k (λg e e2=>hne i hi' g e2.symm e) (h.own i hi'),h.hi,h.ne⟩
def ad0:=@Wr.grOut
def Wr.putOut {b:Nat}(k:ez W W' b)(hne:∀i,i<n->(H i).ownBlock≠some b)(h:Wr W lo hi n H L):Wr W' lo hi n H L:=
 ⟨λi hi'=>aw k (hne i hi') (h.own i hi'),h.hi,h.ne⟩
def Wr.mono (hl:hi<=hi')(h:Wr W lo hi n H L):Wr W lo hi' n H L:=⟨h.own,λi hi g e=>qb1 (h.hi i hi g e) hl,h.ne⟩
def Wr.top (h:Wr W lo hi n H L):Wr W lo W.heap.size n H L:=⟨h.own,λi hi g e=>dN (h.own i hi) g e,h.ne⟩
def Wr.hdr (h:Wr W lo hi n H L)(hi:i<n):H i=.slice (sA (H i)) (L i).length (sC (H i)):=dl (h.own i hi)
def Wr.elem (h:Wr W lo hi n H L)(hi:i<n)(hk:k<(L i).length):
 sA (H i)=some ⟨ci (sA (H i)),gH (sA (H i)),none⟩/\∀j u,[S (ar (L i) k).1,S (ar (L i) k).2][j]?=some u->W.cell? ⟨ci (sA (H i)),gH (sA (H i))+k*2+j,none⟩=some u:=
 bA (fh (h.own i hi)) hk
def Wr.mt (h:Wr W lo hi n H L)(ho:Rw W lo A ((List.range n).map H)):Mt W lo A n H L:=⟨ho,λi hi=>h.hdr hi,λi hi=>fh (h.own i hi),λi hi=>m0 (h.own i hi)⟩
def Wr.congr {L':Nat->List R}(h:Wr W lo hi n H L)(hL:∀i,i<n->L i=L' i):Wr W lo hi n H L':=
 ⟨λi hi=>by rw[<-hL i hi];exact h.own i hi,h.hi,h.ne⟩
def Wr.push {r:Value}{l:List R}(h:Wr W lo hi n H L)(hr:W.ownsRow lo 33 2 r l.length (ag l))(hne:∀i,i<n->aA r (H i)):Wr W lo W.heap.size (n+1) (bX H n r) (bX L n l):=by
 refine⟨λi hi=>?_,λi hi g e=>?_,λi j hi _ E=>?_⟩
 · by_cases e:i=n
   · subst e;rw[bj,bj];exact hr
   · rw[bm _ _ e,bm _ _ e];exact h.own i U
 · by_cases e':i=n
   · subst e';rw[bj]at e;exact dN hr g e
   · rw[bm _ _ e']at e;exact dN (h.own i U) g e
 · by_cases e:i=n
   · subst e;rw[bj,bm _ _ (Ne.symm E)];exact hne j U
   · by_cases e2:j=n
     · subst e2;rw[bj,bm _ _ e];exact aa4 (hne i U)
     · rw[bm _ _ e,bm _ _ e2];exact h.ne i j U U E
def eM {α:Type}(H:Nat->α)(n:Nat)(r:α):(List.range (n+1)).map (bX H n r)=(List.range n).map H++[r]:=by
 rw[List.range_succ,List.map_append]
 congr 1
 · exact List.map_congr_left λi hi=>bm _ _ (by have:=List.mem_range.1 hi;omega)
 · simp[bj]
def Wr.app {l':List R}(h:Wr W lo hi n H L)(hj:j<n)(hg:W.grownBy W' (H j).ownBlock)(ho:W'.ownsRow lo 33 2 v' l'.length (ag l'))(ha:v'.ownBlock=(H j).ownBlock\/v'.ownBlock=some W.heap.size):Wr W' lo W'.heap.size n (bX H j v') (bX L j l'):=by
 have hother:∀i,i<n->i≠j->W'.ownsRow lo 33 2 (H i) (L i).length (ag (L i)):=λi hi E=>
  ab4 (h.ne j i hj hi (Ne.symm E)) hg (h.own i hi)
 have O:∀i,i<n->i≠j->aA v' (H i):=λi hi E=>aa8 ha (h.ne j i hj hi (Ne.symm E)) (h.own i hi)
 refine⟨λi hi=>?_,λi hi g e=>?_,λi k hi hk G=>?_⟩
 · by_cases e:i=j
   · subst e;rw[bj,bj];exact ho
   · rw[bm _ _ e,bm _ _ e];exact hother i hi e
 · by_cases e':i=j
   · subst e';rw[bj]at e;exact dN ho g e
   · rw[bm _ _ e']at e;exact dN (hother i hi e') g e
 · by_cases e:i=j
   · subst e;rw[bj,bm _ _ (Ne.symm G)];exact O k hk (Ne.symm G)
   · by_cases e2:k=j
     · subst e2;rw[bj,bm _ _ e];exact aa4 (O i hi e)
     · rw[bm _ _ e,bm _ _ e2];exact h.ne i k hi hk G
def Wr.perm (f:Nat->Nat)(hf:∀i,i<n->f i<n)(hi':∀i j,i<n->j<n->f i=f j->i=j)(h:Wr W lo hi n H L):Wr W lo hi n (λi=>H (f i)) (λi=>L (f i)):=
 ⟨λi hi=>h.own _ (hf i hi),λi hi=>h.hi _ (hf i hi),λi j hi E G=>h.ne _ _ (hf i hi) (hf j E) (λe=>G (hi' i j hi E e))⟩
def Wr.far (h:Wr W lo hi n H L)(hr:W.ownsRow base t sz v k cs)(hb:hi<=base):∀i,i<n->aA v (H i):=
 λi hi' g e e2=>by have h1:=h.hi i hi' g e2;have h2:=aV hr g e;omega
def dZ {r:Value}(h:∀i,i<n->aA v (H i))(hr:aA v r):∀i,i<n+1->aA v (bX H n r i):=λi hi=>by
 by_cases e:i=n
 · subst e;rw[bj];exact hr
 · rw[bm _ _ e];exact h i U
end
def JZ {n d:Int}(hn:fits n=true)(hd:fits d=true)(hg:Int.gcd n d=1)(hp:0<d):bL (ae n,ae d)=true:=by
 unfold bL
 have h2:=bi hd
 have h1:=bi hn
 show(isInt (ae n)&&isInt (ae d)&& !decide (dM (ae d) [48]<=0)&&decide (bQ (ae n) (ae d)=some [49]))=true
 rw[h1,h2]
 have h3:¬dM (ae d) [48]<=0:=by
  rw[gP h2,da,aK];omega
 have h4:bQ (ae n) (ae d)=some [49]:=by
  unfold bQ
  rw[h1,h2,Bool.and_self,if_pos Z,aK,aK,hg]
  decide +kernel
 simp[h3,h4]
def uB {n d:Int}{q:R}(hn:fits n=true)(hd:fits d=true)(h:ii n d=some q):bL q=true:=by
 unfold ii at h
 by_cases h0:d=0
 · rw[if_pos h0]at h;cases h
 · rw [if_neg h0]at h
   cases h
   have G:0<Int.gcd n d:=Int.gcd_pos_of_ne_zero_right _ h0
   have hc:=Int.gcd_ediv_gcd_ediv_gcd G
   obtain⟨g,hgg⟩:∃g:Nat,Int.gcd n d=g:=⟨_,rfl⟩
   rw[hgg]at hc G
   have O:(g:Int)∣n:=by rw[<-hgg];exact Int.gcd_dvd_left ..
   have E:(g:Int)∣d:=by rw[<-hgg];exact Int.gcd_dvd_right ..
   have Ab:fits (n/(g:Int))=true:=j7 hn (j8 _ _ U O)
   have Af:fits (d/(g:Int))=true:=j7 hd (j8 _ _ U E)
   have Ao:d/(g:Int)≠0:=λe=>h0 (by have:=Int.mul_ediv_cancel' E;rw[e]at this;omega)
   unfold qc dh
   rw[hgg]
   by_cases hs:d<0
   · rw[if_pos hs,if_pos hs,Int.neg_ediv_of_dvd O,Int.neg_ediv_of_dvd E]
     have Am:d/(g:Int)<0:=by
      have:=Int.mul_ediv_cancel' E
      refine Int.lt_of_not_ge λA0=>?_
      have Ap:0<=(g:Int)*(d/(g:Int)):=Int.mul_nonneg U A0
      omega
     refine JZ ?_ ?_ ?_ U
     · unfold fits at *;rwa [Int.natAbs_neg]
     · unfold fits at *;rwa [Int.natAbs_neg]
     · rw[Int.neg_gcd,Int.gcd_neg];exact hc
   · rw[if_neg hs,if_neg hs]
     have Am:0<=d/(g:Int):=Int.ediv_nonneg U U
     exact JZ Ab Af hc U
def px {n d:Int}{q:R}(h:ij n d=some q):bL q=true:=by
 unfold ij at h
 cases h1:fits n with
 |false=>rw[h1]at h;simp at h
 | true=>
   cases h2:fits d with
   |false=>rw[h1,h2]at h;simp at h
   |true=>rw[h1,h2,Bool.and_self,if_pos Z]at h;exact uB h1 h2 h
def EO {a b q:R}(h:qr a b=some q):bL q=true:=by unfold qr at h;split at h <;>first|exact px h|cases h
def EQ {a b q:R}(h:mB a b=some q):bL q=true:=by unfold mB at h;split at h <;>first|exact px h|cases h
def ER {a b q:R}(h:jL a b=some q):bL q=true:=by
 unfold jL at h;split at h
 · split at h <;>first|exact px h|cases h
 · cases h
def yf {a b q:R}(h:dx a b=some q):bL q=true:=by
 unfold dx at h;split at h
 · split at h <;>first|exact px h|cases h
 · cases h
def OC {n d:List UInt8}{q:R}(h:qV n d=some q):bL q=true:=by
 unfold qV at h
 split at h
 · rename_i hh
   simp only[Bool.and_eq_true]at hh
   exact uB (eU hh.1) (eU hh.2) h
 · cases h
def OD {a:R}(h:bL a=true):a.1.length<=1000000/\a.2.length<=1000000:=by
 have h1:=(kN (jo h)).2
 have h2:=(kN (gu h)).2
 omega
def T1 {a:R}(h:bL a=true):(dx ([48],[49]) a).isSome=true:=by
 have G:aj [48]=0:=by decide +kernel
 have ho:aj [49]=1:=by decide +kernel
 unfold dx
 rw[us,h,Bool.and_self,if_pos Z]
 simp only[G,ho,Int.zero_mul,Int.mul_one,Int.one_mul,Int.zero_sub]
 have E:fits 0=true:=by decide +kernel
 have f1:=eU (jo h)
 have f2:=eU (gu h)
 have O:fits (-aj a.1)=true:=by unfold fits at *;rwa [Int.natAbs_neg]
 rw[E,f1,Bool.and_self,if_pos Z]
 unfold ij
 rw[O,f2,Bool.and_self,if_pos Z]
 unfold ii
 rw[if_neg (by have:=cX h;omega)]
 rfl
def z0:R:=([48],[49])
def o1:R:=([49],[49])
abbrev Rows:=Nat->List R
def mD (r:Nat)(pv:R):Nat->Nat->Rows->Option Rows
 |0,_,L=>some L
 | f+1,k,L=>match mB (ar (L r) k) pv with
   |none=>none
   |some q=>mD r pv f (k+1) (bX L r ((L r).set k q))
def lW (r i:Nat)(by_:R):Nat->Nat->Rows->Option Rows
 |0,_,L=>some L
 | f +1,k,L=>match qr by_ (ar (L r) k)with
   |none=>none
   | some p=>match dx (ar (L i) k) p with
     |none=>none
     |some d=>lW r i by_ f (k+1) (bX L i ((L i).set k d))
def kq (m r c:Nat):Nat->Nat->Rows->Option Rows
 |0,_,L=>some L
 | f+1,i,L=>if i=r\/ar (L i) c=z0 then kq m r c f (i+1) L else match lW r i (ar (L i) c) (m-c) c L with
   |none=>none
   |some L'=>kq m r c f (i+1) L'
def iF (c:Nat)(L:Rows):Nat->Nat->Nat
 |0,p=>p
 |f+1,p=>if ar (L p) c=z0 then iF c L f (p+1)else p
def sU (c:Nat)(L:Rows):∀(f p:Nat),p<=iF c L f p/\iF c L f p<=p+f
 |0,p=>⟨qa0 _,qa0 _⟩
 | f+1,p=>by
   unfold iF
   split
   · have:=sU c L f (p+1);omega
   · omega
def sl (p r i:Nat):Nat:=if i=p then r else if i=r then p else i
def nF (p r:Nat)(L:Rows):Rows:=λi=>L (sl p r i)
structure El where
 L:Rows
 piv:List R
 cols:List Nat
 sw:Nat
def py (n m c:Nat)(s:El):Option El:=
 if iF c s.L (n-s.piv.length) s.piv.length=n then some s
 else match mD s.piv.length (ar (s.L (iF c s.L (n-s.piv.length) s.piv.length)) c) (m-c) c (nF (iF c s.L (n-s.piv.length) s.piv.length) s.piv.length s.L)with
  |none=>none
  | some L2=>match kq m s.piv.length c n 0 L2 with
    |none=>none
    |some L3=>some ⟨L3,s.piv++[ar (s.L (iF c s.L (n-s.piv.length) s.piv.length)) c],s.cols++[c],if iF c s.L (n-s.piv.length) s.piv.length=s.piv.length then s.sw else s.sw+1⟩
def il (n m:Nat):Nat->Nat->El->Option El
 |0,_,s=>some s
 | f+1,c,s=>match py n m c s with
   |none=>none
   |some s'=>il n m f (c+1) s'
def elim (n m cols:Nat)(L:Rows):Option El:=il n m cols 0 ⟨L,[],[],0⟩
def qt (n m:Nat)(L:Rows):Prop:=∀i,i<n->(L i).length=m/\∀k,k<m->bL (ar (L i) k)=true
def pC {l:List R}{q:R}(hk:k<l.length):ar (l.set k q) j=if j=k then q else ar l j:=by
 unfold ar
 rw[List.getD,List.getD,List.getElem?_set]
 by_cases h:k=j
 · subst h;simp[hk]
 · simp[h,Ne.symm h]
def qt.set {m:Nat}{L:Rows}{q:R}(h:qt n m L)(hk:k<m)(hi:i<n)(hq:bL q=true):qt n m (bX L i ((L i).set k q)):=by
 intro j E
 by_cases e:j=i
 · subst e
   rw[bj]
   refine⟨by rw[List.length_set];exact(h j E).1,λk' G=>?_⟩
   rw[pC (by rw[(h j E).1];exact hk)]
   split
   · exact hq
   · exact(h j E).2 k' G
 · rw[bm _ _ e];exact h j E
def qt.sw {m r:Nat}{L:Rows}(h:qt n m L)(hp:p<n)(hr:r<n):qt n m (nF p r L):=by
 intro i hi
 refine h _ ?_
 unfold sl
 split
 · exact hr
 · split
   · exact hp
   · exact hi
def uC {r:Nat}(hp:p<n)(hr:r<n)(hi:i<n):sl p r i<n:=by
 unfold sl;split
 · exact hr
 · split <;>omega
def OE {r:Nat}(h:sl p r i=sl p r j):i=j:=by
 unfold sl at h
 split at h <;>split at h <;>(try split at h) <;>(try split at h) <;>omega
def J0 (r i:Nat):sl r r i=i:=by unfold sl;split <;>(try split) <;>omega
def pF (r:Nat)(L:Rows):nF r r L=L:=funext λi=>by unfold nF;rw[J0]
section steps
variable {r c m cols:Nat}{pv q by_ d:R}{L L1 L2 L3:Rows}{T:Option Rows}{E:Option El}{piv:List R}{cs:List Nat}{sw sw':Nat}
def js (h:k<m):m-k=(m-(k+1))+1:=J
def GH (hk:k<m)(h:mD r pv (m-k) k L=T)(hd:mB (ar (L r) k) pv=some q):mD r pv (m-(k+1)) (k+1) (bX L r ((L r).set k q))=T:=by
 rw[js hk]at h;unfold mD at h;rw[hd]at h;exact h
def GI (hk:k<m)(h:mD r pv (m-k) k L=T)(hd:mB (ar (L r) k) pv=none):T=none:=by
 rw[js hk]at h;unfold mD at h;rw[hd]at h;exact h.symm
def J1 (hk:¬k<m)(h:mD r pv (m-k) k L=T):T=some L:=by
 rw[show m-k=0 by omega]at h;exact h.symm
def GJ (hk:k<m)(h:lW r i by_ (m-k) k L=T)(hp:qr by_ (ar (L r) k)=some q)(hd:dx (ar (L i) k) q=some d):lW r i by_ (m-(k+1)) (k+1) (bX L i ((L i).set k d))=T:=by
 rw[js hk]at h;unfold lW at h;rw[hp]at h;dsimp only at h;rw[hd]at h;exact h
def CZ (hk:k<m)(h:lW r i by_ (m-k) k L=T)(hp:qr by_ (ar (L r) k)=none):T=none:=by
 rw[js hk]at h;unfold lW at h;rw[hp]at h;exact h.symm
def C2 (hk:k<m)(h:lW r i by_ (m-k) k L=T)(hp:qr by_ (ar (L r) k)=some q)(hd:dx (ar (L i) k) q=none):T=none:=by
 rw[js hk]at h;unfold lW at h;rw[hp]at h;dsimp only at h;rw[hd]at h;exact h.symm
def J2 (hk:¬k<m)(h:lW r i by_ (m-k) k L=T):T=some L:=by
 rw[show m-k=0 by omega]at h;exact h.symm
def wL (hi:i<n)(h:kq m r c (n-i) i L=T)(hs:i=r\/ar (L i) c=z0):kq m r c (n-(i+1)) (i+1) L=T:=by
 rw[js hi]at h;unfold kq at h;rw[if_pos hs]at h;exact h
def GK (hi:i<n)(h:kq m r c (n-i) i L=T)(hs1:¬i=r)(hs2:¬ar (L i) c=z0)(hd:lW r i (ar (L i) c) (m-c) c L=some L1):kq m r c (n-(i+1)) (i+1) L1=T:=by
 rw[js hi]at h;unfold kq at h;rw[if_neg (by rintro(h|h) <;>contradiction),hd]at h;exact h
def wN (hi:i<n)(h:kq m r c (n-i) i L=T)(hs1:¬i=r)(hs2:¬ar (L i) c=z0)(hd:lW r i (ar (L i) c) (m-c) c L=none):T=none:=by
 rw[js hi]at h;unfold kq at h;rw[if_neg (by rintro(h|h) <;>contradiction),hd]at h;exact h.symm
def J3 (hi:¬i<n)(h:kq m r c (n-i) i L=T):T=some L:=by
 rw[show n-i=0 by omega]at h;exact h.symm
def sW (h:L1=nF p r L):L1 r=L p:=by
 rw[h];unfold nF sl;split <;>simp_all
def OF (hc:c<cols)(h:il n m (cols-c) c ⟨L,piv,cs,sw⟩=E)(hp:iF c L (n-piv.length) piv.length=n):il n m (cols-(c+1)) (c+1) ⟨L,piv,cs,sw⟩=E:=by
 rw[js hc]at h;unfold il py at h;rw[if_pos hp]at h;exact h
def J4 (hc:c<cols)(h:il n m (cols-c) c ⟨L,piv,cs,sw⟩=E)(hp:iF c L (n-piv.length) piv.length=p)(hpn:p<n)(hL1:L1=nF p piv.length L)(hd:mD piv.length (ar (L1 piv.length) c) (m-c) c L1=none):E=none:=by
 rw[js hc]at h;unfold il py at h
 dsimp only at h
 rw[hp,if_neg U,<-hL1,<-sW hL1,hd]at h;exact h.symm
def Au (hc:c<cols)(h:il n m (cols-c) c ⟨L,piv,cs,sw⟩=E)(hp:iF c L (n-piv.length) piv.length=p)(hpn:p<n)(hL1:L1=nF p piv.length L)(hd:mD piv.length (ar (L1 piv.length) c) (m-c) c L1=some L2)(hcl:kq m piv.length c n 0 L2=none):E=none:=by
 rw[js hc]at h;unfold il py at h
 dsimp only at h
 rw[hp,if_neg U,<-hL1,<-sW hL1,hd]at h
 dsimp only at h
 rw[hcl]at h;exact h.symm
def OG (hc:c<cols)(h:il n m (cols-c) c ⟨L,piv,cs,sw⟩=E)(hp:iF c L (n-piv.length) piv.length=p)(hpn:p<n)(hL1:L1=nF p piv.length L)(hsw:sw'=if p=piv.length then sw else sw+1)(hd:mD piv.length (ar (L1 piv.length) c) (m-c) c L1=some L2)(hcl:kq m piv.length c n 0 L2=some L3):
 il n m (cols-(c+1)) (c+1) ⟨L3,piv++[ar (L1 piv.length) c],cs++[c],sw'⟩=E:=by
 rw[js hc]at h;unfold il py at h
 dsimp only at h
 rw[hp,if_neg U,<-hL1,<-sW hL1,hd]at h
 dsimp only at h
 rw[hcl,<-hsw]at h;exact h
def T4 (hc:¬c<cols){s:El}(h:il n m (cols-c) c s=E):E=some s:=by
 rw[show cols-c=0 by omega]at h;exact h.symm
end steps
def g36:prog.eqGuardType prog.depth 33=false:=by kernel_rfl
def Zf:prog.stoodInHeld 33=false:=by kernel_rfl
def ET (w:World)(cs:Array Value)(i:Nat)(v:Value)(h:cs[i]?=some v):(part 9 cs i).run prog w=.ok v w:=by
 unfold part
 simp[isAgg,run_underlying underlying9,h]
def eq9 (w:World)(a b:List UInt8)(d:Nat):(Op.equalIn (d+1) 9 (S a) (S b)).run prog w=.ok (decide (a=b)) w:=by
 unfold Op.equalIn
 simp[run_underlying underlying9,S]
 have h:∀x y:ByteArray,(x==y)=(x.data==y.data):=λx y=>by cases x;cases y;rfl
 rw[h]
 exact Bool.eq_iff_iff.2 JT
def Xj (w:World)(a b:R):(Op.equal 33 (.agg #[S a.1,S a.2]) (.agg #[S b.1,S b.2])).run prog w=.ok (decide (a=b)) w:=by
 unfold Op.equal Op.maxDepth
 show(Op.equalIn (9998+1+1) 33 _ _).run _ _=_
 unfold Op.equalIn
 obtain⟨a1,G⟩:=a
 obtain⟨b1,b2⟩:=b
 have A0:=ET w #[S a1,S G] 0 (S a1) Z
 have p2:=ET w #[S a1,S G] 1 (S G) Z
 have p3:=ET w #[S b1,S b2] 0 (S b1) Z
 have p4:=ET w #[S b1,S b2] 1 (S b2) Z
 have O:=eq9 w a1 b1 9998
 have e2:=eq9 w G b2 9998
 simp[run_underlying underlying33,Zf,A0,p2,p3,p4,O,e2]
 by_cases h1:a1=b1 <;>by_cases h2:G=b2 <;>simp[h1,h2]
section
variable {r:Option Nat}{ds:List Deferred}{Q:Exit->Act->World->Prop}{K:Act->World->Prop}
variable {ty:Nat}{pos:String}{af:Array Edge}{g:Option (Nat×Bool)}{x y:Operand}{t':TypeId}
def EU {op:BinOp}(x y:Operand)(a b:Array Value):(eqGuard op 33 x y (.agg a) (.agg b)).run prog w=.ok () w:=by
 unfold eqGuard
 cases op <;>simp[g36]
def yg {a b:R}(hx:ev N e x=.agg #[S a.1,S a.2])(hy:ev N e y=.agg #[S b.1,S b.2])(hq:decide (a=b)=q)(hk:K (act N (upd e d (.bool q)) ds) w):
 Oper.wpIn (Fw r) n prog ⟨some d,.binOp .eql 33 x y t',ty,pos,af,g⟩ (act N e ds) w K Q:=
 dI hx hy (EU ..) (by subst hq;simp[binOp,Xj]) hk
def qX {a b:R}(hx:ev N e x=.agg #[S a.1,S a.2])(hy:ev N e y=.agg #[S b.1,S b.2])(hq:(!decide (a=b))=q)(hk:K (act N (upd e d (.bool q)) ds) w):
 Oper.wpIn (Fw r) n prog ⟨some d,.binOp .neq 33 x y t',ty,pos,af,g⟩ (act N e ds) w K Q:=
 dI hx hy (EU ..) (by subst hq;simp[binOp,Xj]) hk
end
def take_set {α:Type}(l:List α)(m i:Nat)(a:α)(h:i<m):(l.set i a).take m=(l.take m).set i a:=by
 rw[List.take_set]
def uE:∀(l:List R) (k:Nat) (q:R),((ag l).set (k*2) (S q.1)).set (k*2+1) (S q.2)=ag (l.set k q)
 |[],k,q=>by simp[ag]
 |a::t,0,q=>by simp[ag]
 | a::t,k+1,q=>by
   have ih:=uE t k q
   rw[show(k+1)*2=k*2+2 by omega,show k*2+2+1=k*2+1+2 by omega]
   simp only[ag,List.flatMap_cons,List.cons_append,List.nil_append,List.set_cons_succ]at ih ⊢
   rw[ih]
def AA {l:List R}{q:R}(h:W.ownsRow lo t 2 v n (ag l))(hl:l.length=n)(hk:k<n):
 ∃cur,ao W (ci (sA v)) t cur/\gH (sA v)=0/\k*2+2<=cur.size/\v.ownBlock=some (ci (sA v))/\∀W',ao W' (ci (sA v)) t (putCells cur (k*2) [S q.1,S q.2])->W'.ownsRow lo t 2 v (l.set k q).length (ag (l.set k q)):=by
 obtain⟨h1,⟨rfl,A0⟩|⟨g,cap,cur,rfl,O,G,hc,hm,hs,ht⟩⟩:=h
 · omega
 · refine⟨cur,G,rfl,by omega,rfl,λW' hB=>?_⟩
   rw[List.length_set,hl]
   refine⟨by rw[fI,List.length_set,hl],.inr ⟨g,cap,_,rfl,O,hB,hc,hm,?_,?_⟩⟩
   · simp[putCells,hs]
   · show((cur.setIfInBounds (k*2) (S q.1)).setIfInBounds (k*2+1) (S q.2)).toList.take (n*2)=_
     rw[Array.toList_setIfInBounds,Array.toList_setIfInBounds,List.take_set,List.take_set,ht,uE]
section
variable {r:Option Nat}{ds:List Deferred}{Q:Exit->Act->World->Prop}{K:Act->World->Prop}
variable {ty:Nat}{pos:String}{af:Array Edge}{g:Option (Nat×Bool)}{x y:Operand}
def uF {hi m:Nat}{L:Nat->List R}{q:R}(h:Wr w lo hi m H L)(hi':i<m)(hk:k<(L i).length)(hs:(prog.info? t).map (·.size)=some 2)(hx:ev N e x=.pointer (some ⟨ci (sA (H i)),gH (sA (H i))+k*2,none⟩))(hy:ev N e y=.agg #[S q.1,S q.2])(hK:∀w',ez w w' (ci (sA (H i)))->lo<=ci (sA (H i))->ci (sA (H i))<hi->(H i).ownBlock=some (ci (sA (H i)))->Wr w' lo hi m H (bX L i ((L i).set k q))->K (act N e ds) w'):
 Oper.wpIn (Fw r) n prog ⟨none,.store t x y,ty,pos,af,g⟩ (act N e ds) w K Q:=by
 obtain⟨Af,hB,Am,Ao,G,Ab⟩:=AA (q:=q) (h.own i hi') Z hk
 rw[Am,Nat.zero_add]at hx
 refine bB (vs:=[S q.1,S q.2]) (cs:=Af) hs hx hy (by simp[S,Value.oneCell']) hB Ao (λw' O hB'=>hK w' O (aV (h.own i hi') _ G) (h.hi i hi' _ G) G ?_)
 refine⟨λj A0=>?_,h.hi,h.ne⟩
 by_cases hji:j=i
 · subst hji;rw[bj];exact Ab w' hB'
 · rw[bm _ _ hji]
   exact aw O (λe=>h.ne i j hi' A0 (Ne.symm hji) _ G e) (h.own j A0)
end
def Ho (W:World)(A:Option Addr)(n:Nat)(H:Nat->Value):Prop:=∃g cur,A=some ⟨g,0,none⟩/\ao W g 28 cur/\n<=cur.size/\∀i,i<n->cur[i]?=some (H i)
section
variable {W':World}
def Ho.ext (k:aP W W')(h:Ho W A n H):Ho W' A n H:=by
 obtain⟨g,G,h1,h2,h3⟩:=h;exact⟨g,G,h1,h2.ext k,h3⟩
def ab8:=@Ho.ext
def Ho.put {b:Nat}(k:ez W W' b)(hb:ci A≠b)(h:Ho W A n H):Ho W' A n H:=by
 obtain⟨g,G,rfl,h2,h3⟩:=h;exact⟨g,G,rfl,ab0 k hb h2,h3⟩
def Ho.gr {row:Option Nat}(k:W.grownBy W' row)(hb:some (ci A)≠row)(h:Ho W A n H):Ho W' A n H:=by
 obtain⟨g,G,rfl,h2,h3⟩:=h;exact⟨g,G,rfl,aa3 k hb h2,h3⟩
def Ho.cell (h:Ho W A n H)(hi:i<n):A=some ⟨ci A,gH A,none⟩/\W.cell? ⟨ci A,gH A+i,none⟩=some (H i):=by
 obtain⟨g,G,rfl,h2,_,h4⟩:=h
 exact⟨rfl,h2.cell (by show G[0+i]?=_;rw[Nat.zero_add];exact h4 i hi)⟩
def Ho.rw (h:Ho W A n H)(hl:lo<=ci A):Rw W lo A ((List.range n).map H):=by
 obtain⟨g,_,rfl,h2,_,h4⟩:=h
 refine⟨λj u hu=>⟨g,0,rfl,?_⟩,λO e=>by cases e;exact hl,λO e=>by cases e;exact h2.lt⟩
 have G:j<n:=by have:=(List.getElem?_eq_some_iff.1 hu).1;simpa using this
 rw[Nat.zero_add]
 refine h2.cell ?_
 rw[h4 j G]
 rw[List.getElem?_map,List.getElem?_range G]at hu
 simpa using hu
def Ho.of_own (h:W.ownsRow lo 28 1 v n ((List.range n).map H))(hn:0<n):Ho W (sA v) n H/\lo<=ci (sA v)/\v.ownBlock=some (ci (sA v)):=by
 obtain⟨h1,⟨rfl,Ab⟩|⟨g,cap,G,rfl,A0,O,hc,hm,hs,ht⟩⟩:=h
 · omega
 · refine⟨⟨g,G,rfl,O,by omega,λi hi=>?_⟩,A0,rfl⟩
   have h2:(G.toList.take (n*1))[i]?=((List.range n).map H)[i]?:=by rw[ht]
   rw[List.getElem?_take,if_pos U,List.getElem?_map,List.getElem?_range hi]at h2
   simpa using h2
def Ho.congr (h:Ho W A n H)(hL:∀i,i<n->H i=H' i):Ho W A n H':=by
 obtain⟨g,G,h1,h2,h3,h4⟩:=h
 exact⟨g,G,h1,h2,h3,λi hi=>by rw[<-hL i hi];exact h4 i hi⟩
end
section
variable {r:Option Nat}{ds:List Deferred}{Q:Exit->Act->World->Prop}{K:Act->World->Prop}
variable {ty:Nat}{pos:String}{af:Array Edge}{g:Option (Nat×Bool)}{x y:Operand}
def kP {m:Nat}(h:Ho w A m H)(hi:i<m)(hs:(prog.info? t).map (·.size)=some 1)(hx:ev N e x=.pointer (some ⟨ci A,gH A+i,none⟩))(hy:ev N e y=v)(h1:v.oneCell'=true)(hK:∀w',ez w w' (ci A)->Ho w' A m (bX H i v)->K (act N e ds) w'):Oper.wpIn (Fw r) n prog ⟨none,.store t x y,ty,pos,af,g⟩ (act N e ds) w K Q:=by
 obtain⟨G,A0,rfl,h2,h3,h4⟩:=h
 have hx':ev N e x=.pointer (some ⟨G,i,none⟩):=by rw[hx];simp[ci,gH]
 refine b7 (cs:=A0) hs hx' hy h1 h2 U (λw' O hB=>hK w' O ⟨G,_,rfl,hB,by rw[Array.size_setIfInBounds];exact h3,λj Ab=>?_⟩)
 by_cases hji:j=i
 · subst hji;rw[bj,Array.getElem?_setIfInBounds,if_pos Z,if_pos U]
 · rw[bm _ _ hji,Array.getElem?_setIfInBounds,if_neg (Ne.symm hji)];exact h4 j Ab
end
def jQ (f:Nat->Value)(h1:v.oneCell'=true):Instr.fill (λi=>some (i*1,1)) ((Array.range 1).map f) [(0,v)]=some #[v]:=by
 have hc:v.cells=#[v]:=by cases v <;>first|rfl|(simp[Value.oneCell']at h1;done)
 have hr:(Array.range 1).map f=#[f 0]:=by apply Array.ext';simp[Array.range]
 unfold Instr.fill
 rw[hr,hc]
 simp[Instr.fill]
end
section
set_option maxRecDepth 100000
open Go Go.Eng Go.RowKit Tryz
attribute [local irreducible] wpListIn Code.wpIn Oper.wpIn Exit.then Exit.inBlock Exit.noGoto
set_option maxHeartbeats 40000000
abbrev PN:List PanicEntry:=pan 36 130
def C3 (a:R):Prop:=a.1.length<=1000000/\a.2.length<=1000000
def sX {a:R}(h:bL a=true):C3 a:=OD h
def Ri (a b:R)(w:World)(ht:Tb w):CL 312 #[.agg #[S a.1,S a.2],.agg #[S b.1,S b.2]] w (aI w λv _=>v=gT (jL a b)):=Oo a.1 a.2 b.1 b.2 w ht
def J5 (a b:R)(w:World)(ht:Tb w):CL 117 #[.agg #[S a.1,S a.2],.agg #[S b.1,S b.2]] w (aI w λv _=>v=gT (dx a b)):=EH a.1 a.2 b.1 b.2 w ht
def Rj (a b:R)(w:World)(ht:Tb w):CL 13 #[.agg #[S a.1,S a.2],.agg #[S b.1,S b.2]] w (aI w λv _=>v=gT (qr a b)):=Oj a.1 a.2 b.1 b.2 w ht
def Rl (a b:R)(w:World)(ht:Tb w):CL 15 #[.agg #[S a.1,S a.2],.agg #[S b.1,S b.2]] w (aI w λv _=>v=gT (mB a b)):=Ol a.1 a.2 b.1 b.2 w ht
def lC (a:R)(c:Int)(w:World)(h:c=0):
 CL 311 #[.agg #[S ((a).1),S ((a).2)],.int .i64 c] w (aI w λv w'=>v=.agg #[S a.1,S a.2]):=by
 refine aE func311 Z (I ?_);refine bx (λAb Ao G=>?_);have E4:=Ao.2;refine al aY (λ_ A0 Af=>?_);have⟨G,E4⟩:=bn A0.2 G E4;refine I ?_;refine SA Af (λ_ O Am=>?_);have G:=pb O G;have E4:=bh O E4;refine I ?_;refine aX (v:=.agg #[S ((a).1),S ((a).2)]) (bY  rfl ?_) E4 Z;refine ai (t:=4) (cs:=[S ((a).1),S ((a).2)]) (b:=Ab.heap.size) (o:=0) iO Z bV ?_ ?_;exact Z;exact aa0 Am (i:=0) Z
def ka (a:R)(c:Int)(w:World)(h:¬c=0):CL 311 #[.agg #[S a.1,S a.2],.int .i64 c] w (k9 PN w):=by
 refine gN func311 Z (I ?_);refine bx (λ_ G _=>?_);have E14:=G.2;refine al aY (λ_ O _=>?_);have E14:=xt E14 O.2;refine I ?_;refine aa (gZ (v:=.int .i64 130) yZ Z Z ?_);refine aa (Eh (ty':=36) (u:=.int .i64 130) Z ?_);refine I ?_;exact fj ⟨E14,rfl⟩
def kQ : eo prog 106 "yardstick/linear.zero" 134 := kG q0
def EV : eo prog 106 "yardstick/linear.one" 309 := kG q0
def yh : eo prog 106 "yardstick/linear.add" 306 := kG q0
def pH : eo prog 106 "yardstick/linear.sub" 310 := kG q0
def kb : eo prog 106 "yardstick/linear.mul" 308 := kG q0
def yi : eo prog 106 "yardstick/linear.div" 307 := kG q0
def lD (w:World):
 CL 134 #[.agg #[]] w (aI w λv w'=>v=.agg #[S z0.1,S z0.2]):=by
 refine aE func134 Z (I ?_);refine bx (λAb Af G=>?_);have E21:=Af.2;refine al aY (λ_ Am Ao=>?_);have⟨G,E21⟩:=bn Am.2 G E21;refine I ?_;refine SA Ao (λ_ O A0=>?_);have G:=pb O G;have E21:=bh O E21;refine I ?_;refine aX (v:=.agg #[S [48],S [49]]) (bY  rfl ?_) E21 Z;refine ai (t:=2) (cs:=[S [48],S [49]]) (b:=Ab.heap.size) (o:=0) iO Z bV ?_ ?_;exact Z;exact aa0 A0 (i:=0) Z
def J6 (w:World):
 CL 309 #[.agg #[]] w (aI w λv w'=>v=.agg #[S o1.1,S o1.2]):=by
 refine aE func309 Z (I ?_);refine bx (λAm A0 G=>?_);have E31:=A0.2;refine al aY (λ_ Af Ao=>?_);have⟨G,E31⟩:=bn Af.2 G E31;refine I ?_;refine SA Ao (λ_ O Ab=>?_);have G:=pb O G;have E31:=bh O E31;refine I ?_;refine aX (v:=.agg #[S [49],S [49]]) (bY  rfl ?_) E31 Z;refine ai (t:=2) (cs:=[S [49],S [49]]) (b:=Am.heap.size) (o:=0) iO Z bV ?_ ?_;exact Z;exact aa0 Ab (i:=0) Z
def GL (a b q:R)(w:World)(ht:Tb w)(hT:jL a b=some q):CL 306 #[.agg #[],.agg #[S ((a).1),S ((a).2)],.agg #[S ((b).1),S ((b).2)]] w (aI w λv w'=>v=.agg #[S q.1,S q.2]):=by
 refine aE func306 Z (I ?_);refine bx (λB2 Aq G=>?_);have E41:=Aq.2;refine bx (λB1 Av O=>?_);have⟨G,E41⟩:=bn Av.2 G E41;refine bx (λAw As A0=>?_);have⟨G,O,E41⟩:=cj As.2 G O E41;refine al aY (λB0 Ar Ab=>?_);have⟨G,O,A0,E41⟩:=eY Ar.2 G O A0 E41;refine I ?_;refine cl QJ (Ri a b _ (ht.ext E41)) ?_;rintro C1 Ax Am hv;have⟨G,O,A0,Ab,E41⟩:=kv Am.2 G O A0 Ab E41;rw[hT]at hv;subst hv;refine I ?_;refine cl rr (lC q 0 _ Z) ?_;rintro Ay Az Ap rfl;have⟨G,O,A0,Ab,E41⟩:=kv Ap.2 G O A0 Ab E41;refine SA Ab (λCB Af Ao=>?_);have⟨G,O,A0⟩:=mO Af G O A0;have E41:=bh Af E41;refine I ?_;refine aX (v:=.agg #[S ((q).1),S ((q).2)]) (bY  rfl ?_) E41 Z;refine ai (t:=6) (cs:=[S ((q).1),S ((q).2)]) (b:=Aw.heap.size) (o:=0) iO Z bV ?_ ?_;exact Z;exact aa0 Ao (i:=0) Z
def C4 (a b:R)(w:World)(ht:Tb w)(hT:jL a b=none):CL 306 #[.agg #[],.agg #[S ((a).1),S ((a).2)],.agg #[S ((b).1),S ((b).2)]] w (k9 PN w):=by
 refine gN func306 Z (I ?_);refine bx (λ_ Af _=>?_);have E63:=Af.2;refine bx (λ_ Ab G=>?_);have E63:=xt E63 Ab.2;refine bx (λ_ Am O=>?_);have⟨G,E63⟩:=bn Am.2 G E63;refine al aY (λ_ Ap _=>?_);have⟨G,O,E63⟩:=cj Ap.2 G O E63;refine I ?_;refine cl QJ (Ri a b _ (ht.ext E63)) ?_;rintro _ _ A0 hv;have E63:=xt E63 A0.2;rw[hT]at hv;subst hv;refine I ?_;refine aa (c7 (vs:=[.agg #[S [],S []],.int .i64 40]) rr Z (ka ([],[]) 40 _ dc) (λ_ Ao=>?_));have E63:=xt E63 Ao;refine I ?_;exact fj ⟨E63,rfl⟩
def J7 (a b:R)(w:World)(ht:Tb w):CL 306 #[.agg #[],.agg #[S ((a).1),S ((a).2)],.agg #[S ((b).1),S ((b).2)]] w (iv PN w (jL a b) λq v _=>v=.agg #[S q.1,S q.2]):=
 iv.of (λq h=>GL a b q w ht h) (λh=>C4 a b w ht h)
def GM (a b q:R)(w:World)(ht:Tb w)(hT:dx a b=some q):CL 310 #[.agg #[],.agg #[S ((a).1),S ((a).2)],.agg #[S ((b).1),S ((b).2)]] w (aI w λv w'=>v=.agg #[S q.1,S q.2]):=by
 refine aE func310 Z (I ?_);refine bx (λB2 Ar G=>?_);have E81:=Ar.2;refine bx (λB0 Aw O=>?_);have⟨G,E81⟩:=bn Aw.2 G E81;refine bx (λAv Ao A0=>?_);have⟨G,O,E81⟩:=cj Ao.2 G O E81;refine al aY (λAy As Ab=>?_);have⟨G,O,A0,E81⟩:=eY As.2 G O A0 E81;refine I ?_;refine cl D7 (J5 a b _ (ht.ext E81)) ?_;rintro CB Ax Am hv;have⟨G,O,A0,Ab,E81⟩:=kv Am.2 G O A0 Ab E81;rw[hT]at hv;subst hv;refine I ?_;refine cl rr (lC q 0 _ Z) ?_;rintro B1 Az Ap rfl;have⟨G,O,A0,Ab,E81⟩:=kv Ap.2 G O A0 Ab E81;refine SA Ab (λC1 Af Aq=>?_);have⟨G,O,A0⟩:=mO Af G O A0;have E81:=bh Af E81;refine I ?_;refine aX (v:=.agg #[S ((q).1),S ((q).2)]) (bY  rfl ?_) E81 Z;refine ai (t:=6) (cs:=[S ((q).1),S ((q).2)]) (b:=Av.heap.size) (o:=0) iO Z bV ?_ ?_;exact Z;exact aa0 Aq (i:=0) Z
def C5 (a b:R)(w:World)(ht:Tb w)(hT:dx a b=none):CL 310 #[.agg #[],.agg #[S ((a).1),S ((a).2)],.agg #[S ((b).1),S ((b).2)]] w (k9 PN w):=by
 refine gN func310 Z (I ?_);refine bx (λ_ Ao _=>?_);have G:=Ao.2;refine bx (λ_ Ab O=>?_);have G:=xt G Ab.2;refine bx (λ_ Ap A0=>?_);have⟨O,G⟩:=bn Ap.2 O G;refine al aY (λ_ Af _=>?_);have⟨O,A0,G⟩:=cj Af.2 O A0 G;refine I ?_;refine cl D7 (J5 a b _ (ht.ext G)) ?_;rintro _ _ Am hv;have G:=xt G Am.2;rw[hT]at hv;subst hv;refine I ?_;refine aa (c7 (vs:=[.agg #[S [],S []],.int .i64 40]) rr Z (ka ([],[]) 40 _ dc) (λ_ Aq=>?_));have G:=xt G Aq;refine I ?_;exact fj ⟨G,rfl⟩
def C6 (a b:R)(w:World)(ht:Tb w):CL 310 #[.agg #[],.agg #[S ((a).1),S ((a).2)],.agg #[S ((b).1),S ((b).2)]] w (iv PN w (dx a b) λq v _=>v=.agg #[S q.1,S q.2]):=
 iv.of (λq h=>GM a b q w ht h) (λh=>C5 a b w ht h)
def GN (a b q:R)(w:World)(ht:Tb w)(hT:qr a b=some q):CL 308 #[.agg #[],.agg #[S ((a).1),S ((a).2)],.agg #[S ((b).1),S ((b).2)]] w (aI w λv w'=>v=.agg #[S q.1,S q.2]):=by
 refine aE func308 Z (I ?_);refine bx (λAy Aq O=>?_);have G:=Aq.2;refine bx (λAz Aw A0=>?_);have⟨O,G⟩:=bn Aw.2 O G;refine bx (λAs Ao Ab=>?_);have⟨O,A0,G⟩:=cj Ao.2 O A0 G;refine al aY (λAx Av Af=>?_);have⟨O,A0,Ab,G⟩:=eY Av.2 O A0 Ab G;refine I ?_;refine cl QM (Rj a b _ (ht.ext G)) ?_;rintro B0 B2 Ar hv;have⟨O,A0,Ab,Af,G⟩:=kv Ar.2 O A0 Ab Af G;rw[hT]at hv;subst hv;refine I ?_;refine cl rr (lC q 0 _ Z) ?_;rintro B1 ny Ap rfl;have⟨O,A0,Ab,Af,G⟩:=kv Ap.2 O A0 Ab Af G;refine SA Af (λod Am nm=>?_);have⟨O,A0,Ab⟩:=mO Am O A0 Ab;have G:=bh Am G;refine I ?_;refine aX (v:=.agg #[S ((q).1),S ((q).2)]) (bY  rfl ?_) G Z;refine ai (t:=6) (cs:=[S ((q).1),S ((q).2)]) (b:=As.heap.size) (o:=0) iO Z bV ?_ ?_;exact Z;exact aa0 nm (i:=0) Z
def C7 (a b:R)(w:World)(ht:Tb w)(hT:qr a b=none):CL 308 #[.agg #[],.agg #[S ((a).1),S ((a).2)],.agg #[S ((b).1),S ((b).2)]] w (k9 PN w):=by
 refine gN func308 Z (I ?_);refine bx (λ_ Ao _=>?_);have G:=Ao.2;refine bx (λ_ Ab O=>?_);have G:=xt G Ab.2;refine bx (λ_ Ap A0=>?_);have⟨O,G⟩:=bn Ap.2 O G;refine al aY (λ_ Af _=>?_);have⟨O,A0,G⟩:=cj Af.2 O A0 G;refine I ?_;refine cl QM (Rj a b _ (ht.ext G)) ?_;rintro _ _ Am hv;have G:=xt G Am.2;rw[hT]at hv;subst hv;refine I ?_;refine aa (c7 (vs:=[.agg #[S [],S []],.int .i64 40]) rr Z (ka ([],[]) 40 _ dc) (λ_ Aq=>?_));have G:=xt G Aq;refine I ?_;exact fj ⟨G,rfl⟩
def qY (a b:R)(w:World)(ht:Tb w):CL 308 #[.agg #[],.agg #[S ((a).1),S ((a).2)],.agg #[S ((b).1),S ((b).2)]] w (iv PN w (qr a b) λq v _=>v=.agg #[S q.1,S q.2]):=
 iv.of (λq h=>GN a b q w ht h) (λh=>C7 a b w ht h)
def GO (a b q:R)(w:World)(ht:Tb w)(hT:mB a b=some q):CL 307 #[.agg #[],.agg #[S ((a).1),S ((a).2)],.agg #[S ((b).1),S ((b).2)]] w (aI w λv w'=>v=.agg #[S q.1,S q.2]):=by
 refine aE func307 Z (I ?_);refine bx (λAy Aq O=>?_);have G:=Aq.2;refine bx (λAz Aw A0=>?_);have⟨O,G⟩:=bn Aw.2 O G;refine bx (λAs Ao Ab=>?_);have⟨O,A0,G⟩:=cj Ao.2 O A0 G;refine al aY (λAx Av Af=>?_);have⟨O,A0,Ab,G⟩:=eY Av.2 O A0 Ab G;refine I ?_;refine cl QK (Rl a b _ (ht.ext G)) ?_;rintro B0 B2 Ar hv;have⟨O,A0,Ab,Af,G⟩:=kv Ar.2 O A0 Ab Af G;rw[hT]at hv;subst hv;refine I ?_;refine cl rr (lC q 0 _ Z) ?_;rintro B1 ny Ap rfl;have⟨O,A0,Ab,Af,G⟩:=kv Ap.2 O A0 Ab Af G;refine SA Af (λod Am nm=>?_);have⟨O,A0,Ab⟩:=mO Am O A0 Ab;have G:=bh Am G;refine I ?_;refine aX (v:=.agg #[S ((q).1),S ((q).2)]) (bY  rfl ?_) G Z;refine ai (t:=6) (cs:=[S ((q).1),S ((q).2)]) (b:=As.heap.size) (o:=0) iO Z bV ?_ ?_;exact Z;exact aa0 nm (i:=0) Z
def C8 (a b:R)(w:World)(ht:Tb w)(hT:mB a b=none):CL 307 #[.agg #[],.agg #[S ((a).1),S ((a).2)],.agg #[S ((b).1),S ((b).2)]] w (k9 PN w):=by
 refine gN func307 Z (I ?_);refine bx (λ_ Ao _=>?_);have G:=Ao.2;refine bx (λ_ Ab O=>?_);have G:=xt G Ab.2;refine bx (λ_ Ap A0=>?_);have⟨O,G⟩:=bn Ap.2 O G;refine al aY (λ_ Af _=>?_);have⟨O,A0,G⟩:=cj Af.2 O A0 G;refine I ?_;refine cl QK (Rl a b _ (ht.ext G)) ?_;rintro _ _ Am hv;have G:=xt G Am.2;rw[hT]at hv;subst hv;refine I ?_;refine aa (c7 (vs:=[.agg #[S [],S []],.int .i64 40]) rr Z (ka ([],[]) 40 _ dc) (λ_ Aq=>?_));have G:=xt G Aq;refine I ?_;exact fj ⟨G,rfl⟩
def J8 (a b:R)(w:World)(ht:Tb w):CL 307 #[.agg #[],.agg #[S ((a).1),S ((a).2)],.agg #[S ((b).1),S ((b).2)]] w (iv PN w (mB a b) λq v _=>v=.agg #[S q.1,S q.2]):=
 iv.of (λq h=>GO a b q w ht h) (λh=>C8 a b w ht h)
def C9 (w:World):
 CL 81 #[] w (aI w λv w'=>v=.agg #[S z0.1,S z0.2]):=by
 refine aE func81 Z (I ?_);refine al aY (λ_ Af O=>?_);have G:=Af.2;refine I ?_;refine SA O (λ_ Ab A0=>?_);have G:=bh Ab G;refine I ?_;refine aX (v:=.agg #[S [48],S [49]]) (bY  rfl ?_) G Z;refine ai (t:=0) (cs:=[S [48],S [49]]) (b:=w.heap.size) (o:=0) iO Z bV ?_ ?_;exact Z;exact aa0 A0 (i:=0) Z
def GP (w:World):
 CL 128 #[] w (aI w λv w'=>v=.agg #[S o1.1,S o1.2]):=by
 refine aE func128 Z (I ?_);refine al aY (λ_ Af O=>?_);have G:=Af.2;refine I ?_;refine SA O (λ_ Ab A0=>?_);have G:=bh Ab G;refine I ?_;refine aX (v:=.agg #[S [49],S [49]]) (bY  rfl ?_) G Z;refine ai (t:=0) (cs:=[S [49],S [49]]) (b:=w.heap.size) (o:=0) iO Z bV ?_ ?_;exact Z;exact aa0 A0 (i:=0) Z
end
section
set_option maxRecDepth 100000
open Go Go.Eng Go.RowKit Tryz
def sn {c:Code}{args:Array Value}{u:FrameMode}{R:Ending->FrameMode->World->Prop}(hf:P.funcs[f]?=some fn)(hb:fn.body=some c)(h:∀(c₀:Frame) (cs:List Frame),c₀.mode=u->
 c.wpS P (bodyPostS P fn c₀ cs R) {tmps:=args++Array.replicate (fn.ntmps-args.size) undef,defers:=[]} (c₀::cs) w):
 CallsDIn Fence.wide n P f args u w R:=by
 refine⟨trivial,λc₀ cs hu _=>?_⟩
 let b:Frame:={(default:Frame)with fn:=f,kind:=.deferred}
 have henter:Frame.enter P f args .deferred=
  b.at {tmps:=args++Array.replicate (fn.ntmps-args.size) undef,defers:=[]} [.code c]:=by
  simp[Frame.enter,Frame.at,hf,hb,b]
 obtain⟨e,_,_,w',hq,O⟩:=h c₀ cs hu b [] Z Z
 rw[<-henter]at O
 cases e with
 | normal=>
   obtain⟨hd,G,rfl,v,hr,hR⟩:=hq
   exact⟨.returned v,G,w',_,hR,comesIn_wide.2 (Steps.trans O (.one step_end)),rfl,rfl,rfl,hd,fn,hf,hr⟩
 | ret=>
   obtain⟨hd,G,rfl,v,hr,hR⟩:=hq
   obtain⟨A0,hs⟩:=O
   exact⟨.returned v,G,w',_,hR,comesIn_wide.2 hs,rfl,rfl,rfl,hd,fn,hf,hr⟩
 | panic chain=>
   obtain⟨hd,G,rfl,hR⟩:=hq
   obtain⟨A0,hs⟩:=O
   exact⟨.panicked chain,G,w',_,hR,comesIn_wide.2 hs,rfl,rfl,rfl,hd,fn,hf⟩
 |exit id=>exact hq.elim
 |goto l=>exact hq.elim
 | outgrown=>
   obtain⟨G,hR⟩:=hq
   exact⟨.outgrown,G,w',b,hR,O.resolve_left (by simp[b]),rfl,rfl,trivial⟩
section
variable {r:Option Nat}{ds:List Deferred}{Q:Exit->Act->World->Prop}{K:Act->World->Prop}
variable {ty:Nat}{pos:String}{af:Array Edge}{g:Option (Nat×Bool)}{x y:Operand}{t':TypeId}
def OH {ms:Array (String×TypeId)}(hu:P.underlying t=some (.interface ms))(hx:ev N e x=.nilIface)(hy:y=.const .nilIface)(hk:K (act N (upd e d (.bool true)) ds) w):
 Oper.wpIn (Fw r) n P ⟨some d,.binOp .eql t x y t',ty,pos,af,g⟩ (act N e ds) w K Q:=by
 subst hy
 refine dI (X:=.nilIface) (Y:=.nilIface) hx Z ?_ ?_ hk
 · unfold eqGuard;simp
 · have:(Op.equal t .nilIface .nilIface).run P w=.ok true w:=by
    unfold Op.equal Op.maxDepth
    show(Op.equalIn (9999+1) t _ _).run _ _=_
    unfold Op.equalIn
    simp[run_underlying hu]
   simp[binOp,this]
def OI {ms:Array (String×TypeId)}(hu:P.underlying t=some (.interface ms))(hx:ev N e x=.iface ty' u)(hy:y=.const .nilIface)(hk:K (act N (upd e d (.bool false)) ds) w):
 Oper.wpIn (Fw r) n P ⟨some d,.binOp .eql t x y t',ty,pos,af,g⟩ (act N e ds) w K Q:=by
 subst hy
 refine dI (X:=.iface ty' u) (Y:=.nilIface) hx Z ?_ ?_ hk
 · unfold eqGuard;simp
 · have:(Op.equal t (.iface ty' u) .nilIface).run P w=.ok false w:=by
    unfold Op.equal Op.maxDepth
    show(Op.equalIn (9999+1) t _ _).run _ _=_
    unfold Op.equalIn
    simp[run_underlying hu]
   simp[binOp,this]
def GQ {a:TypeId}{D:TypeDesc}(hu:P.underlying a=some D)(hd:zv D=true)(hx:ev N e x=.iface a u)(hk:K (act N (upd e d (.tuple #[u,.bool true])) ds) w):
 Oper.wpIn (Fw r) n P ⟨some d,.typeAssert x t a true,ty,pos,af,g⟩ (act N e ds) w K Q:=by
 refine cJ (v:=.tuple #[u,.bool true]) (w':=w) Z ?_ KK
 have:(Instr.typeAssert (.iface a u) t a true).run P w=.ok (.tuple #[u,.bool true]) w:=by
  unfold Instr.typeAssert
  cases D <;>first|(cases hd;done)|simp[run_underlying hu]
 simp[execOp,hx,this]
def pI {xs:Array Operand}(hv:xs.toList.map (ev N e)=vs)(hk:K (act N e ({target:=.fn (.func f) #[],args:=vs.toArray}::ds)) w):
 Oper.wpIn (Fw none) n P ⟨none,.defer {callee:=.value (.func f),args:=xs,argTypes:=ats},ty,pos,af,g⟩ (act N e ds) w K Q:=by
 subst hv
 refine⟨λf _=>ky none f,?_⟩
 rw[tl,Oper.semAt_none,cR]
 have:(execOp (ev N e) (⟨none,.defer {callee:=.value (.func f),args:=xs,argTypes:=ats},ty,pos,af,g⟩:Oper)).run P w=.ok (.defer {target:=.fn (.func f) #[],args:=(xs.toList.map (ev N e)).toArray}) w:=by
  rw[show(xs.toList.map (ev N e)).toArray=xs.map (ev N e)by rw[<-Array.toList_map,Array.toArray_toList]]
  simp[execOp,resolve,Deferred.ofValue,ev]
 rw[this]
 exact hk
end
abbrev cell1 (c:Int):Array Value:=#[.int .i64 c]
section
variable {id ty:Nat}{pos:String}{af:Array Edge}{cs cs':List Frame}{Q:Exit->Act->List Frame->World->Prop}
def GR (hr:recoverD cs=some (v,cs'))(h:Q .normal (act N (upd e d v) []) cs' w):
 (Code.region id #[⟨some d,.call {callee:=.builtin .recover,args:=#[],argTypes:=ats},ty,pos,af,none⟩] false).wpS P Q (act N e []) cs w:=by
 refine wpS_region ?_
 show wpOpsS P _ Q [0] _ _ _
 have hx:(execOp (act N e []).eval ⟨some d,.call {callee:=.builtin .recover,args:=#[],argTypes:=ats},ty,pos,af,none⟩).run P w=.ok .recover w:=by
  simp[execOp,resolve,invoke,builtin]
 simp only[wpOpsS,List.getElem?_toArray,List.getElem?_cons_zero,Region.wanted,if_true,hx,hr]
 rw[ax]
 exact h
def Da (hr:recoverD cs=none)(h:Q .normal (act N (upd e d .nilIface) []) cs w):
 (Code.region id #[⟨some d,.call {callee:=.builtin .recover,args:=#[],argTypes:=ats},ty,pos,af,none⟩] false).wpS P Q (act N e []) cs w:=by
 refine wpS_region ?_
 show wpOpsS P _ Q [0] _ _ _
 have hx:(execOp (act N e []).eval ⟨some d,.call {callee:=.builtin .recover,args:=#[],argTypes:=ats},ty,pos,af,none⟩).run P w=.ok .recover w:=by
  simp[execOp,resolve,invoke,builtin]
 simp only[wpOpsS,List.getElem?_toArray,List.getElem?_cons_zero,Region.wanted,if_true,hx,hr]
 rw[ax]
 exact h
end
def J9 {c:Code}{u:FrameMode}{R:Ending->FrameMode->World->Prop}(hf:P.funcs[f]?=some fn)(hb:fn.body=some c)(h:∀(c₀:Frame) (cs:List Frame),c₀.mode=u->c.wpS P (bodyPostS P fn c₀ cs R) (act (args.length+(fn.ntmps-args.length)) (H5 args) []) (c₀::cs) w):CallsDIn Fence.wide n P f args.toArray u w R:=by
 refine sn hf hb (λc₀ cs hu=>?_)
 rw[jy]
 exact h c₀ cs hu
def Db {b:Nat}(hB:ao w b 36 (cell1 c0)):
 CallsDIn Fence.wide n prog 113 #[pT b] (.panicking [{v:=.iface 36 (.int .i64 c),recovered:=false}]) w
  (λe u' w'=>(∃v,e=.returned v)/\u'=.panicking [{v:=.iface 36 (.int .i64 c),recovered:=true}]/\ez w w' b/\ao w' b 36 (cell1 c)):=by
 refine J9 (args:=[pT b]) func113 Z (λc₀ cs hu=>?_)
 refine wpS_seq (GR (v:=.iface 36 (.int .i64 c)) (cs':={c₀ with mode:=.panicking [{v:=.iface 36 (.int .i64 c),recovered:=true}]}::cs) DM ?_)
 refine wpS_of_wp (wpIn_wide (n:=0).1 ?_)
 refine oS (r:=none) ?_
 refine gU (r:=none) ?_
 refine gl (r:=none) ?_
 refine aa (r:=none) (OI underlying20 Z Z ?_)
 refine eR ?_
 refine em ?_
 refine fM (r:=none) Z ?_
 refine gU (r:=none) ?_
 refine gl (r:=none) ?_
 refine aa (r:=none) (GQ underlying36 Z Z ?_)
 refine aa (r:=none) (bT Z Z ?_)
 refine aa (r:=none) (bT Z Z ?_)
 refine eR ?_
 refine em ?_
 refine k7 (r:=none) Z ?_
 refine gU (r:=none) ?_
 refine gl (r:=none) ?_
 refine aa (r:=none) (aL (v:=.int .i64 c) Z ?_)
 refine eR ?_
 refine em ?_
 refine gl (r:=none) ?_
 refine aa (r:=none) (aT (v:=pT b) Z ?_)
 refine aa (r:=none) (aT (v:=.int .i64 c) Z ?_)
 refine aa (r:=none) (tE (b:=b) (o:=0) Z ?_)
 refine aa (r:=none) (b7 (b:=b) (o:=0) (v:=.int .i64 c) Nj Z Z Z hB JT (λw' G hb=>?_))
 refine eR ?_
 refine H1 ?_
 exact⟨rfl,_,rfl,_,mg Z,⟨_,rfl⟩,rfl,G,hb⟩
def Dc {b:Nat}:
 CallsDIn Fence.wide n prog 113 #[pT b] .returning w (λe u' w'=>(∃v,e=.returned v)/\u'=.returning/\w'=w):=by
 refine J9 (args:=[pT b]) func113 Z (λ_ _ hu=>?_)
 refine wpS_seq (Da DM ?_)
 refine wpS_of_wp (wpIn_wide (n:=0).1 ?_)
 refine oS (r:=none) ?_
 refine gU (r:=none) ?_
 refine gl (r:=none) ?_
 refine aa (r:=none) (OH underlying20 Z Z ?_)
 refine eR ?_
 refine em ?_
 refine k7 (r:=none) Z ?_
 refine gl (r:=none) ?_
 refine aa (r:=none) (aL (v:=.nilIface) Z ?_)
 refine eR ?_
 refine H1 ?_
 exact⟨rfl,.returning,by rw[<-hu],_,mg Z,⟨_,rfl⟩,rfl,rfl⟩
abbrev dF (b:Nat):Deferred:={target:=.fn (.func 113) #[],args:=[Value.pointer (some ⟨b,0,none⟩)].toArray}
def kR {c:Code}{R:Ending->World->Prop}(hf:P.funcs[f]?=some fn)(hb:fn.body=some c)(h:c.wpIn (Fw none) 0 P (bodyPostDIn Fence.wide 0 P fn R) (act (args.length+(fn.ntmps-args.length)) (H5 args) []) w):Calls P f args.toArray w R:=by
 refine callsIn_wide.1 (callsIn_of_wp_defers (n:=0) hf hb trivial ?_)
 rw[jy]
 exact h
section
variable {b:Nat}{R:Value->World->Prop}
def EX (hx:aP w w')(hr:(results fn (act N e [dF b]).tmps).run prog w'=.ok v w')(hR:R v w'):bodyPostDIn Fence.wide 0 prog fn (aI w R) .ret (act N e [dF b]) w':=by
 refine leavesIn_cons (f:=113) (args:=#[pT b]) JT kd0 ?_ (λ_ _=>trivial) ?_
 · have h:=VZ #[pT b] w'
   simpa[invoke]using h
 · refine CallsDIn.mono Dc ?_
   rintro _ _ _ ⟨⟨v',rfl⟩,rfl,rfl⟩
   exact⟨v,hr,hx,hR⟩
def EY (hx:aP w w')(hb:w.heap.size<=b)(hB:ao w' b 36 (cell1 c0))(hr:∀w'',ez w' w'' b->ao w'' b 36 (cell1 c)->(results fn (act N e [dF b]).tmps).run prog w''=.ok v w''/\R v w''):
 bodyPostDIn Fence.wide 0 prog fn (aI w R) (.panic (pan 36 c)) (act N e [dF b]) w':=by
 refine leavesIn_cons (f:=113) (args:=#[pT b]) JT kd0 ?_ (λ_ _=>trivial) ?_
 · have h:=VZ #[pT b] w'
   simpa[invoke]using h
 · refine CallsDIn.mono (Db hB) ?_
   rintro _ _ w'' ⟨⟨v',rfl⟩,rfl,G,hB'⟩
   obtain⟨h1,h2⟩:=hr w'' G hB'
   exact⟨v,h1,ad4 G hx hb,h2⟩
end
section
variable {r:Option Nat}{ds:List Deferred}{Q:Exit->Act->World->Prop}{K:Act->World->Prop}
variable {ty:Nat}{pos:String}{af:Array Edge}{g:Option (Nat×Bool)}{x y:Operand}{t':TypeId}
def g7 (hx:ev N e x=.func (.func f) #[] lb.toArray)(hk:K (act N e ({target:=.fn (.func f) lb.toArray,args:=#[]}::ds)) w):
 Oper.wpIn (Fw none) n P ⟨none,.defer {callee:=.value x,args:=#[],argTypes:=ats},ty,pos,af,g⟩ (act N e ds) w K Q:=by
 refine⟨λf _=>ky none f,?_⟩
 rw[tl,Oper.semAt_none,cR]
 have:(execOp (ev N e) (⟨none,.defer {callee:=.value x,args:=#[],argTypes:=ats},ty,pos,af,g⟩:Oper)).run P w=.ok (.defer {target:=.fn (.func f) lb.toArray,args:=#[]}) w:=by
  simp[execOp,resolve,Deferred.ofValue,hx]
 rw[this]
 exact hk
end
section
variable {id ty:Nat}{pos:String}{af:Array Edge}{cs:List Frame}{Q:Exit->Act->List Frame->World->Prop}{ops:Array Oper}{rest:List Nat}{op:Op}{dst:Option Tmp}
def T5 (hn:List.range ops.size=0::rest)(h0:ops[0]?=some ⟨some d,.call {callee:=.builtin .recover,args:=#[],argTypes:=ats},ty,pos,af,none⟩)(hr:recoverD cs=none)(h:wpOpsS P ops Q rest (act N (upd e d .nilIface) []) cs w):
 (Code.region id ops false).wpS P Q (act N e []) cs w:=by
 refine wpS_region ?_
 rw[hn]
 have hx:(execOp (act N e []).eval ⟨some d,.call {callee:=.builtin .recover,args:=#[],argTypes:=ats},ty,pos,af,none⟩).run P w=.ok .recover w:=by
  simp[execOp,resolve,invoke,builtin]
 simp only[wpOpsS,h0,Region.wanted,if_true,hx,hr]
 rw[ax]
 exact h
def jk (h0:ops[i]?=some ⟨some d,op,ty,pos,af,none⟩)(hx:(execOp (ev N e) (⟨some d,op,ty,pos,af,none⟩:Oper)).run P w=.ok (.value v) w)(h:wpOpsS P ops Q rest (act N (upd e d v) []) cs w):
 wpOpsS P ops Q (i::rest) (act N e []) cs w:=by
 have hx':(execOp (act N e []).eval (⟨some d,op,ty,pos,af,none⟩:Oper)).run P w=.ok (.value v) w:=by rw[cR];exact hx
 simp only[wpOpsS,h0,Region.wanted,if_true,hx']
 show wpOpsS P ops Q rest ((act N e []).put (some d) v) cs w
 rw[ax]
 exact h
def Ka (h:Q .normal (act N e []) cs w):wpOpsS P ops Q [] (act N e []) cs w:=h
end
def ot {id ty:Nat}{pos:String}{af:Array Edge}{cs:List Frame}{Q:Exit->Act->List Frame->World->Prop}{d1 ty1 d2 ty2 d3 ty3 d4 ty4 d5 ty5 d6 ty6:Nat}{pos1 pos2 pos3 pos4 pos5 pos6:String}{af1 af2 af3 af4 af5 af6:Array Edge}{op1 op2 op3 op4 op5 op6:Op}(hr:recoverD cs=none)(h1:(execOp (ev N (upd e d .nilIface)) (⟨some d1,op1,ty1,pos1,af1,none⟩:Oper)).run P w=.ok (.value v1) w)(h2:(execOp (ev N (upd (upd e d .nilIface) d1 v1)) (⟨some d2,op2,ty2,pos2,af2,none⟩:Oper)).run P w=.ok (.value v2) w)(h3:(execOp (ev N (upd (upd (upd e d .nilIface) d1 v1) d2 v2)) (⟨some d3,op3,ty3,pos3,af3,none⟩:Oper)).run P w=.ok (.value v3) w)(h4:(execOp (ev N (upd (upd (upd (upd e d .nilIface) d1 v1) d2 v2) d3 v3)) (⟨some d4,op4,ty4,pos4,af4,none⟩:Oper)).run P w=.ok (.value v4) w)(h5:(execOp (ev N (upd (upd (upd (upd (upd e d .nilIface) d1 v1) d2 v2) d3 v3) d4 v4)) (⟨some d5,op5,ty5,pos5,af5,none⟩:Oper)).run P w=.ok (.value v5) w)(h6:(execOp (ev N (upd (upd (upd (upd (upd (upd e d .nilIface) d1 v1) d2 v2) d3 v3) d4 v4) d5 v5)) (⟨some d6,op6,ty6,pos6,af6,none⟩:Oper)).run P w=.ok (.value v6) w)(h:Q .normal (act N (upd (upd (upd (upd (upd (upd (upd e d .nilIface) d1 v1) d2 v2) d3 v3) d4 v4) d5 v5) d6 v6) []) cs w):
 (Code.region id #[⟨some d,.call {callee:=.builtin .recover,args:=#[],argTypes:=ats},ty,pos,af,none⟩,⟨some d1,op1,ty1,pos1,af1,none⟩,⟨some d2,op2,ty2,pos2,af2,none⟩,⟨some d3,op3,ty3,pos3,af3,none⟩,⟨some d4,op4,ty4,pos4,af4,none⟩,⟨some d5,op5,ty5,pos5,af5,none⟩,⟨some d6,op6,ty6,pos6,af6,none⟩] false).wpS P Q (act N e []) cs w:=
 T5 (rest:=[1,2,3,4,5,6]) Z Z hr (jk Z h1 (jk Z h2 (jk Z h3 (jk Z h4 (jk Z h5 (jk Z h6 (Ka h)))))))
def Kb :
 CallsDIn Fence.wide n prog 248 #[pT b1,pT b2] .returning w (λe u' w'=>(∃v,e=.returned v)/\u'=.returning/\w'=w):=by
 refine J9 (args:=[pT b1,pT b2]) func248 Z (λ_ _ hu=>?_)
 refine wpS_seq ?_
 refine ot (v1:=.tuple #[.nilIface,.bool false]) (v2:=.tuple #[.nilIface,.bool false]) (v3:=.nilIface) (v4:=.bool false) (v5:=.nilIface) (v6:=.bool false) DM ?_ ?_ ?_ ?_ ?_ ?_ ?_
 · have h:(Instr.typeAssert .nilIface 20 96 true).run prog w=.ok (.tuple #[.nilIface,.bool false]) w:=by
    unfold Instr.typeAssert
    simp[run_underlying underlying96]
   simp only[execOp]
   exact qb2 (λr=>Result.andThen r λa w'=>Result.ok (Next.value a) w') h
 · rfl
 · rfl
 · rfl
 · rfl
 · rfl
 refine wpS_of_wp (wpIn_wide (n:=0).1 ?_)
 refine gU (r:=none) ?_
 refine gl (r:=none) ?_
 refine aa (r:=none) (aT (v:=.bool false) Z ?_)
 refine aa (r:=none) (aT (v:=.bool false) Z ?_)
 with_reducible refine fp (r:=none) (d:=12) (s:=11) ?_ ?_ ?_
 exact Z
 exact Z
 with_reducible refine fp (r:=none) (d:=13) (s:=11) ?_ ?_ ?_
 exact Z
 exact Z
 with_reducible refine fp (r:=none) (d:=14) (s:=11) ?_ ?_ ?_
 exact Z
 exact Z
 refine aa (r:=none) (jd (t:=false) (v:=.bool false) Z Z ?_)
 refine eR ?_
 refine em ?_
 refine fM (r:=none) Z ?_
 refine jD (r:=none) ?_
 exact⟨rfl,.returning,by rw[<-hu],_,mg Z,⟨_,rfl⟩,rfl,rfl⟩
def Kc :
 CallsDIn Fence.wide n prog 253 #[pT b1,pT b2] .returning w (λe u' w'=>(∃v,e=.returned v)/\u'=.returning/\w'=w):=by
 refine J9 (args:=[pT b1,pT b2]) func253 Z (λ_ _ hu=>?_)
 refine wpS_seq ?_
 refine ot (v1:=.tuple #[.nilIface,.bool false]) (v2:=.tuple #[.nilIface,.bool false]) (v3:=.nilIface) (v4:=.bool false) (v5:=.nilIface) (v6:=.bool false) DM ?_ ?_ ?_ ?_ ?_ ?_ ?_
 · have h:(Instr.typeAssert .nilIface 20 96 true).run prog w=.ok (.tuple #[.nilIface,.bool false]) w:=by
    unfold Instr.typeAssert
    simp[run_underlying underlying96]
   simp only[execOp]
   exact qb2 (λr=>Result.andThen r λa w'=>Result.ok (Next.value a) w') h
 · rfl
 · rfl
 · rfl
 · rfl
 · rfl
 refine wpS_of_wp (wpIn_wide (n:=0).1 ?_)
 refine gU (r:=none) ?_
 refine gl (r:=none) ?_
 refine aa (r:=none) (aT (v:=.bool false) Z ?_)
 refine aa (r:=none) (aT (v:=.bool false) Z ?_)
 with_reducible refine fp (r:=none) (d:=12) (s:=11) ?_ ?_ ?_
 exact Z
 exact Z
 with_reducible refine fp (r:=none) (d:=13) (s:=11) ?_ ?_ ?_
 exact Z
 exact Z
 with_reducible refine fp (r:=none) (d:=14) (s:=11) ?_ ?_ ?_
 exact Z
 exact Z
 refine aa (r:=none) (jd (t:=false) (v:=.bool false) Z Z ?_)
 refine eR ?_
 refine em ?_
 refine fM (r:=none) Z ?_
 refine jD (r:=none) ?_
 exact⟨rfl,.returning,by rw[<-hu],_,mg Z,⟨_,rfl⟩,rfl,rfl⟩
abbrev dV (g b1 b2:Nat):Deferred:={target:=.fn (.func g) [Value.pointer (some ⟨b1,0,none⟩),Value.pointer (some ⟨b2,0,none⟩)].toArray,args:=#[]}
def Xk (g b1 b2:Nat):Prop:=∀(n:Nat) (w:World),CallsDIn Fence.wide n prog g #[pT b1,pT b2] .returning w (λe u' w'=>(∃v,e=.returned v)/\u'=.returning/\w'=w)
def ou {R:Value->World->Prop}(hg:Enters prog g)(hc:Xk g b1 b2)(hx:aP w w')(hr:(results fn (act N e [dV g b1 b2]).tmps).run prog w'=.ok v w')(hR:R v w'):
 bodyPostDIn Fence.wide 0 prog fn (aI w R) .ret (act N e [dV g b1 b2]) w':=by
 refine leavesIn_cons (f:=g) (args:=#[pT b1,pT b2]) JT kd0 ?_ (λ_ _=>trivial) ?_
 · have h:=hg #[pT b1,pT b2] w'
   simpa[invoke]using h
 · refine CallsDIn.mono (hc _ _) ?_
   rintro _ _ _ ⟨⟨v',rfl⟩,rfl,rfl⟩
   exact⟨v,hr,hx,hR⟩
end
end Go.Proofs.YtlmihmlnpjkblaaGreatDoor
