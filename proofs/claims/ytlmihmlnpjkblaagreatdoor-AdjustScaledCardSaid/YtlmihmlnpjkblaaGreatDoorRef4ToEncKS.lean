/- Part of the proof of a statement about an adjustment. -/
import Derived.Test.YtlmihmlnpjkblaaGreatDoorRat3ToRef3S
set_option linter.all false
namespace Go.Proofs.YtlmihmlnpjkblaaGreatDoor
variable {ats:Array TypeId}{ng q:Bool}{fn:Func}{f:FuncId}{c c0:Int}{l b:List UInt8}{cs args vs lb:List Value}{p lo n a k n1 c1 lo1 d x0 i j sz lo' base hi' N b1 b2 g:Nat}{H H' e:Nat->Value}{A A1 A2:Option Addr}{P:Program}{t et ty':TypeId}{u v v' v1 v2 v3 v4 v5 v6:Value}{w W w':World}
section
set_option maxRecDepth 100000
open Go Go.Eng Go.RowKit Tryz
attribute [local irreducible] wpListIn Code.wpIn Oper.wpIn Exit.then Exit.inBlock Exit.noGoto
set_option maxHeartbeats 40000000
def cL {p:Prop}(h:p:=by assumption):p:=h
def jm {c:Nat}(h:Dg w lo A n c a)(hl:a<10^k):n<=k:=by rw[<-h.len];exact(bf 10 U a k).2 hl
def l8 (h:isInt l=true):aG (body l)<10^200:=sJ (ez h)
def OM {a:List UInt8}(h:isInt a=false):(isInt a&&isInt b)=false:=by rw[h];rfl
def ON {a:List UInt8}(h:isInt b=false):(isInt a&&isInt b)=false:=by rw[h];simp
def ip {a:List UInt8}(ha:isInt a=true)(hb:isInt b=true):(isInt a&&isInt b)=true:=by rw[ha,hb];rfl
def wS :fits (bT ng a)=wi a:=by
 unfold wi
 by_cases h:a=0
 · subst h;cases ng <;>decide +kernel
 · rw[pq ng U,decide_eq_false h,Bool.false_or]
   unfold bw;rw[if_neg h,cN]
def qV :ae (bT ng a)=sj ng a:=by
 unfold sj
 by_cases h:a=0
 · subst h;cases ng <;>rfl
 · rw[qP ng U,if_neg h]
def Ru (h:wi a=false):Value.tuple #[S [],.int .i64 30]=iF (bg (bT ng a)):=by
 unfold bg;rw[wS,h];rfl
def Rv (h:wi a=true):Value.tuple #[S (sj ng a),.int .i64 0]=iF (bg (bT ng a)):=by
 unfold bg;rw[wS,h,qV];rfl
def T7 (h:Rw w lo A [Value.int .i64 1]):Dg w lo A 1 1 1:=by
 have e:au 10 1=[1]:=by decide
 exact⟨by rw[e];exact h,by rw[e];rfl,qa0 _⟩
def yt {r:Nat}(h:r<10^200):sj false r=rS (bg (bT false r)):=by
 have hf:fits (bT false r)=true:=by unfold fits;rw[jQ];exact qa1 h
 rw[px hf,qV]
def Xn {b:Nat}(ha:a<10^200)(hb:b<10^200):a+b<10^201:=by
 have:(10:Nat)^201=10^200*10:=by rw[<-Nat.pow_succ]
 generalize (10:Nat)^200=M at *
 omega
def JV {a:List UInt8}(h:(isInt a&&isInt b)=true)(he:(neg a==neg b)=true)(ha:neg a=true):aQ ((aG (body b):Nat):Int) ((aG (body a):Nat):Int)=dT a b:=
 ul h ha (by have:neg a=neg b:=by simpa using he
             rw[<-this];exact ha)
def JW {a:List UInt8}(h:(isInt a&&isInt b)=true)(he:(neg a==neg b)=true)(ha:neg a=false):aQ ((aG (body a):Nat):Int) ((aG (body b):Nat):Int)=dT a b:=
 uo h ha (by have:neg a=neg b:=by simpa using he
             rw[<-this];exact ha)
def JX {a:List UInt8}(h:(isInt a&&isInt b)=true)(he:(neg a==neg b)=false)(ha:neg a=true):(-1:Int)=dT a b:=
 um h ha (by rw[ha]at he;simpa using he)
def JY {a:List UInt8}(h:(isInt a&&isInt b)=true)(he:(neg a==neg b)=false)(ha:neg a=false):(1:Int)=dT a b:=
 un h ha (by rw[ha]at he;simpa using he)
def AF (ng:Bool)(x:Nat):Int.tmod (bT ng x) 10=bT ng (x%10):=by
 cases ng
 · show Int.tmod (x:Int) 10=((x%10:Nat):Int)
   rw[Int.tmod_eq_emod_of_nonneg U];omega
 · show Int.tmod (-(x:Int)) 10=-((x%10:Nat):Int)
   rw[Int.neg_tmod,Int.tmod_eq_emod_of_nonneg U];omega
def AG (ng:Bool)(x:Nat):Int.tdiv (bT ng x) 10=bT ng (x/10):=by
 cases ng
 · show Int.tdiv (x:Int) 10=((x/10:Nat):Int)
   rw[Int.tdiv_eq_ediv_of_nonneg U];omega
 · show Int.tdiv (-(x:Int)) 10=-((x/10:Nat):Int)
   rw[Int.neg_tdiv,Int.tdiv_eq_ediv_of_nonneg U];omega
def T8 {a:List UInt8}(h:b=[48]):du a b=none:=mP (by subst h;exact qL)
def OO (h:isInt b=true)(h0:¬b=[48]):0<aG (body b):=by
 rcases Nat.eq_zero_or_pos (aG (body b))with h1|h1
 · exact absurd ((gi h).1 (by have:=WD b;omega)) h0
 · exact h1
def jV (h1:Dg w lo1 A1 n1 c1 a)(s1:n1<=100000)(ng:Bool):
 CL 181 #[.bool ng,.slice A1 n1 c1] w (aH w λv w'=>v=iF (bg (bT ng a))):=by
 refine aD func181 Z (I ?_);refine clb Iq (hc:=kT h1 U ng) (hk:=?_);rintro _ _ G rfl;have E:=G.2;refine I ?_;rcases qa4 (wi a)with cf|cf;refine I ?_;exact bA (t:=4) (u:=5) (v1:=S (sj ng a)) (v2:=.int .i64 0) Z E (by first|exact Ru cL|exact Rv cL) Z Z;refine I ?_;exact bA (t:=4) (u:=5) (v1:=S []) (v2:=.int .i64 30) Z E (by first|exact Ru cL|exact Rv cL) Z Z
def JZ (h1:Dg w lo1 A1 n1 c1 a)(s1:n1<=50000){n2 c2 b lo2:Nat}(h2:Dg w lo2 A2 n2 c2 b)(s2:n2<=50000)(nx ny:Bool):
 CL 179 #[.bool nx,.slice A1 n1 c1,.bool ny,.slice A2 n2 c2] w (aH w λv w'=>v=iF (bg (bT nx a+bT ny b))):=by
 have e1:=h1.len;have e2:=h2.len;refine aD func179 Z (I ?_);refine aa (Ie (a:=nx) (b:=ny) (q:=(nx==ny)) U4 Z Z Z ?_);refine I ?_;rcases qa4 (nx==ny)with p6|p6;refine I ?_;refine clb QR (hc:=wR h1 U h2 U) (hk:=?_);rintro _ _ Av ⟨B1,Ap,B0,rfl,A0⟩;have wr:=Av.2;have A0:=A0.mono (lo':=w.heap.size) U;have Am:Ap<=50001:=by rw[<-A0.len];exact EL U _ _ 50000 U U
 refine I ?_;refine clb Cb (hc:=jV A0 U nx) (hk:=?_);rintro _ _ Aw rfl;have wr:=xt wr Aw.2;refine I ?_;exact bA (t:=8) (u:=9) (v1:=S (rS (bg (bT nx (a+b))))) (v2:=.int .i64 (rE (bg (bT nx (a+b))))) Z wr (qb2 (λx=>iF (bg x)) kb2) Z Z;refine I ?_;refine clb zy (hc:=jS h1 U h2 U) (hk:=?_);rintro _ _ Af rfl;have h1:=ac9 Af.2 h1;have h2:=ac9 Af.2 h2;have E:=Af.2;refine I ?_;by_cases mq:0<=(aQ (a:Int) (b:Int));have G:=EN mq;refine I ?_;refine clb Ei (hc:=lG h1 U h2 U G) (hk:=?_);rintro _ _ Ao ⟨B2,Ax,Ay,rfl,O⟩;have E:=xt E Ao.2;have O:=O.mono (lo':=w.heap.size) U;have Am:Ax<=50001:=by rw[<-O.len];exact qa8 (ey U (Nat.sub_le _ _)) U
 refine I ?_;refine clb Cb (hc:=jV O U nx) (hk:=?_);rintro _ _ Aq rfl;have E:=xt E Aq.2;refine I ?_;exact bA (t:=8) (u:=9) (v1:=S (rS (bg (bT nx (a-b))))) (v2:=.int .i64 (rE (bg (bT nx (a-b))))) Z E (qb2 (λx=>iF (bg x)) kb2) Z Z;have G:=Ad mq;refine I ?_;refine clb Ei (hc:=lG h2 U h1 U G) (hk:=?_);rintro _ _ As ⟨Az,od,C0,rfl,Ab⟩;have E:=xt E As.2;have Ab:=Ab.mono (lo':=w.heap.size) U;have Am:od<=50001:=by rw[<-Ab.len];exact qa8 (ey U (Nat.sub_le _ _)) U
 refine I ?_;refine clb Cb (hc:=jV Ab U ny) (hk:=?_);rintro _ _ Ar rfl;have E:=xt E Ar.2;refine I ?_;exact bA (t:=8) (u:=9) (v1:=S (rS (bg (bT ny (b-a))))) (v2:=.int .i64 (rE (bg (bT ny (b-a))))) Z E (qb2 (λx=>iF (bg x)) kb2) Z Z
def AH (a b:List UInt8)(w:World)(sa:a.length<=1000000)(sb:b.length<=1000000):
 CL 137 #[S a,S b] w (aH w λv w'=>v=iF (aV a b)):=by
 refine aD func137 Z (I ?_);rcases qa4 (isInt a)with cf|cf;refine I ?_;refine clb nH (hc:=cI a _ U) (hk:=?_);rintro _ _ Ap rfl;have E:=Ap.2;refine I ?_;refine clb nH (hc:=cI b _ U) (hk:=?_);rintro _ _ Am rfl;have E:=xt E Am.2;refine I ?_;rcases qa4 (isInt b)with fx|fx;refine I ?_;refine cl zv (eM _ _ cf) ?_;rintro _ _ wr ⟨Aw,As,Ay,rfl,G⟩;have E:=xt E wr.2;have G:=G.mono (lo':=w.heap.size) U;have Av:=jm G (l8 cf);refine I ?_;refine cl zv (eM _ _ fx) ?_;rintro _ _ A0 ⟨Ar,od,Aq,rfl,O⟩;have G:=ac9 A0.2 G;have E:=xt E A0.2;have O:=O.mono (lo':=w.heap.size) U;have Ax:=jm O (l8 fx);refine I ?_;refine clb Wb (hc:=JZ G U O U (neg a) (!(neg b))) (hk:=?_);rintro _ _ Ao rfl;have E:=xt E Ao.2;refine I ?_;exact bA (t:=4) (u:=5) (v1:=S (rS (bg (bT (neg a) (aG (body a))+bT (!(neg b)) (aG (body b)))))) (v2:=.int .i64 (rE (bg (bT (neg a) (aG (body a))+bT (!(neg b)) (aG (body b)))))) Z E (by rw[pt (ip cf fx),ET];rfl) Z Z;refine I ?_;exact bA (t:=4) (u:=5) (v1:=S []) (v2:=.int .i64 30) Z E (by rw[yc (ON fx)];rfl) Z Z;refine I ?_;refine clb nH (hc:=cI a _ U) (hk:=?_)
 rintro _ _ Af rfl;have Ab:=Af.2;refine I ?_;exact bA (t:=4) (u:=5) (v1:=S []) (v2:=.int .i64 30) Z Ab (by rw[yc (OM cf)];rfl) Z Z
def J0 (a b:List UInt8)(w:World)(sa:a.length<=1000000)(sb:b.length<=1000000):
 CL 136 #[S a,S b] w (aH w λv w'=>v=.int .i64 (dT a b)):=by
 refine aD func136 Z (I ?_);rcases qa4 (isInt a)with cf|cf;refine I ?_;refine clb nH (hc:=cI a _ U) (hk:=?_);rintro _ _ Ab rfl;have E:=Ab.2;refine I ?_;refine clb nH (hc:=cI b _ U) (hk:=?_);rintro _ _ Aq rfl;have E:=xt E Aq.2;refine I ?_;rcases qa4 (isInt b)with fx|fx;refine I ?_;refine cl zv (eM _ _ cf) ?_;rintro _ _ Af ⟨Ax,Aw,Az,rfl,G⟩;have E:=xt E Af.2;have G:=G.mono (lo':=w.heap.size) U;have Ay:=jm G (l8 cf);refine I ?_;refine cl zv (eM _ _ fx) ?_;rintro _ _ A0 ⟨As,od,Ar,rfl,O⟩;have G:=ac9 A0.2 G;have E:=xt E A0.2;have O:=O.mono (lo':=w.heap.size) U;have Av:=jm O (l8 fx);refine I ?_;refine aa (mw (a:=neg a) (b:=neg b) (q:=(!((neg a)==(neg b)))) U4 Z Z Z ?_);refine I ?_;rcases qa4 ((neg a)==(neg b))with p6|p6;refine I ?_;rcases qa4 (neg a)with r8|r8;refine I ?_;refine clb zy (hc:=jS O U G U) (hk:=?_);rintro _ _ Ap rfl;have E:=xt E Ap.2;refine I ?_;exact am (t:=4) (v:=.int .i64 (aQ ((aG (body b):Nat):Int) ((aG (body a):Nat):Int))) Z E (qb2 (Value.int .i64) (JV (ip cf fx) p6 r8)) Z;refine I ?_;refine clb zy (hc:=jS G U O U) (hk:=?_)
 rintro _ _ wr rfl;have E:=xt E wr.2;refine I ?_;exact am (t:=4) (v:=.int .i64 (aQ ((aG (body a):Nat):Int) ((aG (body b):Nat):Int))) Z E (qb2 (Value.int .i64) (JW (ip cf fx) p6 r8)) Z;refine I ?_;rcases qa4 (neg a)with sc|sc;refine I ?_;exact am (t:=4) (v:=.int .i64 (-1)) Z E (qb2 (Value.int .i64) (JX (ip cf fx) p6 sc)) Z;refine I ?_;exact am (t:=4) (v:=.int .i64 1) Z E (qb2 (Value.int .i64) (JY (ip cf fx) p6 sc)) Z;refine I ?_;exact am (t:=4) (v:=.int .i64 0) Z E (by rw[yf (ON fx)]) Z;refine I ?_;refine clb nH (hc:=cI a _ U) (hk:=?_);rintro _ _ Am rfl;have Ao:=Am.2;refine I ?_;exact am (t:=4) (v:=.int .i64 0) Z Ao (by rw[yf (OM cf)]) Z
def pI (a b:List UInt8)(w:World)(sa:a.length<=1000000)(sb:b.length<=1000000):
 CL 139 #[S a,S b] w (aH w λv w'=>v=wh (du a b)):=by
 refine aD func139 Z (I ?_);rcases qa4 (isInt a)with cv|cv;rcases qa4 (isInt b)with cw|cw;refine I ?_;refine clb nH (hc:=cI a _ U) (hk:=?_);rintro _ _ Cr rfl;have E:=Cr.2;refine I ?_;refine clb nH (hc:=cI b _ U) (hk:=?_);rintro _ _ D2 rfl;have E:=xt E D2.2;refine I ?_;refine sh (b:=[48]) (I ?_);by_cases w9:b=([48]);refine I ?_;exact fJ (t:=4) (u:=5) (s:=6) (v1:=S []) (v2:=S []) (v3:=.int .i64 30) Z E (by rw[T8 cL];rfl) Z Z Z;have O:0<aG (body b):=OO cw w9;refine I ?_;refine cl zv (eM _ _ cv) ?_;rintro _ _ E6 ⟨L1,Kp,wr,rfl,Af⟩;have E:=xt E E6.2;have Af:=Af.mono (lo':=w.heap.size) U;have H4:=jm Af (l8 cv);refine I ?_;refine cl zv (eM _ _ cw) ?_;rintro _ _ B1 ⟨KC,H3,FR,rfl,A0⟩;have Af:=ac9 B1.2 Af;have E:=xt E B1.2;have A0:=A0.mono (lo':=w.heap.size) U;have EW:=jm A0 (l8 cw);refine I ?_;refine clb QQ (hc:=AE Af U A0 U O) (hk:=?_);rintro _ _ C0 ⟨Aq,G0,KM,Ar,E1,ES,rfl,hq,hr⟩;have A0:=ac9 C0.2 A0;have E:=xt E C0.2;have hq:=hq.mono (lo':=w.heap.size) U;have hr:=hr.mono (lo':=w.heap.size) U;have KY:=jm hq (Nat.lt_of_le_of_lt (Nat.div_le_self _ _) (l8 cv))
 have GC:=jm hr (Nat.lt_trans (Nat.mod_lt _ O) (l8 cw));have Ay:aG (body a)%aG (body b)<=aG (body b):=Nat.le_of_lt (Nat.mod_lt _ O);refine I ?_;rcases qa4 (neg a)with ly|ly;refine I ?_;by_cases aoo:0<(E1:Int);have Ax:0<aG (body a)%aG (body b):=mO (B:=10) U (by rw[hr.len];omega);have G:=dvr O ly Ax;have Ab:aG (body b)-aG (body a)%aG (body b)<=aG (body b):=Nat.sub_le _ _;refine I ?_;refine BS (λ_ As _ E5=>?_);have A0:=ac9 As A0;have hq:=ac9 As hq;have hr:=ac9 As hr;have E:=xt E As;have D1:=T7 (aa7 E5);refine clb QR (hc:=wR hq U D1 U) (hk:=?_);rintro _ _ Av ⟨Ap,K3,Ix,rfl,Ao⟩;have A0:=ac9 Av.2 A0;have hr:=ac9 Av.2 hr;have E:=xt E Av.2;have Ao:=Ao.mono (lo':=w.heap.size) U;have H2:=jm Ao (Xn (Nat.lt_of_le_of_lt (Nat.div_le_self _ _) (l8 cv)) (show 1<10^200 by decide +kernel));refine I ?_;refine clb Ei (hc:=lG A0 U hr U Ay) (hk:=?_);rintro _ _ B0 ⟨Am,nm,K2,rfl,hm⟩;have Ao:=ac9 B0.2 Ao;have E:=xt E B0.2;have hm:=hm.mono (lo':=w.heap.size) U;have L2:=jm hm (Nat.lt_of_le_of_lt (Nat.sub_le _ _) (l8 cw));refine I ?_;refine aa (mw (a:=neg a) (b:=neg b) (q:=(!((neg a)==(neg b)))) U4 Z Z Z ?_)
 refine I ?_;refine clb Cb (hc:=jV Ao U (!((neg a)==(neg b)))) (hk:=?_);rintro _ _ od rfl;have hm:=ac9 od.2 hm;have E:=xt E od.2;refine I ?_;refine clb Iq (hc:=kT hm U false) (hk:=?_);rintro _ _ E0 rfl;have E:=xt E E0.2;rw[yt (lE cw Ab)];refine I ?_;by_cases aop:(rE (bg (bT (!((neg a)==(neg b))) (aG (body a)/aG (body b)+1))))=0;refine I ?_;exact fJ (t:=4) (u:=5) (s:=6) (v1:=S (rS (bg (bT (!((neg a)==(neg b))) (aG (body a)/aG (body b)+1))))) (v2:=S (rS (bg (bT false (aG (body b)-aG (body a)%aG (body b)))))) (v3:=.int .i64 0) Z E CD Z Z Z;refine I ?_;exact fJ (t:=4) (u:=5) (s:=6) (v1:=S []) (v2:=S []) (v3:=.int .i64 (rE (bg (bT (!((neg a)==(neg b))) (aG (body a)/aG (body b)+1))))) Z E CD Z Z Z;have Ax:aG (body a)%aG (body b)=0:=jw (B:=10) U (hr.len.trans U);have G:=YJ (a:=a) O (Or.inr Ax);have Ab:aG (body a)%aG (body b)<=aG (body b):=Ay;refine I ?_;refine aa (mw (a:=neg a) (b:=neg b) (q:=(!((neg a)==(neg b)))) U4 Z Z Z ?_);refine I ?_
 refine clb Cb (hc:=jV hq U (!((neg a)==(neg b)))) (hk:=?_);rintro _ _ B2 rfl;have hr:=ac9 B2.2 hr;have E:=xt E B2.2;refine I ?_;refine clb Iq (hc:=kT hr U false) (hk:=?_);rintro _ _ E7 rfl;have E:=xt E E7.2;rw[yt (lE cw Ab)];refine I ?_;by_cases aoq:(rE (bg (bT (!((neg a)==(neg b))) (aG (body a)/aG (body b)))))=0;refine I ?_;exact fJ (t:=4) (u:=5) (s:=6) (v1:=S (rS (bg (bT (!((neg a)==(neg b))) (aG (body a)/aG (body b)))))) (v2:=S (rS (bg (bT false (aG (body a)%aG (body b)))))) (v3:=.int .i64 0) Z E CD Z Z Z;refine I ?_;exact fJ (t:=4) (u:=5) (s:=6) (v1:=S []) (v2:=S []) (v3:=.int .i64 (rE (bg (bT (!((neg a)==(neg b))) (aG (body a)/aG (body b)))))) Z E CD Z Z Z;have G:=YJ O (Or.inl ly);have Ab:aG (body a)%aG (body b)<=aG (body b):=Ay;refine I ?_;refine aa (mw (a:=neg a) (b:=neg b) (q:=(!((neg a)==(neg b)))) U4 Z Z Z ?_);refine I ?_;refine clb Cb (hc:=jV hq U (!((neg a)==(neg b)))) (hk:=?_);rintro _ _ Az rfl;have hr:=ac9 Az.2 hr;have E:=xt E Az.2;refine I ?_
 refine clb Iq (hc:=kT hr U false) (hk:=?_);rintro _ _ CB rfl;have E:=xt E CB.2;rw[yt (lE cw Ab)];refine I ?_;by_cases aor:(rE (bg (bT (!((neg a)==(neg b))) (aG (body a)/aG (body b)))))=0;refine I ?_;exact fJ (t:=4) (u:=5) (s:=6) (v1:=S (rS (bg (bT (!((neg a)==(neg b))) (aG (body a)/aG (body b)))))) (v2:=S (rS (bg (bT false (aG (body a)%aG (body b)))))) (v3:=.int .i64 0) Z E CD Z Z Z;refine I ?_;exact fJ (t:=4) (u:=5) (s:=6) (v1:=S []) (v2:=S []) (v3:=.int .i64 (rE (bg (bT (!((neg a)==(neg b))) (aG (body a)/aG (body b)))))) Z E CD Z Z Z;refine I ?_;refine clb nH (hc:=cI a _ U) (hk:=?_);rintro _ _ E4 rfl;have Aw:=E4.2;refine I ?_;refine clb nH (hc:=cI b _ U) (hk:=?_);rintro _ _ CG rfl;have Aw:=xt Aw CG.2;refine I ?_;exact fJ (t:=4) (u:=5) (s:=6) (v1:=S []) (v2:=S []) (v3:=.int .i64 30) Z Aw (by rw[yg (ON cw)];rfl) Z Z Z;refine I ?_;refine clb nH (hc:=cI a _ U) (hk:=?_);rintro _ _ E9 rfl;have CY:=E9.2;refine I ?_
 exact fJ (t:=4) (u:=5) (s:=6) (v1:=S []) (v2:=S []) (v3:=.int .i64 30) Z CY (by rw[yg (OM cv)];rfl) Z Z Z
def AI (a b:List UInt8)(w:World)(sa:a.length<=1000000)(sb:b.length<=1000000):
 CL 138 #[S a,S b] w (aH w λv w'=>v=iF (bV a b)):=by
 refine aD func138 Z (I ?_);rcases qa4 (isInt a)with cf|cf;refine I ?_;refine clb nH (hc:=cI a _ U) (hk:=?_);rintro _ _ CB rfl;have E:=CB.2;refine I ?_;refine clb nH (hc:=cI b _ U) (hk:=?_);rintro _ _ D2 rfl;have E:=xt E D2.2;refine I ?_;rcases qa4 (isInt b)with cw|cw;refine I ?_;refine cl zv (eM _ _ cf) ?_;rintro _ _ Aw ⟨Cr,C0,Az,rfl,O⟩;have E:=xt E Aw.2;have O:=O.mono (lo':=w.heap.size) U;refine I ?_;refine cl zv (eM _ _ cw) ?_;rintro _ _ wr ⟨od,CG,B2,rfl,Af⟩;have O:=ac9 wr.2 O;have E:=xt E wr.2;have Af:=Af.mono (lo':=w.heap.size) U;refine I ?_;refine b7 [(7,7),(9,11),(30,40)] (λB1 e W=>∃Ax:Option Addr,∃Ab:Nat,∃Ao:Nat,∃x:Nat,∃Ay:Option Addr,∃ny:Nat,∃Am:Nat,∃y:Nat,(y=B1)/\(e 7=.slice Ax Ab Ao)/\(e 9=.slice Ay ny Am)/\(Ab<=200)/\(ny<=200)/\(Nat.gcd x y=Nat.gcd (aG (body a)) (aG (body b)))/\(aO w W)/\(Dg W w.heap.size Ax Ab Ao x)/\(Dg W w.heap.size Ay ny Am y)) (aG (body b)) ⟨Cr,C0,Az,aG (body a),od,CG,B2,aG (body b),rfl,rfl,rfl,(jm O (l8 cf)),(jm Af (l8 cw)),rfl,E,O,Af⟩ ?_;rintro _ _ _ ⟨Ax,Ab,Ao,x,Ay,ny,Am,y,rfl,E7,E4,q1,q2,Ap,G,hx,hy⟩
 have E5:=bz G;by_cases hm:0<ny;have A0:0<y:=mO (B:=10) U (by rw[hy.len];omega);have E0:=hx.row.hi;refine I ?_;refine clb QQ (hc:=AE hx U hy U A0) (hk:=?_);rintro _ _ As ⟨Aq,E6,E9,Ar,CY,Av,rfl,hq,hr⟩;have hy:=ac9 As.2 hy;have G:=xt G As.2;have hr:=hr.mono (lo':=w.heap.size) U;refine I ?_;exact bF (hk:=by exact Nat.mod_lt _ A0) ⟨Ay,ny,Am,y,Ar,CY,Av,x%y,rfl,rfl,rfl,U,(by rw[<-hr.len];exact qa8 (ey U (Nat.le_of_lt (Nat.mod_lt _ A0))) (by rw[hy.len];exact q2)),(Al Ap),G,hy,hr⟩;have A0:y=0:=jw (B:=10) U (hy.len.trans U);rw[A0,Nat.gcd_zero_right]at Ap;have E0:=hx.row.hi;refine I ?_;refine clb Cb (hc:=jV hx U false) (hk:=?_);rintro _ _ D1 rfl;have G:=xt G D1.2;refine I ?_;exact bA (t:=4) (u:=5) (v1:=S (rS (bg (bT false x)))) (v2:=.int .i64 (rE (bg (bT false x)))) Z G (by rw[EU (ip cf cw),<-Ap];rfl) Z Z;refine I ?_;exact bA (t:=4) (u:=5) (v1:=S []) (v2:=.int .i64 30) Z E (by rw[yd (ON cw)];rfl) Z Z;refine I ?_;refine clb nH (hc:=cI a _ U) (hk:=?_);rintro _ _ B0 rfl;have E1:=B0.2;refine I ?_;exact bA (t:=4) (u:=5) (v1:=S []) (v2:=.int .i64 30) Z E1 (by rw[yd (OM cf)];rfl) Z Z
def fF {p:Prop}(h:p:=by assumption):p:=h
def GP {n:Int}(h:fits n=true):(ae n).length<=201:=(kS (br h)).2
def Gi (a b:List UInt8):Int:=((Int.gcd (aj a) (aj b):Nat):Int)
def qW (n d:List UInt8):Option R:=if isInt n&&isInt d then im (aj n) (aj d)else none
section
variable {x y:List UInt8}
def T9 (h:aj y≠0):0<Gi x y:=by
 have:0<Int.gcd (aj x) (aj y):=Int.gcd_pos_of_ne_zero_right _ h
 unfold Gi;omega
def no (hy:isInt y=true)(h:aj y≠0):fits (Gi x y)=true:=kf (e9 hy) (by
 have hd:Gi x y∣aj y:=Int.gcd_dvd_right ..
 exact Nat.le_of_dvd U (Int.natAbs_dvd_natAbs.2 hd))
def AJ (hx:isInt x=true)(hy:isInt y=true)(h:aj y≠0):bV x y=some (ae (Gi x y)):=by
 unfold bV;rw[if_pos (by rw[hx,hy];rfl)];unfold bg
 show(if fits (Gi x y)=true then some (ae (Gi x y))else none)=_
 rw[if_pos (no hy h)]
def pJ {z:List UInt8}(hz:isInt z=true)(hy:isInt y=true)(h:aj y≠0)(hd:Gi x y∣aj z):du z (ae (Gi x y))=some (ae (aj z/Gi x y),ae (aj z%Gi x y)):=by
 have E:=T9 (x:=x) h
 rw[lD (by rw[hz,br (no hy h)];rfl) (by rw[gL,gK];omega),aJ]
 obtain⟨g,hg⟩:∃g:Nat,Gi x y=(g:Int):=⟨_,rfl⟩
 rw[hg]at hd E ⊢
 unfold bg
 rw[if_pos (kf (e9 hz) (kg _ _ U hd))]
 rfl
def Xo:Gi x y∣aj x:=Int.gcd_dvd_left ..
def Xp:Gi x y∣aj y:=Int.gcd_dvd_right ..
def nu (q r:List UInt8):wh (some (q,r))=.tuple #[S q,S r,.int .i64 0]:=rfl
def nw (q:List UInt8):iF (some q)=.tuple #[S q,.int .i64 0]:=rfl
def De (h:isInt x=false):none=qW x y:=by unfold qW;rw[h];rfl
def Df (h:isInt y=false):none=qW x y:=by unfold qW;rw[h];simp
def Dh (h:y=[48]):none=qW x y:=by
 unfold qW im;subst h;rw[kQ];simp
def sS (hy:isInt y=true)(h:¬y=[48]):aj y≠0:=λe=>h ((gi hy).1 e)
def Ua (hx:isInt x=true)(hy:isInt y=true)(h0:¬y=[48])(hs:¬dT y [48]<0):some (ae (aj x/Gi x y),ae (aj y/Gi x y))=qW x y:=by
 rw[gU hy,pw]at hs
 unfold qW im eh dn
 rw[hx,hy,Bool.and_self,if_pos Z,if_neg (sS hy h0),if_neg hs,if_neg hs];rfl
def Ub (hx:isInt x=true)(hy:isInt y=true)(h0:¬y=[48])(hs:dT y [48]<0):
 some (ae (aj (ae (-aj x))/Gi (ae (-aj x)) (ae (-aj y))),ae (aj (ae (-aj y))/Gi (ae (-aj x)) (ae (-aj y))))=qW x y:=by
 rw[gU hy,pw]at hs
 unfold qW im eh dn Gi
 rw[hx,hy,Bool.and_self,if_pos Z,if_neg (sS hy h0),if_pos hs,if_pos hs,aJ,aJ,Int.gcd_neg,Int.neg_gcd]
def Uc (hy:isInt y=true)(h0:¬y=[48]):aj (ae (-aj y))≠0:=by rw[aJ];have:=sS hy h0;omega
end
def qX:Value.tuple #[.agg #[S [],S []],.int .i64 40]=gY none:=rfl
def wT (a b:List UInt8):Value.tuple #[.agg #[S a,S b],.int .i64 0]=gY (some (a,b)):=rfl
def jn (h:isInt l=true):l.length<=1000000:=by have:=kS h;omega
set_option maxRecDepth 100000 in
def GQ (x y:List UInt8)(w:World)(s1:x.length<=1000000)(s2:y.length<=1000000):
 CL 82 #[S x,S y] w (aH w λv w'=>v=gY (qW x y)):=by
 refine aD func82 Z (I ?_);refine al aU (λ_ Ap G=>?_);have E:=Ap.2;refine I ?_;refine clb nH (hc:=cI x _ fF) (hk:=?_);rintro _ _ Ax rfl;have⟨G,E⟩:=bo Ax.2 G E;refine I ?_;refine clb nH (hc:=cI y _ fF) (hk:=?_);rintro _ _ C0 rfl;have⟨G,E⟩:=bo C0.2 G E;refine I ?_;rcases qa4 (isInt x)with cr|cr;rcases qa4 (isInt y)with cv|cv;refine I ?_;refine sh (b:=[48]) (I ?_);by_cases cx:y=([48]);refine I ?_;refine SA G (λ_ Af B1=>?_);have E:=bi Af E;refine I ?_;refine aW (v:=.tuple #[.agg #[S [],S []],.int .i64 40]) (c8 (r1:=.cell 4 33) (r2:=.tmp 5) Z ?_ ?_) E Fr;refine ai (t:=4) (cs:=[S [],S []]) (b:=w.heap.size) (o:=0) iW Z b8 ?_ ?_;exact Z;exact aa0 B1 (i:=0) Z;exact aM (t:=5) RM _;have hx:=cr;have hy:=cv;have A0:=cx;have Ay:=sS hy A0;refine I ?_;refine clb Y8 (hc:=J0 y [48] _ fF dc) (hk:=?_);rintro _ _ CB rfl;have⟨G,E⟩:=bo CB.2 G E;refine I ?_;by_cases cw:(dT y [48])<0;have hs:=cw;have hX:=nk hx
 have hY:=nk hy;have hY0:=Uc hy A0;refine I ?_;refine clb V7 (hc:=AH [48] x _ dc fF) (hk:=?_);rintro _ _ CG O;have⟨G,E⟩:=bo CG.2 G E;rw[nj hx,nw]at O;subst O;refine I ?_;refine clb V7 (hc:=AH [48] y _ dc fF) (hk:=?_);rintro _ _ Az O;have⟨G,E⟩:=bo Az.2 G E;rw[nj hy,nw]at O;subst O;refine I ?_;refine cl V9 (AI (ae (-aj x)) (ae (-aj y)) _ (jn hX) (jn hY)) ?_;rintro _ _ B0 O;have⟨G,E⟩:=bo B0.2 G E;rw[AJ hX hY hY0,nw]at O;subst O;refine I ?_;refine cl NB (pI (ae (-aj x)) (ae (Gi (ae (-aj x)) (ae (-aj y)))) _ (jn hX) (jn (br (no hY hY0)))) ?_;rintro _ _ As O;have⟨G,E⟩:=bo As.2 G E;rw[pJ hX hY hY0 Xo,nu]at O;subst O;refine I ?_;refine cl NB (pI (ae (-aj y)) (ae (Gi (ae (-aj x)) (ae (-aj y)))) _ (jn hY) (jn (br (no hY hY0)))) ?_;rintro _ _ Ar O;have⟨G,E⟩:=bo Ar.2 G E;rw[pJ hY hY hY0 Xp,nu]at O;subst O;refine I ?_;refine SA G (λ_ nm B2=>?_);have E:=bi nm E;refine I ?_
 refine aW (v:=.tuple #[.agg #[S (ae (aj (ae (-aj x))/Gi (ae (-aj x)) (ae (-aj y)))),S (ae (aj (ae (-aj y))/Gi (ae (-aj x)) (ae (-aj y))))],.int .i64 0]) (c8 (r1:=.cell 4 33) (r2:=.tmp 5) Z ?_ ?_) E (by rw[wT,Ub hx hy A0 hs]);refine ai (t:=4) (cs:=[S (ae (aj (ae (-aj x))/Gi (ae (-aj x)) (ae (-aj y)))),S (ae (aj (ae (-aj y))/Gi (ae (-aj x)) (ae (-aj y))))]) (b:=w.heap.size) (o:=0) iW Z b8 ?_ ?_;exact Z;exact aa0 B2 (i:=0) Z;exact aM (t:=5) RM _;have hs:=cw;have hX:=hx;have hY:=hy;have hY0:=Ay;refine I ?_;refine cl V9 (AI x y _ (jn hX) (jn hY)) ?_;rintro _ _ Aq O;have⟨G,E⟩:=bo Aq.2 G E;rw[AJ hX hY hY0,nw]at O;subst O;refine I ?_;refine cl NB (pI x (ae (Gi x y)) _ (jn hX) (jn (br (no hY hY0)))) ?_;rintro _ _ Av O;have⟨G,E⟩:=bo Av.2 G E;rw[pJ hX hY hY0 Xo,nu]at O;subst O;refine I ?_;refine cl NB (pI y (ae (Gi x y)) _ (jn hY) (jn (br (no hY hY0)))) ?_;rintro _ _ CY O;have⟨G,E⟩:=bo CY.2 G E;rw[pJ hY hY hY0 Xp,nu]at O;subst O;refine I ?_;refine SA G (λ_ Am wr=>?_);have E:=bi Am E;refine I ?_
 refine aW (v:=.tuple #[.agg #[S (ae (aj x/Gi x y)),S (ae (aj y/Gi x y))],.int .i64 0]) (c8 (r1:=.cell 4 33) (r2:=.tmp 5) Z ?_ ?_) E (by rw[wT,Ua hx hy A0 hs]);refine ai (t:=4) (cs:=[S (ae (aj x/Gi x y)),S (ae (aj y/Gi x y))]) (b:=w.heap.size) (o:=0) iW Z b8 ?_ ?_;exact Z;exact aa0 wr (i:=0) Z;exact aM (t:=5) RM _;refine I ?_;refine SA G (λ_ ny Aw=>?_);have E:=bi ny E;refine I ?_;refine aW (v:=.tuple #[.agg #[S [],S []],.int .i64 40]) (c8 (r1:=.cell 4 33) (r2:=.tmp 5) Z ?_ ?_) E Fr;refine ai (t:=4) (cs:=[S [],S []]) (b:=w.heap.size) (o:=0) iW Z b8 ?_ ?_;exact Z;exact aa0 Aw (i:=0) Z;exact aM (t:=5) RM _;refine I ?_;refine SA G (λ_ Ao Ab=>?_);have E:=bi Ao E;refine I ?_;refine aW (v:=.tuple #[.agg #[S [],S []],.int .i64 40]) (c8 (r1:=.cell 4 33) (r2:=.tmp 5) Z ?_ ?_) E Fr;refine ai (t:=4) (cs:=[S [],S []]) (b:=w.heap.size) (o:=0) iW Z b8 ?_ ?_;exact Z;exact aa0 Ab (i:=0) Z;exact aM (t:=5) RM _
def Ud (n:Int):∃ng x,n=bT ng x/\(ng=true->0<x)/\x=n.natAbs:=by
 by_cases h:n<0
 · exact⟨true,n.natAbs,by simp[bT];omega,λ_=>by omega,rfl⟩
 · exact⟨false,n.natAbs,by simp[bT];omega,by simp,rfl⟩
def Ue {x:Nat}(h:ng=true->0<x):sj (decide (bT ng x<0)) x=ae (bT ng x):=by
 rw[<-qV]
 congr 1
 cases ng with
 | false=>
   have:decide (bT false x<0)=false:=qa2 (by show¬(x:Int)<0;omega)
   rw[this]
 | true=>
   have:=h Z
   have:decide (bT true x<0)=true:=qa1 (by show -(x:Int)<0;omega)
   rw[this]
def uH {x:Nat}:bT ng x=0↔x=0:=by cases ng <;>simp[bT] <;>omega
def Di {ng:Bool}{x:Nat}:-(x:Int)<=bT ng x/\bT ng x<=(x:Int):=by cases ng <;>simp[bT] <;>omega
def J1 (h:ng=true/\0<d):bT ng d<0/\-bT ng d=(d:Int):=by rw[h.1];simp[bT];omega
def Uf (h:¬(ng=true/\0<d)):bT ng d=(d:Int):=by cases ng <;>simp_all [bT]
def AK {x:Nat}(h:¬x=0):au 10 x=x%10::au 10 (x/10):=ge 10 x U U
def aF (c n:Int):Int:=(if c<0 then -(c+1)else c)%n
def dj (c n:Int)(h:0<n):0<=aF c n/\aF c n<n:=⟨Int.emod_nonneg _ U,Int.emod_lt_of_pos _ h⟩
def AL {n:Int}(h:c<0):-(c+1)%n=aF c n:=by unfold aF;rw[if_pos h]
def AM {n:Int}(h:¬c<0):c%n=aF c n:=by unfold aF;rw[if_neg h]
def wU {n:Int}(h:-100000000<=n/\n<=100000000):(ae n).length<=1000000:=by
 have:fits n=true:=by
  unfold fits;rw[decide_eq_true_eq]
  have E:(10:Nat)^9<=10^200:=Nat.pow_le_pow_right U U
  omega
 have:=GP this;omega
def AN (hng:ng=true->0<x0)(hx0:x0<=100000000):
 CL 83 #[.int .i64 (bT ng x0)] w (aH w λv w'=>v=S (ae (bT ng x0))):=by
 have B1:(au 10 x0).length<=9:=(bf 10 U x0 9).2 U;refine aD func83 Z (I ?_);have Ay:World.ownsRow w w.heap.size 3 1 (.slice none 0 0) 0 (ints []):=bK;have Ax:=aa3 w;refine b7 [(3,5),(9,22)] (λAp e W=>∃x:Nat,∃ds:List Nat,∃G:Value,(x=Ap)/\(e 4=.int .i64 (bT ng x))/\(e 3=G)/\(au 10 x0=ds++au 10 x)/\(x<=100000000)/\(aO w W)/\(W.ownsRow w.heap.size 3 1 G ds.length (ints ds))) (x0) ⟨x0,[],.slice none 0 0,rfl,rfl,rfl,rfl,hx0,Ax,Ay⟩ ?_;rintro _ _ _ ⟨x,ds,G,rfl,Cr,A0,q1,q2,E,ho⟩;have CY:=bz E;by_cases hx:x=0;rw[hx,gw,List.append_nil]at q1;obtain⟨_,_,rfl,Aw⟩:=qT ho q1.symm;have C0:ds.length<=9:=by rw[<-q1];exact B1
 have D2:=show bT ng x=0 from uH.2 hx;refine I ?_;refine clb Iq (hc:=kT Aw U (decide ((bT ng x0)<0))) (hk:=?_);rintro _ _ As rfl;have E:=xt E As.2;refine I ?_;exact am (t:=2) (v:=S (sj (decide ((bT ng x0)<0)) x0)) Z E (by rw[Ue hng]) Z;by_cases hd:ng=true/\0<x%10;rw[AK hx]at q1;have O:=qb2 List.length q1;rw[List.length_append,List.length_cons]at O;have CG:=show¬bT ng x=0 from λh=>hx (uH.1 h);refine I ?_;refine aa (CE (a:=bT ng x) (b:=10) (c:=bT ng (x%10)) Z Z dc (by rw[AF]) ?_);have D1:=(J1 hd).1;refine I ?_;refine aa (zq (a:=bT ng (x%10)) Z (by have:=@Di ng (x%10);unfold In64;omega) ?_);rw[(J1 hd).2];refine I ?_;refine aa (aT (v:=G) A0 ?_);refine I ?_;refine BS (λ_ Am _ B0=>?_);have ho:=ab Am ho;have E:=xt E Am;refine AP ho (aa7 B0) (λAo _ Ar Av _=>?_);have E:=bu ho U U E Av;refine aa (aK (v:=Ao) Z ?_);refine I ?_;refine aa (CC (a:=bT ng x) (b:=10) (c:=bT ng (x/10)) Z Z dc (AG _ _) (by have:=@Di ng (x/10);unfold In64;omega) ?_);refine I ?_;exact bF ⟨x/10,ds++[x%10],Ao,rfl,rfl,rfl,(by rw[List.append_assoc];exact q1),U,E,(aP Ar Rg (by rw[fj]))⟩
 rw[AK hx]at q1;have O:=qb2 List.length q1;rw[List.length_append,List.length_cons]at O;have CB:=show¬bT ng x=0 from λh=>hx (uH.1 h);refine I ?_;refine aa (CE (a:=bT ng x) (b:=10) (c:=((x%10:Nat):Int)) Z Z dc (by rw[AF];exact Uf hd) ?_);refine I ?_;refine aa (aT (v:=G) A0 ?_);refine I ?_;refine BS (λ_ Ab _ Aq=>?_);have ho:=ab Ab ho;have E:=xt E Ab;refine AP ho (aa7 Aq) (λAf _ Az B2 _=>?_);have E:=bu ho U U E B2;refine aa (aK (v:=Af) Z ?_);refine I ?_;refine aa (CC (a:=bT ng x) (b:=10) (c:=bT ng (x/10)) Z Z dc (AG _ _) (by have:=@Di ng (x/10);unfold In64;omega) ?_);refine I ?_;exact bF ⟨x/10,ds++[x%10],Af,rfl,rfl,rfl,(by rw[List.append_assoc];exact q1),U,E,(aP Az Rg (by rw[fj]))⟩
def uI (n:Int)(w:World)(h:-100000000<=n/\n<=100000000):CL 83 #[.int .i64 n] w (aH w λv _=>v=S (ae n)):=by
 obtain⟨ng,x,rfl,h1,h2⟩:=Ud n
 exact AN h1 (by have:=jQ ng x;omega)
def AO (n m:Int)(w:World)(hn:-100000000<=n/\n<=100000000)(hm:-100000000<=m/\m<=100000000):
 CL 34 #[.int .i64 n,.int .i64 m] w (aH w λv w'=>v=gY (qW (ae n) (ae m))):=by
 refine aD func34 Z (I ?_);refine al aU (λ_ Ab G=>?_);have E:=Ab.2;refine I ?_;refine clb V3 (hc:=uI n _ U) (hk:=?_);rintro _ _ O rfl;have⟨G,E⟩:=bo O.2 G E;refine I ?_;refine clb V3 (hc:=uI m _ U) (hk:=?_);rintro _ _ A0 rfl;have⟨G,E⟩:=bo A0.2 G E;refine clb Y7 (hc:=GQ (ae n) (ae m) _ (wU U) (wU U)) (hk:=?_);rintro _ _ Ao rfl;have⟨G,E⟩:=bo Ao.2 G E;refine I ?_;refine SA G (λ_ Am Af=>?_);have E:=bi Am E;refine I ?_;refine aW (v:=.tuple #[.agg #[S (rN (qW (ae n) (ae m))),S (rD (qW (ae n) (ae m)))],.int .i64 (TX (qW (ae n) (ae m)))]) (c8 (r1:=.cell 4 33) (r2:=.tmp 5) Z ?_ ?_) E Z;refine ai (t:=4) (cs:=[S (rN (qW (ae n) (ae m))),S (rD (qW (ae n) (ae m)))]) (b:=w.heap.size) (o:=0) iW Z b8 ?_ ?_;exact Z;exact aa0 Af (i:=0) Z;exact aM (t:=5) RM _
end
section
open Go Go.Eng Go.RowKit Tryz
def sA:Value->Option Addr
 | .slice A _ _=>A
 |_=>none
def sC:Value->Nat
 | .slice _ _ c=>c
 |_=>0
def bJ:Option Addr->Nat
 |some a=>a.block
 |none=>0
def ei:Option Addr->Nat
 |some a=>a.off
 |none=>0
def bO {α:Type}(f:Nat->α)(i:Nat)(a:α):Nat->α:=λj=>if j=i then a else f j
def bj {α:Type}(f:Nat->α)(i:Nat)(a:α):bO f i a i=a:=by simp[bO]
def bm {α:Type}(f:Nat->α)(a:α)(h:j≠i):bO f i a j=f j:=by simp[bO,h]
def J2 (h:Rw W lo A cs)(hu:cs[j]?=some u):A=some ⟨bJ A,ei A,none⟩/\W.cell? ⟨bJ A,ei A+j,none⟩=some u:=by
 obtain⟨b,o,rfl,hc⟩:=h.cells j u hu
 exact⟨rfl,hc⟩
def bD {l:List R}(h:Rw W lo A (ag l))(hk:k<l.length):
 A=some ⟨bJ A,ei A,none⟩/\∀j u,[S (ao l k).1,S (ao l k).2][j]?=some u->W.cell? ⟨bJ A,ei A+k*2+j,none⟩=some u:=by
 obtain⟨b,o,rfl,hc⟩:=EX h hk
 exact⟨rfl,hc⟩
def dk (h:W.ownsRow lo t sz v n cs):v=.slice (sA v) n (sC v):=by
 obtain⟨hl,⟨rfl,rfl⟩|⟨g,cap,E,rfl,_⟩⟩:=h <;>rfl
def fE (h:W.ownsRow lo t sz v n cs):Rw W lo (sA v) cs:=by
 have h2:=h
 rw[dk h]at h2
 exact aa7 h2
def dr (h:W.ownsRow lo t sz v n cs):∀g,v.ownBlock=some g->g<W.heap.size:=by
 obtain⟨hl,⟨rfl,rfl⟩|⟨g,cap,G,rfl,O,E,_⟩⟩:=h
 · intro g e;cases e
 · intro _ e;cases e;exact(Array.getElem?_eq_some_iff.1 E).1
def bM (hl:lo'<=lo)(h:W.ownsRow lo t sz v n cs):W.ownsRow lo' t sz v n cs:=by
 obtain⟨h1,h2|⟨g,cap,E,rfl,G,r⟩⟩:=h
 · exact⟨h1,.inl h2⟩
 · exact⟨h1,.inr ⟨g,cap,E,rfl,qa8 hl G,r⟩⟩
structure Mt (W:World)(lo:Nat)(A:Option Addr)(n:Nat)(H:Nat->Value)(L:Nat->List R):Prop where
 out:Rw W lo A ((List.range n).map H)
 hdr:∀i,i<n->H i=.slice (sA (H i)) (L i).length (sC (H i))
 row:∀i,i<n->Rw W lo (sA (H i)) (ag (L i))
 cap:∀i,i<n->(L i).length<=sC (H i)
def lH (h:W.ownsRow base et sz v k cs):k<=sC v:=by
 obtain⟨hl,⟨rfl,rfl⟩|⟨g,cap,G,rfl,O,E,hc,r⟩⟩:=h
 · exact qa0 _
 · exact hc
section
variable {W':World}{hi m:Nat}{L:Nat->List R}
def Mt.ext (k:aO W W')(h:Mt W lo A n H L):Mt W' lo A n H L:=⟨h.out.ext k,h.hdr,λi hi=>(h.row i hi).ext k,h.cap⟩
def Mt.put {b:Nat}(k:ee W W' b)(hb:b<lo)(h:Mt W lo A n H L):Mt W' lo A n H L:=⟨h.out.put k hb,h.hdr,λi hi=>(h.row i hi).put k hb,h.cap⟩
def Mt.mono (hl:lo'<=lo)(h:Mt W lo A n H L):Mt W lo' A n H L:=⟨h.out.mono hl,h.hdr,λi hi=>(h.row i hi).mono hl,h.cap⟩
def Mt.cell (h:Mt W lo A n H L)(hi:i<n):A=some ⟨bJ A,ei A,none⟩/\W.cell? ⟨bJ A,ei A+i,none⟩=some (.slice (sA (H i)) (L i).length (sC (H i))):=by
 rw[<-h.hdr i hi]
 exact J2 h.out (by simp[hi])
def aa8:=@Mt.cell
def Mt.elem (h:Mt W lo A n H L)(hi:i<n)(hk:k<(L i).length):
 sA (H i)=some ⟨bJ (sA (H i)),ei (sA (H i)),none⟩/\∀j u,[S (ao (L i) k).1,S (ao (L i) k).2][j]?=some u->W.cell? ⟨bJ (sA (H i)),ei (sA (H i))+k*2+j,none⟩=some u:=
 bD (h.row i hi) hk
def ac6:=@Mt.elem
def Mt.congr {L':Nat->List R}(h:Mt W lo A n H L)(hL:∀i,i<n->L i=L' i):Mt W lo A n H L':=
 ⟨h.out,λi hi=>by rw[<-hL i hi];exact h.hdr i hi,λi hi=>by rw[<-hL i hi];exact h.row i hi,λi hi=>by rw[<-hL i hi];exact h.cap i hi⟩
structure Wr (W:World)(lo hi n:Nat)(H:Nat->Value)(L:Nat->List R):Prop where
 own:∀i,i<n->W.ownsRow lo 33 2 (H i) (L i).length (ag (L i))
 hi:∀i,i<n->∀g,(H i).ownBlock=some g->g<hi
 ne:∀i j,i<n->j<n->i≠j->ay (H i) (H j)
def Wr.nil:Wr W lo hi 0 H L:=⟨λi h=>by omega,λi h=>by omega,λi j h=>by omega⟩
def Wr.ext (k:aO W W')(h:Wr W lo hi n H L):Wr W' lo hi n H L:=⟨λi hi=>ab k (h.own i hi),h.hi,h.ne⟩
def aa1:=@Wr.ext
def Wr.put {b:Nat}(k:ee W W' b)(hb:b<lo\/hi<=b)(h:Wr W lo hi n H L):Wr W' lo hi n H L:=
 ⟨λi hi'=>aw k (λe=>by have h1:=h.hi i hi' b e;have h2:=aS (h.own i hi') b e;omega) (h.own i hi'),h.hi,h.ne⟩
def ab9:=@Wr.put
def Wr.gr {row:Option Nat}(k:W.grownBy W' row)(hb:∀g,row=some g->g<lo\/hi<=g)(h:Wr W lo hi n H L):Wr W' lo hi n H L:=
 ⟨λi hi'=>nW k (λg e e2=>by have h1:=h.hi i hi' g e;have h2:=aS (h.own i hi') g e;have h3:=hb g e2.symm;omega) (h.own i hi'),h.hi,h.ne⟩
def Wr.grOut (k:W.grownBy W' v.ownBlock)(hne:∀i,i<n->ay v (H i))(h:Wr W lo hi n H L):Wr W' lo hi n H L:=
 ⟨λi hi'=>nW k (λg e e2=>hne i hi' g e2.symm e) (h.own i hi'),h.hi,h.ne⟩
def ad4:=@Wr.grOut
def Wr.putOut {b:Nat}(k:ee W W' b)(hne:∀i,i<n->(H i).ownBlock≠some b)(h:Wr W lo hi n H L):Wr W' lo hi n H L:=
 ⟨λi hi'=>aw k (hne i hi') (h.own i hi'),h.hi,h.ne⟩
def Wr.mono (hl:hi<=hi')(h:Wr W lo hi n H L):Wr W lo hi' n H L:=⟨h.own,λi hi g e=>qb1 (h.hi i hi g e) hl,h.ne⟩
def Wr.top (h:Wr W lo hi n H L):Wr W lo W.heap.size n H L:=⟨h.own,λi hi g e=>dr (h.own i hi) g e,h.ne⟩
def Wr.hdr (h:Wr W lo hi n H L)(hi:i<n):H i=.slice (sA (H i)) (L i).length (sC (H i)):=dk (h.own i hi)
def Wr.elem (h:Wr W lo hi n H L)(hi:i<n)(hk:k<(L i).length):
 sA (H i)=some ⟨bJ (sA (H i)),ei (sA (H i)),none⟩/\∀j u,[S (ao (L i) k).1,S (ao (L i) k).2][j]?=some u->W.cell? ⟨bJ (sA (H i)),ei (sA (H i))+k*2+j,none⟩=some u:=
 bD (fE (h.own i hi)) hk
def Wr.mt (h:Wr W lo hi n H L)(ho:Rw W lo A ((List.range n).map H)):Mt W lo A n H L:=⟨ho,λi hi=>h.hdr hi,λi hi=>fE (h.own i hi),λi hi=>lH (h.own i hi)⟩
def Wr.congr {L':Nat->List R}(h:Wr W lo hi n H L)(hL:∀i,i<n->L i=L' i):Wr W lo hi n H L':=
 ⟨λi hi=>by rw[<-hL i hi];exact h.own i hi,h.hi,h.ne⟩
def Wr.push {r:Value}{l:List R}(h:Wr W lo hi n H L)(hr:W.ownsRow lo 33 2 r l.length (ag l))(hne:∀i,i<n->ay r (H i)):Wr W lo W.heap.size (n+1) (bO H n r) (bO L n l):=by
 refine⟨λi hi=>?_,λi hi g e=>?_,λi j hi _ E=>?_⟩
 · by_cases e:i=n
   · subst e;rw[bj,bj];exact hr
   · rw[bm _ _ e,bm _ _ e];exact h.own i U
 · by_cases e':i=n
   · subst e';rw[bj]at e;exact dr hr g e
   · rw[bm _ _ e']at e;exact dr (h.own i U) g e
 · by_cases e:i=n
   · subst e;rw[bj,bm _ _ (Ne.symm E)];exact hne j U
   · by_cases e2:j=n
     · subst e2;rw[bj,bm _ _ e];exact aa5 (hne i U)
     · rw[bm _ _ e,bm _ _ e2];exact h.ne i j U U E
def ek {α:Type}(H:Nat->α)(n:Nat)(r:α):(List.range (n+1)).map (bO H n r)=(List.range n).map H++[r]:=by
 rw[List.range_succ,List.map_append]
 congr 1
 · exact List.map_congr_left λi hi=>bm _ _ (by have:=List.mem_range.1 hi;omega)
 · simp[bj]
def Wr.app {l':List R}(h:Wr W lo hi n H L)(hj:j<n)(hg:W.grownBy W' (H j).ownBlock)(ho:W'.ownsRow lo 33 2 v' l'.length (ag l'))(ha:v'.ownBlock=(H j).ownBlock\/v'.ownBlock=some W.heap.size):Wr W' lo W'.heap.size n (bO H j v') (bO L j l'):=by
 have hother:∀i,i<n->i≠j->W'.ownsRow lo 33 2 (H i) (L i).length (ag (L i)):=λi hi G=>
  ab3 (h.ne j i hj hi (Ne.symm G)) hg (h.own i hi)
 have O:∀i,i<n->i≠j->ay v' (H i):=λi hi G=>ab0 ha (h.ne j i hj hi (Ne.symm G)) (h.own i hi)
 refine⟨λi hi=>?_,λi hi g e=>?_,λi k hi hk E=>?_⟩
 · by_cases e:i=j
   · subst e;rw[bj,bj];exact ho
   · rw[bm _ _ e,bm _ _ e];exact hother i hi e
 · by_cases e':i=j
   · subst e';rw[bj]at e;exact dr ho g e
   · rw[bm _ _ e']at e;exact dr (hother i hi e') g e
 · by_cases e:i=j
   · subst e;rw[bj,bm _ _ (Ne.symm E)];exact O k hk (Ne.symm E)
   · by_cases e2:k=j
     · subst e2;rw[bj,bm _ _ e];exact aa5 (O i hi e)
     · rw[bm _ _ e,bm _ _ e2];exact h.ne i k hi hk E
def Wr.perm (f:Nat->Nat)(hf:∀i,i<n->f i<n)(hi':∀i j,i<n->j<n->f i=f j->i=j)(h:Wr W lo hi n H L):Wr W lo hi n (λi=>H (f i)) (λi=>L (f i)):=
 ⟨λi hi=>h.own _ (hf i hi),λi hi=>h.hi _ (hf i hi),λi j hi E G=>h.ne _ _ (hf i hi) (hf j E) (λe=>G (hi' i j hi E e))⟩
def Wr.far (h:Wr W lo hi n H L)(hr:W.ownsRow base t sz v k cs)(hb:hi<=base):∀i,i<n->ay v (H i):=
 λi hi' g e e2=>by have h1:=h.hi i hi' g e2;have h2:=aS hr g e;omega
def dX {r:Value}(h:∀i,i<n->ay v (H i))(hr:ay v r):∀i,i<n+1->ay v (bO H n r i):=λi hi=>by
 by_cases e:i=n
 · subst e;rw[bj];exact hr
 · rw[bm _ _ e];exact h i U
end
def J3 {n d:Int}(hn:fits n=true)(hd:fits d=true)(hg:Int.gcd n d=1)(hp:0<d):bN (ae n,ae d)=true:=by
 unfold bN
 have h2:=br hd
 have h1:=br hn
 show(isInt (ae n)&&isInt (ae d)&& !decide (dT (ae d) [48]<=0)&&decide (bV (ae n) (ae d)=some [49]))=true
 rw[h1,h2]
 have h3:¬dT (ae d) [48]<=0:=by
  rw[gU h2,dh,aJ];omega
 have h4:bV (ae n) (ae d)=some [49]:=by
  unfold bV
  rw[h1,h2,Bool.and_self,if_pos Z,aJ,aJ,hg]
  decide +kernel
 simp[h3,h4]
def uJ {n d:Int}{q:R}(hn:fits n=true)(hd:fits d=true)(h:im n d=some q):bN q=true:=by
 unfold im at h
 by_cases h0:d=0
 · rw[if_pos h0]at h;cases h
 · rw [if_neg h0]at h
   cases h
   have G:0<Int.gcd n d:=Int.gcd_pos_of_ne_zero_right _ h0
   have hc:=Int.gcd_ediv_gcd_ediv_gcd G
   obtain⟨g,hgg⟩:∃g:Nat,Int.gcd n d=g:=⟨_,rfl⟩
   rw[hgg]at hc G
   have O:(g:Int)∣n:=by rw[<-hgg];exact Int.gcd_dvd_left ..
   have E:(g:Int)∣d:=by rw[<-hgg];exact Int.gcd_dvd_right ..
   have A0:fits (n/(g:Int))=true:=kf hn (kg _ _ U O)
   have Af:fits (d/(g:Int))=true:=kf hd (kg _ _ U E)
   have Ap:d/(g:Int)≠0:=λe=>h0 (by have:=Int.mul_ediv_cancel' E;rw[e]at this;omega)
   unfold eh dn
   rw[hgg]
   by_cases hs:d<0
   · rw[if_pos hs,if_pos hs,Int.neg_ediv_of_dvd O,Int.neg_ediv_of_dvd E]
     have Am:d/(g:Int)<0:=by
      have:=Int.mul_ediv_cancel' E
      refine Int.lt_of_not_ge λAb=>?_
      have Ao:0<=(g:Int)*(d/(g:Int)):=Int.mul_nonneg U Ab
      omega
     refine J3 ?_ ?_ ?_ U
     · unfold fits at *;rwa [Int.natAbs_neg]
     · unfold fits at *;rwa [Int.natAbs_neg]
     · rw[Int.neg_gcd,Int.gcd_neg];exact hc
   · rw[if_neg hs,if_neg hs]
     have Am:0<=d/(g:Int):=Int.ediv_nonneg U U
     exact J3 A0 Af hc U
def pK {n d:Int}{q:R}(h:io n d=some q):bN q=true:=by
 unfold io at h
 cases h1:fits n with
 |false=>rw[h1]at h;simp at h
 | true=>
   cases h2:fits d with
   |false=>rw[h1,h2]at h;simp at h
   |true=>rw[h1,h2,Bool.and_self,if_pos Z]at h;exact uJ h1 h2 h
def Fe {a b q:R}(h:fe a b=some q):bN q=true:=by unfold fe at h;split at h <;>first|exact pK h|cases h
def Ff {a b q:R}(h:lF a b=some q):bN q=true:=by unfold lF at h;split at h <;>first|exact pK h|cases h
def Fg {a b q:R}(h:jR a b=some q):bN q=true:=by
 unfold jR at h;split at h
 · split at h <;>first|exact pK h|cases h
 · cases h
def yu {a b q:R}(h:dI a b=some q):bN q=true:=by
 unfold dI at h;split at h
 · split at h <;>first|exact pK h|cases h
 · cases h
def OP {n d:List UInt8}{q:R}(h:qW n d=some q):bN q=true:=by
 unfold qW at h
 split at h
 · rename_i hh
   simp only[Bool.and_eq_true]at hh
   exact uJ (e9 hh.1) (e9 hh.2) h
 · cases h
def OQ {a:R}(h:bN a=true):a.1.length<=1000000/\a.2.length<=1000000:=by
 have h1:=(kS (jt h)).2
 have h2:=(kS (gD h)).2
 omega
def Ug {a:R}(h:bN a=true):(dI ([48],[49]) a).isSome=true:=by
 have O:aj [48]=0:=by decide +kernel
 have ho:aj [49]=1:=by decide +kernel
 unfold dI
 rw[uz,h,Bool.and_self,if_pos Z]
 simp only[O,ho,Int.zero_mul,Int.mul_one,Int.one_mul,Int.zero_sub]
 have G:fits 0=true:=by decide +kernel
 have f1:=e9 (jt h)
 have f2:=e9 (gD h)
 have E:fits (-aj a.1)=true:=by unfold fits at *;rwa [Int.natAbs_neg]
 rw[G,f1,Bool.and_self,if_pos Z]
 unfold io
 rw[E,f2,Bool.and_self,if_pos Z]
 unfold im
 rw[if_neg (by have:=c7 h;omega)]
 rfl
def z0:R:=([48],[49])
def o1:R:=([49],[49])
abbrev Rows:=Nat->List R
def mS (r:Nat)(pv:R):Nat->Nat->Rows->Option Rows
 |0,_,L=>some L
 | f+1,k,L=>match lF (ao (L r) k) pv with
   |none=>none
   |some q=>mS r pv f (k+1) (bO L r ((L r).set k q))
def mh (r i:Nat)(by_:R):Nat->Nat->Rows->Option Rows
 |0,_,L=>some L
 | f +1,k,L=>match fe by_ (ao (L r) k)with
   |none=>none
   | some p=>match dI (ao (L i) k) p with
     |none=>none
     |some d=>mh r i by_ f (k+1) (bO L i ((L i).set k d))
def ky (m r c:Nat):Nat->Nat->Rows->Option Rows
 |0,_,L=>some L
 | f+1,i,L=>if i=r\/ao (L i) c=z0 then ky m r c f (i+1) L else match mh r i (ao (L i) c) (m-c) c L with
   |none=>none
   |some L'=>ky m r c f (i+1) L'
def iI (c:Nat)(L:Rows):Nat->Nat->Nat
 |0,p=>p
 |f+1,p=>if ao (L p) c=z0 then iI c L f (p+1)else p
def sT (c:Nat)(L:Rows):∀(f p:Nat),p<=iI c L f p/\iI c L f p<=p+f
 |0,p=>⟨qa0 _,qa0 _⟩
 | f+1,p=>by
   unfold iI
   split
   · have:=sT c L f (p+1);omega
   · omega
def sn (p r i:Nat):Nat:=if i=p then r else if i=r then p else i
def nU (p r:Nat)(L:Rows):Rows:=λi=>L (sn p r i)
structure El where
 L:Rows
 piv:List R
 cols:List Nat
 sw:Nat
def pL (n m c:Nat)(s:El):Option El:=
 if iI c s.L (n-s.piv.length) s.piv.length=n then some s
 else match mS s.piv.length (ao (s.L (iI c s.L (n-s.piv.length) s.piv.length)) c) (m-c) c (nU (iI c s.L (n-s.piv.length) s.piv.length) s.piv.length s.L)with
  |none=>none
  | some L2=>match ky m s.piv.length c n 0 L2 with
    |none=>none
    |some L3=>some ⟨L3,s.piv++[ao (s.L (iI c s.L (n-s.piv.length) s.piv.length)) c],s.cols++[c],if iI c s.L (n-s.piv.length) s.piv.length=s.piv.length then s.sw else s.sw+1⟩
def iq (n m:Nat):Nat->Nat->El->Option El
 |0,_,s=>some s
 | f+1,c,s=>match pL n m c s with
   |none=>none
   |some s'=>iq n m f (c+1) s'
def elim (n m cols:Nat)(L:Rows):Option El:=iq n m cols 0 ⟨L,[],[],0⟩
def fH (n m:Nat)(L:Rows):Prop:=∀i,i<n->(L i).length=m/\∀k,k<m->bN (ao (L i) k)=true
def pM {l:List R}{q:R}(hk:k<l.length):ao (l.set k q) j=if j=k then q else ao l j:=by
 unfold ao
 rw[List.getD,List.getD,List.getElem?_set]
 by_cases h:k=j
 · subst h;simp[hk]
 · simp[h,Ne.symm h]
def fH.set {m:Nat}{L:Rows}{q:R}(h:fH n m L)(hk:k<m)(hi:i<n)(hq:bN q=true):fH n m (bO L i ((L i).set k q)):=by
 intro j E
 by_cases e:j=i
 · subst e
   rw[bj]
   refine⟨by rw[List.length_set];exact(h j E).1,λk' G=>?_⟩
   rw[pM (by rw[(h j E).1];exact hk)]
   split
   · exact hq
   · exact(h j E).2 k' G
 · rw[bm _ _ e];exact h j E
def fH.sw {m r:Nat}{L:Rows}(h:fH n m L)(hp:p<n)(hr:r<n):fH n m (nU p r L):=by
 intro i hi
 refine h _ ?_
 unfold sn
 split
 · exact hr
 · split
   · exact hp
   · exact hi
def uK {r:Nat}(hp:p<n)(hr:r<n)(hi:i<n):sn p r i<n:=by
 unfold sn;split
 · exact hr
 · split <;>omega
def OR {r:Nat}(h:sn p r i=sn p r j):i=j:=by
 unfold sn at h
 split at h <;>split at h <;>(try split at h) <;>(try split at h) <;>omega
def J4 (r i:Nat):sn r r i=i:=by unfold sn;split <;>(try split) <;>omega
def pO (r:Nat)(L:Rows):nU r r L=L:=funext λi=>by unfold nU;rw[J4]
section steps
variable {r c m cols:Nat}{pv q by_ d:R}{L L1 L2 L3:Rows}{T:Option Rows}{E:Option El}{piv:List R}{cs:List Nat}{sw sw':Nat}
def jz (h:k<m):m-k=(m-(k+1))+1:=J
def GR (hk:k<m)(h:mS r pv (m-k) k L=T)(hd:lF (ao (L r) k) pv=some q):mS r pv (m-(k+1)) (k+1) (bO L r ((L r).set k q))=T:=by
 rw[jz hk]at h;unfold mS at h;rw[hd]at h;exact h
def GT (hk:k<m)(h:mS r pv (m-k) k L=T)(hd:lF (ao (L r) k) pv=none):T=none:=by
 rw[jz hk]at h;unfold mS at h;rw[hd]at h;exact h.symm
def J5 (hk:¬k<m)(h:mS r pv (m-k) k L=T):T=some L:=by
 rw[show m-k=0 by omega]at h;exact h.symm
def GU (hk:k<m)(h:mh r i by_ (m-k) k L=T)(hp:fe by_ (ao (L r) k)=some q)(hd:dI (ao (L i) k) q=some d):mh r i by_ (m-(k+1)) (k+1) (bO L i ((L i).set k d))=T:=by
 rw[jz hk]at h;unfold mh at h;rw[hp]at h;dsimp only at h;rw[hd]at h;exact h
def Dj (hk:k<m)(h:mh r i by_ (m-k) k L=T)(hp:fe by_ (ao (L r) k)=none):T=none:=by
 rw[jz hk]at h;unfold mh at h;rw[hp]at h;exact h.symm
def Dk (hk:k<m)(h:mh r i by_ (m-k) k L=T)(hp:fe by_ (ao (L r) k)=some q)(hd:dI (ao (L i) k) q=none):T=none:=by
 rw[jz hk]at h;unfold mh at h;rw[hp]at h;dsimp only at h;rw[hd]at h;exact h.symm
def J6 (hk:¬k<m)(h:mh r i by_ (m-k) k L=T):T=some L:=by
 rw[show m-k=0 by omega]at h;exact h.symm
def wW (hi:i<n)(h:ky m r c (n-i) i L=T)(hs:i=r\/ao (L i) c=z0):ky m r c (n-(i+1)) (i+1) L=T:=by
 rw[jz hi]at h;unfold ky at h;rw[if_pos hs]at h;exact h
def GV (hi:i<n)(h:ky m r c (n-i) i L=T)(hs1:¬i=r)(hs2:¬ao (L i) c=z0)(hd:mh r i (ao (L i) c) (m-c) c L=some L1):ky m r c (n-(i+1)) (i+1) L1=T:=by
 rw[jz hi]at h;unfold ky at h;rw[if_neg (by rintro(h|h) <;>contradiction),hd]at h;exact h
def wX (hi:i<n)(h:ky m r c (n-i) i L=T)(hs1:¬i=r)(hs2:¬ao (L i) c=z0)(hd:mh r i (ao (L i) c) (m-c) c L=none):T=none:=by
 rw[jz hi]at h;unfold ky at h;rw[if_neg (by rintro(h|h) <;>contradiction),hd]at h;exact h.symm
def J7 (hi:¬i<n)(h:ky m r c (n-i) i L=T):T=some L:=by
 rw[show n-i=0 by omega]at h;exact h.symm
def sU (h:L1=nU p r L):L1 r=L p:=by
 rw[h];unfold nU sn;split <;>simp_all
def OS (hc:c<cols)(h:iq n m (cols-c) c ⟨L,piv,cs,sw⟩=E)(hp:iI c L (n-piv.length) piv.length=n):iq n m (cols-(c+1)) (c+1) ⟨L,piv,cs,sw⟩=E:=by
 rw[jz hc]at h;unfold iq pL at h;rw[if_pos hp]at h;exact h
def J8 (hc:c<cols)(h:iq n m (cols-c) c ⟨L,piv,cs,sw⟩=E)(hp:iI c L (n-piv.length) piv.length=p)(hpn:p<n)(hL1:L1=nU p piv.length L)(hd:mS piv.length (ao (L1 piv.length) c) (m-c) c L1=none):E=none:=by
 rw[jz hc]at h;unfold iq pL at h
 dsimp only at h
 rw[hp,if_neg U,<-hL1,<-sU hL1,hd]at h;exact h.symm
def AQ (hc:c<cols)(h:iq n m (cols-c) c ⟨L,piv,cs,sw⟩=E)(hp:iI c L (n-piv.length) piv.length=p)(hpn:p<n)(hL1:L1=nU p piv.length L)(hd:mS piv.length (ao (L1 piv.length) c) (m-c) c L1=some L2)(hcl:ky m piv.length c n 0 L2=none):E=none:=by
 rw[jz hc]at h;unfold iq pL at h
 dsimp only at h
 rw[hp,if_neg U,<-hL1,<-sU hL1,hd]at h
 dsimp only at h
 rw[hcl]at h;exact h.symm
def OT (hc:c<cols)(h:iq n m (cols-c) c ⟨L,piv,cs,sw⟩=E)(hp:iI c L (n-piv.length) piv.length=p)(hpn:p<n)(hL1:L1=nU p piv.length L)(hsw:sw'=if p=piv.length then sw else sw+1)(hd:mS piv.length (ao (L1 piv.length) c) (m-c) c L1=some L2)(hcl:ky m piv.length c n 0 L2=some L3):
 iq n m (cols-(c+1)) (c+1) ⟨L3,piv++[ao (L1 piv.length) c],cs++[c],sw'⟩=E:=by
 rw[jz hc]at h;unfold iq pL at h
 dsimp only at h
 rw[hp,if_neg U,<-hL1,<-sU hL1,hd]at h
 dsimp only at h
 rw[hcl,<-hsw]at h;exact h
def Uh (hc:¬c<cols){s:El}(h:iq n m (cols-c) c s=E):E=some s:=by
 rw[show cols-c=0 by omega]at h;exact h.symm
end steps
def g36:prog.eqGuardType prog.depth 33=false:=by kernel_rfl
def Zn:prog.stoodInHeld 33=false:=by kernel_rfl
def Fh (w:World)(cs:Array Value)(i:Nat)(v:Value)(h:cs[i]?=some v):(part 9 cs i).run prog w=.ok v w:=by
 unfold part
 simp[isAgg,run_underlying underlying9,h]
def eq9 (w:World)(a b:List UInt8)(d:Nat):(Op.equalIn (d+1) 9 (S a) (S b)).run prog w=.ok (decide (a=b)) w:=by
 unfold Op.equalIn
 simp[run_underlying underlying9,S]
 have h:∀x y:ByteArray,(x==y)=(x.data==y.data):=λx y=>by cases x;cases y;rfl
 rw[h]
 exact Bool.eq_iff_iff.2 Rg
def Xq (w:World)(a b:R):(Op.equal 33 (.agg #[S a.1,S a.2]) (.agg #[S b.1,S b.2])).run prog w=.ok (decide (a=b)) w:=by
 unfold Op.equal Op.maxDepth
 show(Op.equalIn (9998+1+1) 33 _ _).run _ _=_
 unfold Op.equalIn
 obtain⟨a1,G⟩:=a
 obtain⟨b1,b2⟩:=b
 have O:=Fh w #[S a1,S G] 0 (S a1) Z
 have p2:=Fh w #[S a1,S G] 1 (S G) Z
 have p3:=Fh w #[S b1,S b2] 0 (S b1) Z
 have p4:=Fh w #[S b1,S b2] 1 (S b2) Z
 have e1:=eq9 w a1 b1 9998
 have e2:=eq9 w G b2 9998
 simp[run_underlying underlying33,Zn,O,p2,p3,p4,e1,e2]
 by_cases h1:a1=b1 <;>by_cases h2:G=b2 <;>simp[h1,h2]
section
variable {r:Option Nat}{ds:List Deferred}{Q:Exit->Act->World->Prop}{K:Act->World->Prop}
variable {ty:Nat}{pos:String}{af:Array Edge}{g:Option (Nat×Bool)}{x y:Operand}{t':TypeId}
def Fj {op:BinOp}(x y:Operand)(a b:Array Value):(eqGuard op 33 x y (.agg a) (.agg b)).run prog w=.ok () w:=by
 unfold eqGuard
 cases op <;>simp[g36]
def yv {a b:R}(hx:ev N e x=.agg #[S a.1,S a.2])(hy:ev N e y=.agg #[S b.1,S b.2])(hq:decide (a=b)=q)(hk:K (act N (upd e d (.bool q)) ds) w):
 Oper.wpIn (Fw r) n prog ⟨some d,.binOp .eql 33 x y t',ty,pos,af,g⟩ (act N e ds) w K Q:=
 dR hx hy (Fj ..) (by subst hq;simp[binOp,Xq]) hk
def qY {a b:R}(hx:ev N e x=.agg #[S a.1,S a.2])(hy:ev N e y=.agg #[S b.1,S b.2])(hq:(!decide (a=b))=q)(hk:K (act N (upd e d (.bool q)) ds) w):
 Oper.wpIn (Fw r) n prog ⟨some d,.binOp .neq 33 x y t',ty,pos,af,g⟩ (act N e ds) w K Q:=
 dR hx hy (Fj ..) (by subst hq;simp[binOp,Xq]) hk
end
def take_set {α:Type}(l:List α)(m i:Nat)(a:α)(h:i<m):(l.set i a).take m=(l.take m).set i a:=by
 rw[List.take_set]
def uL:∀(l:List R) (k:Nat) (q:R),((ag l).set (k*2) (S q.1)).set (k*2+1) (S q.2)=ag (l.set k q)
 |[],k,q=>by simp[ag]
 |a::t,0,q=>by simp[ag]
 | a::t,k+1,q=>by
   have ih:=uL t k q
   rw[show(k+1)*2=k*2+2 by omega,show k*2+2+1=k*2+1+2 by omega]
   simp only[ag,List.flatMap_cons,List.cons_append,List.nil_append,List.set_cons_succ]at ih ⊢
   rw[ih]
def J9 {l:List R}{q:R}(h:W.ownsRow lo t 2 v n (ag l))(hl:l.length=n)(hk:k<n):
 ∃cur,ar W (bJ (sA v)) t cur/\ei (sA v)=0/\k*2+2<=cur.size/\v.ownBlock=some (bJ (sA v))/\∀W',ar W' (bJ (sA v)) t (putCells cur (k*2) [S q.1,S q.2])->W'.ownsRow lo t 2 v (l.set k q).length (ag (l.set k q)):=by
 obtain⟨h1,⟨rfl,A0⟩|⟨g,cap,cur,rfl,G,O,hc,hm,hs,ht⟩⟩:=h
 · omega
 · refine⟨cur,O,rfl,by omega,rfl,λW' hB=>?_⟩
   rw[List.length_set,hl]
   refine⟨by rw[kaA,List.length_set,hl],.inr ⟨g,cap,_,rfl,G,hB,hc,hm,?_,?_⟩⟩
   · simp[putCells,hs]
   · show((cur.setIfInBounds (k*2) (S q.1)).setIfInBounds (k*2+1) (S q.2)).toList.take (n*2)=_
     rw[Array.toList_setIfInBounds,Array.toList_setIfInBounds,List.take_set,List.take_set,ht,uL]
section
variable {r:Option Nat}{ds:List Deferred}{Q:Exit->Act->World->Prop}{K:Act->World->Prop}
variable {ty:Nat}{pos:String}{af:Array Edge}{g:Option (Nat×Bool)}{x y:Operand}
def mT {hi m:Nat}{L:Nat->List R}{q:R}(h:Wr w lo hi m H L)(hi':i<m)(hk:k<(L i).length)(hs:(prog.info? t).map (·.size)=some 2)(hx:ev N e x=.pointer (some ⟨bJ (sA (H i)),ei (sA (H i))+k*2,none⟩))(hy:ev N e y=.agg #[S q.1,S q.2])(hK:∀w',ee w w' (bJ (sA (H i)))->lo<=bJ (sA (H i))->bJ (sA (H i))<hi->(H i).ownBlock=some (bJ (sA (H i)))->Wr w' lo hi m H (bO L i ((L i).set k q))->K (act N e ds) w'):
 Oper.wpIn (Fw r) n prog ⟨none,.store t x y,ty,pos,af,g⟩ (act N e ds) w K Q:=by
 obtain⟨Ao,hB,Am,Af,G,Ab⟩:=J9 (q:=q) (h.own i hi') Z hk
 rw[Am,Nat.zero_add]at hx
 refine aZ (vs:=[S q.1,S q.2]) (cs:=Ao) hs hx hy (by simp[S,Value.oneCell']) hB Af (λw' O hB'=>hK w' O (aS (h.own i hi') _ G) (h.hi i hi' _ G) G ?_)
 refine⟨λj A0=>?_,h.hi,h.ne⟩
 by_cases hji:j=i
 · subst hji;rw[bj];exact Ab w' hB'
 · rw[bm _ _ hji]
   exact aw O (λe=>h.ne i j hi' A0 (Ne.symm hji) _ G e) (h.own j A0)
end
def Ho (W:World)(A:Option Addr)(n:Nat)(H:Nat->Value):Prop:=∃g cur,A=some ⟨g,0,none⟩/\ar W g 28 cur/\n<=cur.size/\∀i,i<n->cur[i]?=some (H i)
section
variable {W':World}
def Ho.ext (k:aO W W')(h:Ho W A n H):Ho W' A n H:=by
 obtain⟨g,G,h1,h2,h3⟩:=h;exact⟨g,G,h1,h2.ext k,h3⟩
def ac1:=@Ho.ext
def Ho.put {b:Nat}(k:ee W W' b)(hb:bJ A≠b)(h:Ho W A n H):Ho W' A n H:=by
 obtain⟨g,G,rfl,h2,h3⟩:=h;exact⟨g,G,rfl,ab1 k hb h2,h3⟩
def Ho.gr {row:Option Nat}(k:W.grownBy W' row)(hb:some (bJ A)≠row)(h:Ho W A n H):Ho W' A n H:=by
 obtain⟨g,G,rfl,h2,h3⟩:=h;exact⟨g,G,rfl,aa2 k hb h2,h3⟩
def Ho.cell (h:Ho W A n H)(hi:i<n):A=some ⟨bJ A,ei A,none⟩/\W.cell? ⟨bJ A,ei A+i,none⟩=some (H i):=by
 obtain⟨g,G,rfl,h2,_,h4⟩:=h
 exact⟨rfl,h2.cell (by show G[0+i]?=_;rw[Nat.zero_add];exact h4 i hi)⟩
def Ho.rw (h:Ho W A n H)(hl:lo<=bJ A):Rw W lo A ((List.range n).map H):=by
 obtain⟨g,_,rfl,h2,_,h4⟩:=h
 refine⟨λj u hu=>⟨g,0,rfl,?_⟩,λO e=>by cases e;exact hl,λO e=>by cases e;exact h2.lt⟩
 have G:j<n:=by have:=(List.getElem?_eq_some_iff.1 hu).1;simpa using this
 rw[Nat.zero_add]
 refine h2.cell ?_
 rw[h4 j G]
 rw[List.getElem?_map,List.getElem?_range G]at hu
 simpa using hu
def Ho.of_own (h:W.ownsRow lo 28 1 v n ((List.range n).map H))(hn:0<n):Ho W (sA v) n H/\lo<=bJ (sA v)/\v.ownBlock=some (bJ (sA v)):=by
 obtain⟨h1,⟨rfl,Ab⟩|⟨g,cap,G,rfl,O,A0,hc,hm,hs,ht⟩⟩:=h
 · omega
 · refine⟨⟨g,G,rfl,A0,by omega,λi hi=>?_⟩,O,rfl⟩
   have h2:(G.toList.take (n*1))[i]?=((List.range n).map H)[i]?:=by rw[ht]
   rw[List.getElem?_take,if_pos U,List.getElem?_map,List.getElem?_range hi]at h2
   simpa using h2
def Ho.congr (h:Ho W A n H)(hL:∀i,i<n->H i=H' i):Ho W A n H':=by
 obtain⟨g,G,h1,h2,h3,h4⟩:=h
 exact⟨g,G,h1,h2,h3,λi hi=>by rw[<-hL i hi];exact h4 i hi⟩
end
section
variable {r:Option Nat}{ds:List Deferred}{Q:Exit->Act->World->Prop}{K:Act->World->Prop}
variable {ty:Nat}{pos:String}{af:Array Edge}{g:Option (Nat×Bool)}{x y:Operand}
def kU {m:Nat}(h:Ho w A m H)(hi:i<m)(hs:(prog.info? t).map (·.size)=some 1)(hx:ev N e x=.pointer (some ⟨bJ A,ei A+i,none⟩))(hy:ev N e y=v)(h1:v.oneCell'=true)(hK:∀w',ee w w' (bJ A)->Ho w' A m (bO H i v)->K (act N e ds) w'):Oper.wpIn (Fw r) n prog ⟨none,.store t x y,ty,pos,af,g⟩ (act N e ds) w K Q:=by
 obtain⟨G,A0,rfl,h2,h3,h4⟩:=h
 have hx':ev N e x=.pointer (some ⟨G,i,none⟩):=by rw[hx];simp[bJ,ei]
 refine cJ (cs:=A0) hs hx' hy h1 h2 U (λw' O hB=>hK w' O ⟨G,_,rfl,hB,by rw[Array.size_setIfInBounds];exact h3,λj Ab=>?_⟩)
 by_cases hji:j=i
 · subst hji;rw[bj,Array.getElem?_setIfInBounds,if_pos Z,if_pos U]
 · rw[bm _ _ hji,Array.getElem?_setIfInBounds,if_neg (Ne.symm hji)];exact h4 j Ab
end
def jd (f:Nat->Value)(h1:v.oneCell'=true):Instr.fill (λi=>some (i*1,1)) ((Array.range 1).map f) [(0,v)]=some #[v]:=by
 have hc:v.cells=#[v]:=by cases v <;>first|rfl|(simp[Value.oneCell']at h1;done)
 have hr:(Array.range 1).map f=#[f 0]:=by apply Array.ext';simp[Array.range]
 unfold Instr.fill
 rw[hr,hc]
 simp[Instr.fill]
end
section
set_option maxRecDepth 100000
open Go Go.Eng Go.RowKit Tryz
attribute [local irreducible] wpListIn Code.wpIn Oper.wpIn Exit.then Exit.inBlock Exit.noGoto
set_option maxHeartbeats 40000000
abbrev PN:List PanicEntry:=pan 36 130
def Dl (a:R):Prop:=a.1.length<=1000000/\a.2.length<=1000000
def sW {a:R}(h:bN a=true):Dl a:=OQ h
def Rx (a b:R)(w:World)(ht:Tb w):CL 312 #[.agg #[S a.1,S a.2],.agg #[S b.1,S b.2]] w (aH w λv _=>v=gY (jR a b)):=OE a.1 a.2 b.1 b.2 w ht
def Ka (a b:R)(w:World)(ht:Tb w):CL 117 #[.agg #[S a.1,S a.2],.agg #[S b.1,S b.2]] w (aH w λv _=>v=gY (dI a b)):=E2 a.1 a.2 b.1 b.2 w ht
def Kb (a b:R)(w:World)(ht:Tb w):CL 13 #[.agg #[S a.1,S a.2],.agg #[S b.1,S b.2]] w (aH w λv _=>v=gY (fe a b)):=OA a.1 a.2 b.1 b.2 w ht
def Kc (a b:R)(w:World)(ht:Tb w):CL 15 #[.agg #[S a.1,S a.2],.agg #[S b.1,S b.2]] w (aH w λv _=>v=gY (lF a b)):=OB a.1 a.2 b.1 b.2 w ht
def lI (a:R)(c:Int)(w:World)(h:c=0):
 CL 311 #[.agg #[S ((a).1),S ((a).2)],.int .i64 c] w (aH w λv w'=>v=.agg #[S a.1,S a.2]):=by
 refine aD func311 Z (I ?_);refine bx (λAb Ao G=>?_);have E4:=Ao.2;refine al aU (λ_ Af A0=>?_);have⟨G,E4⟩:=bo Af.2 G E4;refine I ?_;refine SA A0 (λ_ O Am=>?_);have G:=pb O G;have E4:=bi O E4;refine I ?_;refine aW (v:=.agg #[S ((a).1),S ((a).2)]) (ci  rfl ?_) E4 Z;refine ai (t:=4) (cs:=[S ((a).1),S ((a).2)]) (b:=Ab.heap.size) (o:=0) iW Z b8 ?_ ?_;exact Z;exact aa0 Am (i:=0) Z
def ki (a:R)(c:Int)(w:World)(h:¬c=0):CL 311 #[.agg #[S a.1,S a.2],.int .i64 c] w (fq PN w):=by
 refine iZ func311 Z (I ?_);refine bx (λ_ O _=>?_);have E14:=O.2;refine al aU (λ_ G _=>?_);have E14:=xt E14 G.2;refine I ?_;refine aa (jv (v:=.int .i64 130) BY Z Z ?_);refine aa (Ez (ty':=36) (u:=.int .i64 130) Z ?_);refine I ?_;exact gC ⟨E14,rfl⟩
def kV : ew prog 106 "yardstick/linear.zero" 134 := kM Hx
def Fl : ew prog 106 "yardstick/linear.one" 309 := kM Hx
def yw : ew prog 106 "yardstick/linear.add" 306 := kM Hx
def pP : ew prog 106 "yardstick/linear.sub" 310 := kM Hx
def kj : ew prog 106 "yardstick/linear.mul" 308 := kM Hx
def yx : ew prog 106 "yardstick/linear.div" 307 := kM Hx
def lJ (w:World):
 CL 134 #[.agg #[]] w (aH w λv w'=>v=.agg #[S z0.1,S z0.2]):=by
 refine aD func134 Z (I ?_);refine bx (λAo Af G=>?_);have E21:=Af.2;refine al aU (λ_ Am A0=>?_);have⟨G,E21⟩:=bo Am.2 G E21;refine I ?_;refine SA A0 (λ_ O Ab=>?_);have G:=pb O G;have E21:=bi O E21;refine I ?_;refine aW (v:=.agg #[S [48],S [49]]) (ci  rfl ?_) E21 Z;refine ai (t:=2) (cs:=[S [48],S [49]]) (b:=Ao.heap.size) (o:=0) iW Z b8 ?_ ?_;exact Z;exact aa0 Ab (i:=0) Z
def Kd (w:World):
 CL 309 #[.agg #[]] w (aH w λv w'=>v=.agg #[S o1.1,S o1.2]):=by
 refine aD func309 Z (I ?_);refine bx (λA0 Am G=>?_);have E31:=Am.2;refine al aU (λ_ Ab Ao=>?_);have⟨G,E31⟩:=bo Ab.2 G E31;refine I ?_;refine SA Ao (λ_ O Af=>?_);have G:=pb O G;have E31:=bi O E31;refine I ?_;refine aW (v:=.agg #[S [49],S [49]]) (ci  rfl ?_) E31 Z;refine ai (t:=2) (cs:=[S [49],S [49]]) (b:=A0.heap.size) (o:=0) iW Z b8 ?_ ?_;exact Z;exact aa0 Af (i:=0) Z
def GW (a b q:R)(w:World)(ht:Tb w)(hT:jR a b=some q):CL 306 #[.agg #[],.agg #[S ((a).1),S ((a).2)],.agg #[S ((b).1),S ((b).2)]] w (aH w λv w'=>v=.agg #[S q.1,S q.2]):=by
 refine aD func306 Z (I ?_);refine bx (λAy Av G=>?_);have E41:=Av.2;refine bx (λC0 Ar O=>?_);have⟨G,E41⟩:=bo Ar.2 G E41;refine bx (λAo Am A0=>?_);have⟨G,O,E41⟩:=ca Am.2 G O E41;refine al aU (λAz Aq Ab=>?_);have⟨G,O,A0,E41⟩:=fw Aq.2 G O A0 E41;refine I ?_;refine cl QZ (Rx a b _ (ht.ext E41)) ?_;rintro B2 B0 Aw hv;have⟨G,O,A0,Ab,E41⟩:=kC Aw.2 G O A0 Ab E41;rw[hT]at hv;subst hv;refine I ?_;refine cl rz (lI q 0 _ Z) ?_;rintro B1 Ax Ap rfl;have⟨G,O,A0,Ab,E41⟩:=kC Ap.2 G O A0 Ab E41;refine SA Ab (λCB Af As=>?_);have⟨G,O,A0⟩:=qm Af G O A0;have E41:=bi Af E41;refine I ?_;refine aW (v:=.agg #[S ((q).1),S ((q).2)]) (ci  rfl ?_) E41 Z;refine ai (t:=6) (cs:=[S ((q).1),S ((q).2)]) (b:=Ao.heap.size) (o:=0) iW Z b8 ?_ ?_;exact Z;exact aa0 As (i:=0) Z
def Dm (a b:R)(w:World)(ht:Tb w)(hT:jR a b=none):CL 306 #[.agg #[],.agg #[S ((a).1),S ((a).2)],.agg #[S ((b).1),S ((b).2)]] w (fq PN w):=by
 refine iZ func306 Z (I ?_);refine bx (λ_ A0 _=>?_);have E63:=A0.2;refine bx (λ_ Ab G=>?_);have E63:=xt E63 Ab.2;refine bx (λ_ Ao O=>?_);have⟨G,E63⟩:=bo Ao.2 G E63;refine al aU (λ_ Ap _=>?_);have⟨G,O,E63⟩:=ca Ap.2 G O E63;refine I ?_;refine cl QZ (Rx a b _ (ht.ext E63)) ?_;rintro _ _ Af hv;have E63:=xt E63 Af.2;rw[hT]at hv;subst hv;refine I ?_;refine aa (dQ (vs:=[.agg #[S [],S []],.int .i64 40]) rz Z (ki ([],[]) 40 _ dc) (λ_ Am=>?_));have E63:=xt E63 Am;refine I ?_;exact gC ⟨E63,rfl⟩
def Ke (a b:R)(w:World)(ht:Tb w):CL 306 #[.agg #[],.agg #[S ((a).1),S ((a).2)],.agg #[S ((b).1),S ((b).2)]] w (ji PN w (jR a b) λq v _=>v=.agg #[S q.1,S q.2]):=
 ji.of (λq h=>GW a b q w ht h) (λh=>Dm a b w ht h)
def GX (a b q:R)(w:World)(ht:Tb w)(hT:dI a b=some q):CL 310 #[.agg #[],.agg #[S ((a).1),S ((a).2)],.agg #[S ((b).1),S ((b).2)]] w (aH w λv w'=>v=.agg #[S q.1,S q.2]):=by
 refine aD func310 Z (I ?_);refine bx (λB0 As G=>?_);have E81:=As.2;refine bx (λAz Ap O=>?_);have⟨G,E81⟩:=bo Ap.2 G E81;refine bx (λAr Aq A0=>?_);have⟨G,O,E81⟩:=ca Aq.2 G O E81;refine al aU (λAx Aw Ab=>?_);have⟨G,O,A0,E81⟩:=fw Aw.2 G O A0 E81;refine I ?_;refine cl En (Ka a b _ (ht.ext E81)) ?_;rintro Ay CB Av hv;have⟨G,O,A0,Ab,E81⟩:=kC Av.2 G O A0 Ab E81;rw[hT]at hv;subst hv;refine I ?_;refine cl rz (lI q 0 _ Z) ?_;rintro B2 B1 Am rfl;have⟨G,O,A0,Ab,E81⟩:=kC Am.2 G O A0 Ab E81;refine SA Ab (λC0 Af Ao=>?_);have⟨G,O,A0⟩:=qm Af G O A0;have E81:=bi Af E81;refine I ?_;refine aW (v:=.agg #[S ((q).1),S ((q).2)]) (ci  rfl ?_) E81 Z;refine ai (t:=6) (cs:=[S ((q).1),S ((q).2)]) (b:=Ar.heap.size) (o:=0) iW Z b8 ?_ ?_;exact Z;exact aa0 Ao (i:=0) Z
def Dn (a b:R)(w:World)(ht:Tb w)(hT:dI a b=none):CL 310 #[.agg #[],.agg #[S ((a).1),S ((a).2)],.agg #[S ((b).1),S ((b).2)]] w (fq PN w):=by
 refine iZ func310 Z (I ?_);refine bx (λ_ Ab _=>?_);have G:=Ab.2;refine bx (λ_ Ao O=>?_);have G:=xt G Ao.2;refine bx (λ_ Af A0=>?_);have⟨O,G⟩:=bo Af.2 O G;refine al aU (λ_ Am _=>?_);have⟨O,A0,G⟩:=ca Am.2 O A0 G;refine I ?_;refine cl En (Ka a b _ (ht.ext G)) ?_;rintro _ _ Ap hv;have G:=xt G Ap.2;rw[hT]at hv;subst hv;refine I ?_;refine aa (dQ (vs:=[.agg #[S [],S []],.int .i64 40]) rz Z (ki ([],[]) 40 _ dc) (λ_ Aq=>?_));have G:=xt G Aq;refine I ?_;exact gC ⟨G,rfl⟩
def Do (a b:R)(w:World)(ht:Tb w):CL 310 #[.agg #[],.agg #[S ((a).1),S ((a).2)],.agg #[S ((b).1),S ((b).2)]] w (ji PN w (dI a b) λq v _=>v=.agg #[S q.1,S q.2]):=
 ji.of (λq h=>GX a b q w ht h) (λh=>Dn a b w ht h)
def GY (a b q:R)(w:World)(ht:Tb w)(hT:fe a b=some q):CL 308 #[.agg #[],.agg #[S ((a).1),S ((a).2)],.agg #[S ((b).1),S ((b).2)]] w (aH w λv w'=>v=.agg #[S q.1,S q.2]):=by
 refine aD func308 Z (I ?_);refine bx (λB1 Ap O=>?_);have G:=Ap.2;refine bx (λAz Aw A0=>?_);have⟨O,G⟩:=bo Aw.2 O G;refine bx (λAr Av Ab=>?_);have⟨O,A0,G⟩:=ca Av.2 O A0 G;refine al aU (λAy Ao Af=>?_);have⟨O,A0,Ab,G⟩:=fw Ao.2 O A0 Ab G;refine I ?_;refine cl zB (Kb a b _ (ht.ext G)) ?_;rintro B0 B2 As hv;have⟨O,A0,Ab,Af,G⟩:=kC As.2 O A0 Ab Af G;rw[hT]at hv;subst hv;refine I ?_;refine cl rz (lI q 0 _ Z) ?_;rintro Ax ny Aq rfl;have⟨O,A0,Ab,Af,G⟩:=kC Aq.2 O A0 Ab Af G;refine SA Af (λod Am nm=>?_);have⟨O,A0,Ab⟩:=qm Am O A0 Ab;have G:=bi Am G;refine I ?_;refine aW (v:=.agg #[S ((q).1),S ((q).2)]) (ci  rfl ?_) G Z;refine ai (t:=6) (cs:=[S ((q).1),S ((q).2)]) (b:=Ar.heap.size) (o:=0) iW Z b8 ?_ ?_;exact Z;exact aa0 nm (i:=0) Z
def Dp (a b:R)(w:World)(ht:Tb w)(hT:fe a b=none):CL 308 #[.agg #[],.agg #[S ((a).1),S ((a).2)],.agg #[S ((b).1),S ((b).2)]] w (fq PN w):=by
 refine iZ func308 Z (I ?_);refine bx (λ_ Ab _=>?_);have G:=Ab.2;refine bx (λ_ Ao O=>?_);have G:=xt G Ao.2;refine bx (λ_ Af A0=>?_);have⟨O,G⟩:=bo Af.2 O G;refine al aU (λ_ Am _=>?_);have⟨O,A0,G⟩:=ca Am.2 O A0 G;refine I ?_;refine cl zB (Kb a b _ (ht.ext G)) ?_;rintro _ _ Ap hv;have G:=xt G Ap.2;rw[hT]at hv;subst hv;refine I ?_;refine aa (dQ (vs:=[.agg #[S [],S []],.int .i64 40]) rz Z (ki ([],[]) 40 _ dc) (λ_ Aq=>?_));have G:=xt G Aq;refine I ?_;exact gC ⟨G,rfl⟩
def qZ (a b:R)(w:World)(ht:Tb w):CL 308 #[.agg #[],.agg #[S ((a).1),S ((a).2)],.agg #[S ((b).1),S ((b).2)]] w (ji PN w (fe a b) λq v _=>v=.agg #[S q.1,S q.2]):=
 ji.of (λq h=>GY a b q w ht h) (λh=>Dp a b w ht h)
def GZ (a b q:R)(w:World)(ht:Tb w)(hT:lF a b=some q):CL 307 #[.agg #[],.agg #[S ((a).1),S ((a).2)],.agg #[S ((b).1),S ((b).2)]] w (aH w λv w'=>v=.agg #[S q.1,S q.2]):=by
 refine aD func307 Z (I ?_);refine bx (λB1 Ap O=>?_);have G:=Ap.2;refine bx (λAz Aw A0=>?_);have⟨O,G⟩:=bo Aw.2 O G;refine bx (λAr Av Ab=>?_);have⟨O,A0,G⟩:=ca Av.2 O A0 G;refine al aU (λAy Ao Af=>?_);have⟨O,A0,Ab,G⟩:=fw Ao.2 O A0 Ab G;refine I ?_;refine cl Iz (Kc a b _ (ht.ext G)) ?_;rintro B0 B2 As hv;have⟨O,A0,Ab,Af,G⟩:=kC As.2 O A0 Ab Af G;rw[hT]at hv;subst hv;refine I ?_;refine cl rz (lI q 0 _ Z) ?_;rintro Ax ny Aq rfl;have⟨O,A0,Ab,Af,G⟩:=kC Aq.2 O A0 Ab Af G;refine SA Af (λod Am nm=>?_);have⟨O,A0,Ab⟩:=qm Am O A0 Ab;have G:=bi Am G;refine I ?_;refine aW (v:=.agg #[S ((q).1),S ((q).2)]) (ci  rfl ?_) G Z;refine ai (t:=6) (cs:=[S ((q).1),S ((q).2)]) (b:=Ar.heap.size) (o:=0) iW Z b8 ?_ ?_;exact Z;exact aa0 nm (i:=0) Z
def Dq (a b:R)(w:World)(ht:Tb w)(hT:lF a b=none):CL 307 #[.agg #[],.agg #[S ((a).1),S ((a).2)],.agg #[S ((b).1),S ((b).2)]] w (fq PN w):=by
 refine iZ func307 Z (I ?_);refine bx (λ_ Ab _=>?_);have G:=Ab.2;refine bx (λ_ Ao O=>?_);have G:=xt G Ao.2;refine bx (λ_ Af A0=>?_);have⟨O,G⟩:=bo Af.2 O G;refine al aU (λ_ Am _=>?_);have⟨O,A0,G⟩:=ca Am.2 O A0 G;refine I ?_;refine cl Iz (Kc a b _ (ht.ext G)) ?_;rintro _ _ Ap hv;have G:=xt G Ap.2;rw[hT]at hv;subst hv;refine I ?_;refine aa (dQ (vs:=[.agg #[S [],S []],.int .i64 40]) rz Z (ki ([],[]) 40 _ dc) (λ_ Aq=>?_));have G:=xt G Aq;refine I ?_;exact gC ⟨G,rfl⟩
def Kf (a b:R)(w:World)(ht:Tb w):CL 307 #[.agg #[],.agg #[S ((a).1),S ((a).2)],.agg #[S ((b).1),S ((b).2)]] w (ji PN w (lF a b) λq v _=>v=.agg #[S q.1,S q.2]):=
 ji.of (λq h=>GZ a b q w ht h) (λh=>Dq a b w ht h)
def Dr (w:World):
 CL 81 #[] w (aH w λv w'=>v=.agg #[S z0.1,S z0.2]):=by
 refine aD func81 Z (I ?_);refine al aU (λ_ O A0=>?_);have G:=O.2;refine I ?_;refine SA A0 (λ_ Ab Af=>?_);have G:=bi Ab G;refine I ?_;refine aW (v:=.agg #[S [48],S [49]]) (ci  rfl ?_) G Z;refine ai (t:=0) (cs:=[S [48],S [49]]) (b:=w.heap.size) (o:=0) iW Z b8 ?_ ?_;exact Z;exact aa0 Af (i:=0) Z
def G1 (w:World):
 CL 128 #[] w (aH w λv w'=>v=.agg #[S o1.1,S o1.2]):=by
 refine aD func128 Z (I ?_);refine al aU (λ_ O A0=>?_);have G:=O.2;refine I ?_;refine SA A0 (λ_ Ab Af=>?_);have G:=bi Ab G;refine I ?_;refine aW (v:=.agg #[S [49],S [49]]) (ci  rfl ?_) G Z;refine ai (t:=0) (cs:=[S [49],S [49]]) (b:=w.heap.size) (o:=0) iW Z b8 ?_ ?_;exact Z;exact aa0 Af (i:=0) Z
end
section
set_option maxRecDepth 100000
open Go Go.Eng Go.RowKit Tryz
def so {c:Code}{args:Array Value}{u:FrameMode}{R:Ending->FrameMode->World->Prop}(hf:P.funcs[f]?=some fn)(hb:fn.body=some c)(h:∀(c₀:Frame) (cs:List Frame),c₀.mode=u->
 c.wpS P (bodyPostS P fn c₀ cs R) {tmps:=args++Array.replicate (fn.ntmps-args.size) undef,defers:=[]} (c₀::cs) w):
 CallsDIn Fence.wide n P f args u w R:=by
 refine⟨trivial,λc₀ cs hu _=>?_⟩
 let b:Frame:={(default:Frame)with fn:=f,kind:=.deferred}
 have henter:Frame.enter P f args .deferred=
  b.at {tmps:=args++Array.replicate (fn.ntmps-args.size) undef,defers:=[]} [.code c]:=by
  simp[Frame.enter,Frame.at,hf,hb,b]
 obtain⟨e,_,_,w',hq,O⟩:=h c₀ cs hu b [] Z Z
 rw[<-henter]at O
 cases e with
 | normal=>
   obtain⟨hd,G,rfl,v,hr,hR⟩:=hq
   exact⟨.returned v,G,w',_,hR,comesIn_wide.2 (Steps.trans O (.one step_end)),rfl,rfl,rfl,hd,fn,hf,hr⟩
 | ret=>
   obtain⟨hd,G,rfl,v,hr,hR⟩:=hq
   obtain⟨A0,hs⟩:=O
   exact⟨.returned v,G,w',_,hR,comesIn_wide.2 hs,rfl,rfl,rfl,hd,fn,hf,hr⟩
 | panic chain=>
   obtain⟨hd,G,rfl,hR⟩:=hq
   obtain⟨A0,hs⟩:=O
   exact⟨.panicked chain,G,w',_,hR,comesIn_wide.2 hs,rfl,rfl,rfl,hd,fn,hf⟩
 |exit id=>exact hq.elim
 |goto l=>exact hq.elim
 | outgrown=>
   obtain⟨G,hR⟩:=hq
   exact⟨.outgrown,G,w',b,hR,O.resolve_left (by simp[b]),rfl,rfl,trivial⟩
section
variable {r:Option Nat}{ds:List Deferred}{Q:Exit->Act->World->Prop}{K:Act->World->Prop}
variable {ty:Nat}{pos:String}{af:Array Edge}{g:Option (Nat×Bool)}{x y:Operand}{t':TypeId}
def OU {ms:Array (String×TypeId)}(hu:P.underlying t=some (.interface ms))(hx:ev N e x=.nilIface)(hy:y=.const .nilIface)(hk:K (act N (upd e d (.bool true)) ds) w):
 Oper.wpIn (Fw r) n P ⟨some d,.binOp .eql t x y t',ty,pos,af,g⟩ (act N e ds) w K Q:=by
 subst hy
 refine dR (X:=.nilIface) (Y:=.nilIface) hx Z ?_ ?_ hk
 · unfold eqGuard;simp
 · have:(Op.equal t .nilIface .nilIface).run P w=.ok true w:=by
    unfold Op.equal Op.maxDepth
    show(Op.equalIn (9999+1) t _ _).run _ _=_
    unfold Op.equalIn
    simp[run_underlying hu]
   simp[binOp,this]
def OV {ms:Array (String×TypeId)}(hu:P.underlying t=some (.interface ms))(hx:ev N e x=.iface ty' u)(hy:y=.const .nilIface)(hk:K (act N (upd e d (.bool false)) ds) w):
 Oper.wpIn (Fw r) n P ⟨some d,.binOp .eql t x y t',ty,pos,af,g⟩ (act N e ds) w K Q:=by
 subst hy
 refine dR (X:=.iface ty' u) (Y:=.nilIface) hx Z ?_ ?_ hk
 · unfold eqGuard;simp
 · have:(Op.equal t (.iface ty' u) .nilIface).run P w=.ok false w:=by
    unfold Op.equal Op.maxDepth
    show(Op.equalIn (9999+1) t _ _).run _ _=_
    unfold Op.equalIn
    simp[run_underlying hu]
   simp[binOp,this]
def G2 {a:TypeId}{D:TypeDesc}(hu:P.underlying a=some D)(hd:zO D=true)(hx:ev N e x=.iface a u)(hk:K (act N (upd e d (.tuple #[u,.bool true])) ds) w):
 Oper.wpIn (Fw r) n P ⟨some d,.typeAssert x t a true,ty,pos,af,g⟩ (act N e ds) w K Q:=by
 refine cQ (v:=.tuple #[u,.bool true]) (w':=w) Z ?_ RW
 have:(Instr.typeAssert (.iface a u) t a true).run P w=.ok (.tuple #[u,.bool true]) w:=by
  unfold Instr.typeAssert
  cases D <;>first|(cases hd;done)|simp[run_underlying hu]
 simp[execOp,hx,this]
def uN {xs:Array Operand}(hv:xs.toList.map (ev N e)=vs)(hk:K (act N e ({target:=.fn (.func f) #[],args:=vs.toArray}::ds)) w):
 Oper.wpIn (Fw none) n P ⟨none,.defer {callee:=.value (.func f),args:=xs,argTypes:=ats},ty,pos,af,g⟩ (act N e ds) w K Q:=by
 subst hv
 refine⟨λf _=>kF none f,?_⟩
 rw[tq,Oper.semAt_none,cW]
 have:(execOp (ev N e) (⟨none,.defer {callee:=.value (.func f),args:=xs,argTypes:=ats},ty,pos,af,g⟩:Oper)).run P w=.ok (.defer {target:=.fn (.func f) #[],args:=(xs.toList.map (ev N e)).toArray}) w:=by
  rw[show(xs.toList.map (ev N e)).toArray=xs.map (ev N e)by rw[<-Array.toList_map,Array.toArray_toList]]
  simp[execOp,resolve,Deferred.ofValue,ev]
 rw[this]
 exact hk
end
abbrev cell1 (c:Int):Array Value:=#[.int .i64 c]
section
variable {id ty:Nat}{pos:String}{af:Array Edge}{cs cs':List Frame}{Q:Exit->Act->List Frame->World->Prop}
def G3 (hr:recoverD cs=some (v,cs'))(h:Q .normal (act N (upd e d v) []) cs' w):
 (Code.region id #[⟨some d,.call {callee:=.builtin .recover,args:=#[],argTypes:=ats},ty,pos,af,none⟩] false).wpS P Q (act N e []) cs w:=by
 refine wpS_region ?_
 show wpOpsS P _ Q [0] _ _ _
 have hx:(execOp (act N e []).eval ⟨some d,.call {callee:=.builtin .recover,args:=#[],argTypes:=ats},ty,pos,af,none⟩).run P w=.ok .recover w:=by
  simp[execOp,resolve,invoke,builtin]
 simp only[wpOpsS,List.getElem?_toArray,List.getElem?_cons_zero,Region.wanted,if_true,hx,hr]
 rw[ax]
 exact h
def Ds (hr:recoverD cs=none)(h:Q .normal (act N (upd e d .nilIface) []) cs w):
 (Code.region id #[⟨some d,.call {callee:=.builtin .recover,args:=#[],argTypes:=ats},ty,pos,af,none⟩] false).wpS P Q (act N e []) cs w:=by
 refine wpS_region ?_
 show wpOpsS P _ Q [0] _ _ _
 have hx:(execOp (act N e []).eval ⟨some d,.call {callee:=.builtin .recover,args:=#[],argTypes:=ats},ty,pos,af,none⟩).run P w=.ok .recover w:=by
  simp[execOp,resolve,invoke,builtin]
 simp only[wpOpsS,List.getElem?_toArray,List.getElem?_cons_zero,Region.wanted,if_true,hx,hr]
 rw[ax]
 exact h
end
def Nm {c:Code}{u:FrameMode}{R:Ending->FrameMode->World->Prop}(hf:P.funcs[f]?=some fn)(hb:fn.body=some c)(h:∀(c₀:Frame) (cs:List Frame),c₀.mode=u->c.wpS P (bodyPostS P fn c₀ cs R) (act (args.length+(fn.ntmps-args.length)) (Ii args) []) (c₀::cs) w):CallsDIn Fence.wide n P f args.toArray u w R:=by
 refine so hf hb (λc₀ cs hu=>?_)
 rw[jE]
 exact h c₀ cs hu
def Dt {b:Nat}(hB:ar w b 36 (cell1 c0)):
 CallsDIn Fence.wide n prog 113 #[pT b] (.panicking [{v:=.iface 36 (.int .i64 c),recovered:=false}]) w
  (λe u' w'=>(∃v,e=.returned v)/\u'=.panicking [{v:=.iface 36 (.int .i64 c),recovered:=true}]/\ee w w' b/\ar w' b 36 (cell1 c)):=by
 refine Nm (args:=[pT b]) func113 Z (λc₀ cs hu=>?_)
 refine wpS_seq (G3 (v:=.iface 36 (.int .i64 c)) (cs':={c₀ with mode:=.panicking [{v:=.iface 36 (.int .i64 c),recovered:=true}]}::cs) ka1 ?_)
 refine wpS_of_wp (wpIn_wide (n:=0).1 ?_)
 refine oZ (r:=none) ?_
 refine iV (r:=none) ?_
 refine ik (r:=none) ?_
 refine aa (r:=none) (OV underlying20 Z Z ?_)
 refine gp ?_
 refine fm ?_
 refine gd (r:=none) Z ?_
 refine iV (r:=none) ?_
 refine ik (r:=none) ?_
 refine aa (r:=none) (G2 underlying36 Z Z ?_)
 refine aa (r:=none) (cX Z Z ?_)
 refine aa (r:=none) (cX Z Z ?_)
 refine gp ?_
 refine fm ?_
 refine mA (r:=none) Z ?_
 refine iV (r:=none) ?_
 refine ik (r:=none) ?_
 refine aa (r:=none) (aK (v:=.int .i64 c) Z ?_)
 refine gp ?_
 refine fm ?_
 refine ik (r:=none) ?_
 refine aa (r:=none) (aT (v:=pT b) Z ?_)
 refine aa (r:=none) (aT (v:=.int .i64 c) Z ?_)
 refine aa (r:=none) (tJ (b:=b) (o:=0) Z ?_)
 refine aa (r:=none) (cJ (b:=b) (o:=0) (v:=.int .i64 c) Si Z Z Z hB Rg (λw' G hb=>?_))
 refine gp ?_
 refine Ih ?_
 exact⟨rfl,_,rfl,_,nG Z,⟨_,rfl⟩,rfl,G,hb⟩
def Du {b:Nat}:
 CallsDIn Fence.wide n prog 113 #[pT b] .returning w (λe u' w'=>(∃v,e=.returned v)/\u'=.returning/\w'=w):=by
 refine Nm (args:=[pT b]) func113 Z (λ_ _ hu=>?_)
 refine wpS_seq (Ds ka1 ?_)
 refine wpS_of_wp (wpIn_wide (n:=0).1 ?_)
 refine oZ (r:=none) ?_
 refine iV (r:=none) ?_
 refine ik (r:=none) ?_
 refine aa (r:=none) (OU underlying20 Z Z ?_)
 refine gp ?_
 refine fm ?_
 refine mA (r:=none) Z ?_
 refine ik (r:=none) ?_
 refine aa (r:=none) (aK (v:=.nilIface) Z ?_)
 refine gp ?_
 refine Ih ?_
 exact⟨rfl,.returning,by rw[<-hu],_,nG Z,⟨_,rfl⟩,rfl,rfl⟩
abbrev dF (b:Nat):Deferred:={target:=.fn (.func 113) #[],args:=[Value.pointer (some ⟨b,0,none⟩)].toArray}
def l9 {c:Code}{R:Ending->World->Prop}(hf:P.funcs[f]?=some fn)(hb:fn.body=some c)(h:c.wpIn (Fw none) 0 P (bodyPostDIn Fence.wide 0 P fn R) (act (args.length+(fn.ntmps-args.length)) (Ii args) []) w):Calls P f args.toArray w R:=by
 refine callsIn_wide.1 (callsIn_of_wp_defers (n:=0) hf hb trivial ?_)
 rw[jE]
 exact h
section
variable {b:Nat}{R:Value->World->Prop}
def Kg (hx:aO w w')(hr:(results fn (act N e [dF b]).tmps).run prog w'=.ok v w')(hR:R v w'):bodyPostDIn Fence.wide 0 prog fn (aH w R) .ret (act N e [dF b]) w':=by
 refine leavesIn_cons (f:=113) (args:=#[pT b]) Rg kd9 ?_ (λ_ _=>trivial) ?_
 · have h:=V4 #[pT b] w'
   simpa[invoke]using h
 · refine CallsDIn.mono Du ?_
   rintro _ _ _ ⟨⟨v',rfl⟩,rfl,rfl⟩
   exact⟨v,hr,hx,hR⟩
def Kh (hx:aO w w')(hb:w.heap.size<=b)(hB:ar w' b 36 (cell1 c0))(hr:∀w'',ee w' w'' b->ar w'' b 36 (cell1 c)->(results fn (act N e [dF b]).tmps).run prog w''=.ok v w''/\R v w''):
 bodyPostDIn Fence.wide 0 prog fn (aH w R) (.panic (pan 36 c)) (act N e [dF b]) w':=by
 refine leavesIn_cons (f:=113) (args:=#[pT b]) Rg kd9 ?_ (λ_ _=>trivial) ?_
 · have h:=V4 #[pT b] w'
   simpa[invoke]using h
 · refine CallsDIn.mono (Dt hB) ?_
   rintro _ _ w'' ⟨⟨v',rfl⟩,rfl,G,hB'⟩
   obtain⟨h1,h2⟩:=hr w'' G hB'
   exact⟨v,h1,ad5 G hx hb,h2⟩
end
section
variable {r:Option Nat}{ds:List Deferred}{Q:Exit->Act->World->Prop}{K:Act->World->Prop}
variable {ty:Nat}{pos:String}{af:Array Edge}{g:Option (Nat×Bool)}{x y:Operand}{t':TypeId}
def hH (hx:ev N e x=.func (.func f) #[] lb.toArray)(hk:K (act N e ({target:=.fn (.func f) lb.toArray,args:=#[]}::ds)) w):
 Oper.wpIn (Fw none) n P ⟨none,.defer {callee:=.value x,args:=#[],argTypes:=ats},ty,pos,af,g⟩ (act N e ds) w K Q:=by
 refine⟨λf _=>kF none f,?_⟩
 rw[tq,Oper.semAt_none,cW]
 have:(execOp (ev N e) (⟨none,.defer {callee:=.value x,args:=#[],argTypes:=ats},ty,pos,af,g⟩:Oper)).run P w=.ok (.defer {target:=.fn (.func f) lb.toArray,args:=#[]}) w:=by
  simp[execOp,resolve,Deferred.ofValue,hx]
 rw[this]
 exact hk
end
section
variable {id ty:Nat}{pos:String}{af:Array Edge}{cs:List Frame}{Q:Exit->Act->List Frame->World->Prop}{ops:Array Oper}{rest:List Nat}{op:Op}{dst:Option Tmp}
def Ui (hn:List.range ops.size=0::rest)(h0:ops[0]?=some ⟨some d,.call {callee:=.builtin .recover,args:=#[],argTypes:=ats},ty,pos,af,none⟩)(hr:recoverD cs=none)(h:wpOpsS P ops Q rest (act N (upd e d .nilIface) []) cs w):
 (Code.region id ops false).wpS P Q (act N e []) cs w:=by
 refine wpS_region ?_
 rw[hn]
 have hx:(execOp (act N e []).eval ⟨some d,.call {callee:=.builtin .recover,args:=#[],argTypes:=ats},ty,pos,af,none⟩).run P w=.ok .recover w:=by
  simp[execOp,resolve,invoke,builtin]
 simp only[wpOpsS,h0,Region.wanted,if_true,hx,hr]
 rw[ax]
 exact h
def jo (h0:ops[i]?=some ⟨some d,op,ty,pos,af,none⟩)(hx:(execOp (ev N e) (⟨some d,op,ty,pos,af,none⟩:Oper)).run P w=.ok (.value v) w)(h:wpOpsS P ops Q rest (act N (upd e d v) []) cs w):
 wpOpsS P ops Q (i::rest) (act N e []) cs w:=by
 have hx':(execOp (act N e []).eval (⟨some d,op,ty,pos,af,none⟩:Oper)).run P w=.ok (.value v) w:=by rw[cW];exact hx
 simp only[wpOpsS,h0,Region.wanted,if_true,hx']
 show wpOpsS P ops Q rest ((act N e []).put (some d) v) cs w
 rw[ax]
 exact h
def Ki (h:Q .normal (act N e []) cs w):wpOpsS P ops Q [] (act N e []) cs w:=h
end
def oE {id ty:Nat}{pos:String}{af:Array Edge}{cs:List Frame}{Q:Exit->Act->List Frame->World->Prop}{d1 ty1 d2 ty2 d3 ty3 d4 ty4 d5 ty5 d6 ty6:Nat}{pos1 pos2 pos3 pos4 pos5 pos6:String}{af1 af2 af3 af4 af5 af6:Array Edge}{op1 op2 op3 op4 op5 op6:Op}(hr:recoverD cs=none)(h1:(execOp (ev N (upd e d .nilIface)) (⟨some d1,op1,ty1,pos1,af1,none⟩:Oper)).run P w=.ok (.value v1) w)(h2:(execOp (ev N (upd (upd e d .nilIface) d1 v1)) (⟨some d2,op2,ty2,pos2,af2,none⟩:Oper)).run P w=.ok (.value v2) w)(h3:(execOp (ev N (upd (upd (upd e d .nilIface) d1 v1) d2 v2)) (⟨some d3,op3,ty3,pos3,af3,none⟩:Oper)).run P w=.ok (.value v3) w)(h4:(execOp (ev N (upd (upd (upd (upd e d .nilIface) d1 v1) d2 v2) d3 v3)) (⟨some d4,op4,ty4,pos4,af4,none⟩:Oper)).run P w=.ok (.value v4) w)(h5:(execOp (ev N (upd (upd (upd (upd (upd e d .nilIface) d1 v1) d2 v2) d3 v3) d4 v4)) (⟨some d5,op5,ty5,pos5,af5,none⟩:Oper)).run P w=.ok (.value v5) w)(h6:(execOp (ev N (upd (upd (upd (upd (upd (upd e d .nilIface) d1 v1) d2 v2) d3 v3) d4 v4) d5 v5)) (⟨some d6,op6,ty6,pos6,af6,none⟩:Oper)).run P w=.ok (.value v6) w)(h:Q .normal (act N (upd (upd (upd (upd (upd (upd (upd e d .nilIface) d1 v1) d2 v2) d3 v3) d4 v4) d5 v5) d6 v6) []) cs w):
 (Code.region id #[⟨some d,.call {callee:=.builtin .recover,args:=#[],argTypes:=ats},ty,pos,af,none⟩,⟨some d1,op1,ty1,pos1,af1,none⟩,⟨some d2,op2,ty2,pos2,af2,none⟩,⟨some d3,op3,ty3,pos3,af3,none⟩,⟨some d4,op4,ty4,pos4,af4,none⟩,⟨some d5,op5,ty5,pos5,af5,none⟩,⟨some d6,op6,ty6,pos6,af6,none⟩] false).wpS P Q (act N e []) cs w:=
 Ui (rest:=[1,2,3,4,5,6]) Z Z hr (jo Z h1 (jo Z h2 (jo Z h3 (jo Z h4 (jo Z h5 (jo Z h6 (Ki h)))))))
def Kj :
 CallsDIn Fence.wide n prog 248 #[pT b1,pT b2] .returning w (λe u' w'=>(∃v,e=.returned v)/\u'=.returning/\w'=w):=by
 refine Nm (args:=[pT b1,pT b2]) func248 Z (λ_ _ hu=>?_)
 refine wpS_seq ?_
 refine oE (v1:=.tuple #[.nilIface,.bool false]) (v2:=.tuple #[.nilIface,.bool false]) (v3:=.nilIface) (v4:=.bool false) (v5:=.nilIface) (v6:=.bool false) ka1 ?_ ?_ ?_ ?_ ?_ ?_ ?_
 · have h:(Instr.typeAssert .nilIface 20 96 true).run prog w=.ok (.tuple #[.nilIface,.bool false]) w:=by
    unfold Instr.typeAssert
    simp[run_underlying underlying96]
   simp only[execOp]
   exact qb2 (λr=>Result.andThen r λa w'=>Result.ok (Next.value a) w') h
 · rfl
 · rfl
 · rfl
 · rfl
 · rfl
 refine wpS_of_wp (wpIn_wide (n:=0).1 ?_)
 refine iV (r:=none) ?_
 refine ik (r:=none) ?_
 refine aa (r:=none) (aT (v:=.bool false) Z ?_)
 refine aa (r:=none) (aT (v:=.bool false) Z ?_)
 with_reducible refine fI (r:=none) (d:=12) (s:=11) ?_ ?_ ?_
 exact Z
 exact Z
 with_reducible refine fI (r:=none) (d:=13) (s:=11) ?_ ?_ ?_
 exact Z
 exact Z
 with_reducible refine fI (r:=none) (d:=14) (s:=11) ?_ ?_ ?_
 exact Z
 exact Z
 refine aa (r:=none) (jH (t:=false) (v:=.bool false) Z Z ?_)
 refine gp ?_
 refine fm ?_
 refine gd (r:=none) Z ?_
 refine jJ (r:=none) ?_
 exact⟨rfl,.returning,by rw[<-hu],_,nG Z,⟨_,rfl⟩,rfl,rfl⟩
def Kk :
 CallsDIn Fence.wide n prog 253 #[pT b1,pT b2] .returning w (λe u' w'=>(∃v,e=.returned v)/\u'=.returning/\w'=w):=by
 refine Nm (args:=[pT b1,pT b2]) func253 Z (λ_ _ hu=>?_)
 refine wpS_seq ?_
 refine oE (v1:=.tuple #[.nilIface,.bool false]) (v2:=.tuple #[.nilIface,.bool false]) (v3:=.nilIface) (v4:=.bool false) (v5:=.nilIface) (v6:=.bool false) ka1 ?_ ?_ ?_ ?_ ?_ ?_ ?_
 · have h:(Instr.typeAssert .nilIface 20 96 true).run prog w=.ok (.tuple #[.nilIface,.bool false]) w:=by
    unfold Instr.typeAssert
    simp[run_underlying underlying96]
   simp only[execOp]
   exact qb2 (λr=>Result.andThen r λa w'=>Result.ok (Next.value a) w') h
 · rfl
 · rfl
 · rfl
 · rfl
 · rfl
 refine wpS_of_wp (wpIn_wide (n:=0).1 ?_)
 refine iV (r:=none) ?_
 refine ik (r:=none) ?_
 refine aa (r:=none) (aT (v:=.bool false) Z ?_)
 refine aa (r:=none) (aT (v:=.bool false) Z ?_)
 with_reducible refine fI (r:=none) (d:=12) (s:=11) ?_ ?_ ?_
 exact Z
 exact Z
 with_reducible refine fI (r:=none) (d:=13) (s:=11) ?_ ?_ ?_
 exact Z
 exact Z
 with_reducible refine fI (r:=none) (d:=14) (s:=11) ?_ ?_ ?_
 exact Z
 exact Z
 refine aa (r:=none) (jH (t:=false) (v:=.bool false) Z Z ?_)
 refine gp ?_
 refine fm ?_
 refine gd (r:=none) Z ?_
 refine jJ (r:=none) ?_
 exact⟨rfl,.returning,by rw[<-hu],_,nG Z,⟨_,rfl⟩,rfl,rfl⟩
abbrev dV (g b1 b2:Nat):Deferred:={target:=.fn (.func g) [Value.pointer (some ⟨b1,0,none⟩),Value.pointer (some ⟨b2,0,none⟩)].toArray,args:=#[]}
def Xr (g b1 b2:Nat):Prop:=∀(n:Nat) (w:World),CallsDIn Fence.wide n prog g #[pT b1,pT b2] .returning w (λe u' w'=>(∃v,e=.returned v)/\u'=.returning/\w'=w)
def mU {R:Value->World->Prop}(hg:Enters prog g)(hc:Xr g b1 b2)(hx:aO w w')(hr:(results fn (act N e [dV g b1 b2]).tmps).run prog w'=.ok v w')(hR:R v w'):
 bodyPostDIn Fence.wide 0 prog fn (aH w R) .ret (act N e [dV g b1 b2]) w':=by
 refine leavesIn_cons (f:=g) (args:=#[pT b1,pT b2]) Rg kd9 ?_ (λ_ _=>trivial) ?_
 · have h:=hg #[pT b1,pT b2] w'
   simpa[invoke]using h
 · refine CallsDIn.mono (hc _ _) ?_
   rintro _ _ _ ⟨⟨v',rfl⟩,rfl,rfl⟩
   exact⟨v,hr,hx,hR⟩
end
end Go.Proofs.YtlmihmlnpjkblaaGreatDoor
