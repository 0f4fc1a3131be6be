/- Part of the proof of a statement about risks. -/
import Derived.Test.YthpinljhfnodeaaGreatDoorRef3ToRef6
set_option linter.all false
namespace Go.Proofs.YthpinljhfnodeaaGreatDoor
variable {s N n0 d0 m0 c0:Int}{T xs:List Nat}{l m x y l1 m1 l2 m2:List UInt8}{k a pl n d i c lo:Nat}{A:Option Addr}{w w':World}
section
set_option maxRecDepth 100000
open Go Go.Eng Go.RowKit Proofs.Tryz
attribute [local irreducible] wpListIn Code.wpIn Oper.wpIn Exit.then Exit.inBlock Exit.noGoto
set_option maxHeartbeats 40000000
def cX {z:Int}(h:Fz z):(ae z).length<=1000000:=by have:=nj h.int;omega
def mW:Nat->List UInt8
 |0=>[49]
 |k+1=>mW k++[48]
def wR (k:Nat):mW k=49::List.replicate k 48:=by
 induction k with
 |zero=>rfl
 |succ k ih=>rw[mW,ih,List.replicate_succ'];rfl
def wS (k:Nat):(mW k).length=k+1:=by rw[wR];simp
def wT (h:k<200):mW k=nS (10^k):=by rw[wR,En h]
def AV {a b:Int}(hl:l=ae a)(hm:m=ae b)(ha:Fz a)(hb:Fz b)(h:Fz (a+b)):
 CL 233 #[S l,S m] w (aC w λv w'=>v=S (ae (a+b))):=by
 subst hl hm;refine aE func233 Z (I ?_);refine cl P7 (fM (Y:=.tuple #[S (ae (a+b)),.int .i64 0]) (vj _ _ _ (cX ha) (cX hb)) (qb1 gj (ye ha hb h))) ?_;rintro _ _ O rfl;have qr:=O.2;refine I ?_;exact ax (t:=4) (v:=S (ae (a+b))) Z qr Z Z
def vr {a b:Int}(hl:l=ae a)(hm:m=ae b)(ha:Fz a)(hb:Fz b)(h:Fz (a-b)):
 CL 188 #[S l,S m] w (aC w λv w'=>v=S (ae (a-b))):=by
 subst hl hm;refine aE func188 Z (I ?_);refine cl Mf (fM (Y:=.tuple #[S (ae (a-b)),.int .i64 0]) (pP _ _ _ (cX ha) (cX hb)) (qb1 gj (IE ha hb h))) ?_;rintro _ _ O rfl;have qr:=O.2;refine I ?_;exact ax (t:=4) (v:=S (ae (a-b))) Z qr Z Z
def Kr {a b:Int}(hl:l=ae a)(hm:m=ae b)(ha:Fz a)(hb:Fz b)(h:Fz (a*b)):
 CL 263 #[S l,S m] w (aC w λv w'=>v=S (ae (a*b))):=by
 subst hl hm;refine aE func263 Z (I ?_);refine cl xo (fM (Y:=.tuple #[S (ae (a*b)),.int .i64 0]) (it _ _ _ (cX ha) (cX hb)) (qb1 gj (yf ha hb h))) ?_;rintro _ _ O rfl;have qr:=O.2;refine I ?_;exact ax (t:=4) (v:=S (ae (a*b))) Z qr Z Z
def EM {a b:Int}(hl:l=ae a)(hm:m=ae b)(ha:Fz a)(hb:Fz b)(hp:0<b):
 CL 187 #[S l,S m,.bool false] w (aC w λv w'=>v=S (ae (a/b))):=by
 subst hl hm;have W:b≠0:=U;refine aE func187 Z (I ?_);refine clb vM (hc:=fM (Y:=.tuple #[S (ae (a/b)),S (ae (a%b)),.int .i64 0]) (gN _ _ _ (cX ha) (cX hb)) (qb1 nJ (kv ha hb W (eD ha U)))) (hk:=?_);rintro _ _ qr rfl;have O:=qr.2;refine I ?_;exact ax (t:=6) (v:=S (ae (a/b))) Z O Z Z
def gZ {b:Nat}(hl:l=nS a)(hm:m=nS b)(h:Fi (a+b)):CL 233 #[S l,S m] w (aC w λv _=>v=S (nS (a+b))):=AV hl hm (ym h).1.z (ym h).2.z h.z
def fG {b:Nat}(hl:l=nS a)(hm:m=nS b)(ha:Fi a)(hb:Fi b)(h:Fi (a*b)):CL 263 #[S l,S m] w (aC w λv _=>v=S (nS (a*b))):=Kr hl hm ha.z hb.z h.z
def ln {b:Nat}(hl:l=nS a)(hm:m=nS b)(ha:Fi a)(hb:Fi b)(hp:0<b):CL 187 #[S l,S m,.bool false] w (aC w λv _=>v=S (nS (a/b))):=EM hl hm ha.z hb.z U
def pS {b:Nat}(hl:l=nS a)(hm:m=nS b)(ha:Fi a)(hb:Fi b)(hp:0<b):
 CL 187 #[S l,S m,.bool true] w (aC w λv w'=>v=S (nS (gl a b))):=by
 subst hl hm;refine aE func187 Z (I ?_);refine cl vM (fM (Y:=.tuple #[S (nS (a/b)),S (nS (a%b)),.int .i64 0]) (gN _ _ _ (cX ha.z) (cX hb.z)) (qb1 nJ (IN ha hb hp))) ?_;rintro _ _ W rfl;have O:=W.2;refine I ?_;refine Um (b:=[48]) (I ?_);by_cases cf:(nS (a%b))=([48]);refine I ?_;exact ax (t:=6) (v:=S (nS (a/b))) Z O (Vb cf) Z;refine I ?_;refine cl lE (gZ Z yh (Pj ha hp cf)) ?_;rintro _ _ qr rfl;have O:=xt O qr.2;refine I ?_;exact ax (t:=6) (v:=S (nS (a/b+1))) Z O (Vd cf) Z
def cN (hp:pl<200):
 CL 153 #[.int .i64 pl] w (aC w λv w'=>v=S (nS (10^pl))):=by
 refine aE func153 Z (I ?_);have qn:=aa2 w;refine JT [(3,11)] (λqr e W=>∃i:Nat,(pl-i=qr)/\(e 3=S (mW i))/\(e 4=.int .i64 i)/\(i<=pl)/\(bF w W)) (pl-0) ⟨0,rfl,rfl,rfl,(qa7 _),qn⟩ ?_;rintro _ _ _ ⟨i,rfl,A2,A1,hi,O⟩;by_cases hl:i<pl;refine I ?_;refine ac (km (a:=mW i) (b:=[48]) Z Z (by rw[wS];simp;omega) ?_);refine I ?_;refine ac (bb (a:=(i:Int)) (b:=1) (c:=((i+1:Nat):Int)) Z Z L7 U ?_);refine I ?_;exact c6 ⟨i+1,rfl,rfl,rfl,U,O⟩;refine I ?_;exact ax (t:=2) (v:=S (mW i)) Z O (by rw[show i=pl by omega,wT hp]) Z
def lX {p:Prop}(h:p:=by kernel_rfl):p:=h
def y8 (h:n<=90):Sc (10^n):=⟨Nat.pow_pos dc,Nat.pow_lt_pow_right dc U⟩
def AW (hn:n<=100000000):CL 44 #[.int .i64 n] w (aC w λv _=>v=S (nS n)):=oK (n:Int) _ U
def nB {b:Nat}(hl:l=nS a)(hm:m=nS b)(ha:Fi a)(hb:Fi b):CL 85 #[S l,S m] w (aC w λv _=>v=.int .i64 (aG (a:Int) (b:Int))):=by
 subst hl hm
 exact fM (pQ _ _ _ (cX ha.z) (cX hb.z)) (qb1 (Value.int .i64) (yg ha.z hb.z))
def yL (hp:pl<=90)(hn:Fi n)(hd:Fi d)(h0:0<d)(hm:Fi (n*10^pl)):
 CL 226 #[.agg #[S (nS n),S (nS d)],.int .i64 pl] w (aC w λv w'=>v=.agg #[S (nS ((bV (10^pl) n d).1)),S (nS ((bV (10^pl) n d).2))]):=by
 have hS:=y8 hp;refine aE func226 Z (I ?_);refine bx (λA1 Am qr=>?_);have O:=Am.2;refine al cj (λ_ Ar W=>?_);have⟨qr,O⟩:=bD Ar.2 qr O;refine I ?_;refine bY 4 ?_;refine sf ?_;refine aF (V:=S (nS (10^pl))) (λ_ _ _ _=>?_) ?_;refine clb eC (hc:=cN (pl:=(pl)) U) (hk:=?_);rintro _ _ Ap rfl;have Aq:=Ap.2;refine I ?_;exact fs ⟨Aq,rfl⟩;refine sf ?_;intro _ _ Af _;have⟨qr,W,O⟩:=bC Af.2 qr W O;refine cl kq (fG Z Z hn hS.fi hm) ?_;rintro _ _ Ad rfl;have⟨qr,W,O⟩:=bC Ad.2 qr W O;refine I ?_;refine bY 7 ?_;refine sf ?_;refine aF (V:=S (nS ((n*(10^pl))/d))) (λ_ _ _ _=>?_) ?_;refine cl ie (ln Z Z hm hd h0) ?_;rintro _ _ As rfl;have Ab:=As.2;refine I ?_;exact fs ⟨Ab,rfl⟩;refine sf ?_;intro _ _ Av _;have⟨qr,W,O⟩:=bC Av.2 qr W O;refine cl ie (pS Z Z hm hd h0) ?_;rintro _ _ A2 rfl;have⟨qr,W,O⟩:=bC A2.2 qr W O;refine ac (aV (vs:=[(0,S (nS ((n*(10^pl))/d))),(1,S (nS (gl (n*(10^pl)) d)))]) (cells:=#[S (nS ((n*(10^pl))/d)),S (nS (gl (n*(10^pl)) d))]) (pl:=[(0,1),(1,1)]) gX cj lX Z lX ?_)
 refine ac (bg (b:=A1.heap.size) (o:=0) (vs:=[S (nS ((n*(10^pl))/d)),S (nS (gl (n*(10^pl)) d))]) bZ Z Z MT W (qa3 Z) (λ_ qn Ao=>?_));have qr:=pb qn qr;have O:=bB qn O;refine I ?_;refine aI (v:=.agg #[S (nS ((n*(10^pl))/d)),S (nS (gl (n*(10^pl)) d))]) (cF  rfl ?_) O Z;refine ag (t:=4) (cs:=[S (nS ((n*(10^pl))/d)),S (nS (gl (n*(10^pl)) d))]) (b:=A1.heap.size) (o:=0) gX Z bZ ?_ ?_;exact Z;exact aa1 Ao (i:=0) Z
def nC {a b:N2}(h1:Fi (a.1+b.1))(h2:Fi (a.2+b.2)):
 CL 231 #[.agg #[S (nS a.1),S (nS a.2)],.agg #[S (nS b.1),S (nS b.2)]] w (aC w λv w'=>v=.agg #[S (nS ((fE a b).1)),S (nS ((fE a b).2))]):=by
 refine aE func231 Z (I ?_);refine bx (λ_ od qr=>?_);have O:=od.2;refine bx (λA1 ny W=>?_);have⟨qr,O⟩:=bD ny.2 qr O;refine al cj (λ_ Ab qn=>?_);have⟨qr,W,O⟩:=bC Ab.2 qr W O;refine I ?_;refine bY 9 ?_;refine sf ?_;refine aF (V:=S (nS (a.1+b.1))) (λ_ _ _ _=>?_) ?_;refine cl lE (gZ Z Z h1) ?_;rintro _ _ Ad rfl;have Ao:=Ad.2;refine I ?_;exact fs ⟨Ao,rfl⟩;refine sf ?_;intro _ _ Am _;have⟨qr,W,qn,O⟩:=bW Am.2 qr W qn O;refine cl lE (gZ Z Z h2) ?_;rintro _ _ Ap rfl;have⟨qr,W,qn,O⟩:=bW Ap.2 qr W qn O;refine ac (aV (vs:=[(0,S (nS (a.1+b.1))),(1,S (nS (a.2+b.2)))]) (cells:=#[S (nS (a.1+b.1)),S (nS (a.2+b.2))]) (pl:=[(0,1),(1,1)]) gX cj lX Z lX ?_);refine ac (bg (b:=A1.heap.size) (o:=0) (vs:=[S (nS (a.1+b.1)),S (nS (a.2+b.2))]) bZ Z Z MT qn (qa3 Z) (λ_ A2 Af=>?_));have⟨qr,W⟩:=eR A2 qr W;have O:=bB A2 O;refine I ?_;refine aI (v:=.agg #[S (nS (a.1+b.1)),S (nS (a.2+b.2))]) (cF  rfl ?_) O Z;refine ag (t:=4) (cs:=[S (nS (a.1+b.1)),S (nS (a.2+b.2))]) (b:=A1.heap.size) (o:=0) gX Z bZ ?_ ?_;exact Z;exact aa1 Af (i:=0) Z
def jU {a b:N2}(hp:pl<=90)(ha:Bk 95 a)(hb:Bk 95 b):
 CL 261 #[.agg #[S (nS a.1),S (nS a.2)],.agg #[S (nS b.1),S (nS b.2)],.int .i64 pl] w (aC w λv w'=>v=.agg #[S (nS ((cg (10^pl) a b).1)),S (nS ((cg (10^pl) a b).2))]):=by
 have hS:=y8 hp;have fa:=ha.fi dc;have fb:=hb.fi dc;refine aE func261 Z (I ?_);refine bx (λ_ Ar qr=>?_);have O:=Ar.2;refine bx (λA1 Av W=>?_);have⟨qr,O⟩:=bD Av.2 qr O;refine al cj (λ_ E0 qn=>?_);have⟨qr,W,O⟩:=bC E0.2 qr W O;refine I ?_;refine bY 14 ?_;refine sf ?_;refine aF (V:=S (nS (a.1*b.1))) (λ_ _ _ _=>?_) ?_;refine clb kq (hc:=fG Z Z fa.1 fb.1 (cV ha.1 hb.1 dc)) (hk:=?_);rintro _ _ As rfl;have Af:=As.2;refine I ?_;exact fs ⟨Af,rfl⟩;refine sf ?_;refine aF (V:=S (nS (10^pl))) (λ_ _ _ _=>?_) ?_;refine clb eC (hc:=cN (pl:=(pl)) U) (hk:=?_);rintro _ _ Ay rfl;have Am:=Ay.2;refine I ?_;exact fs ⟨Am,rfl⟩;refine aF (V:=S (nS ((a.1*b.1)/(10^pl)))) (λ_ _ _ _=>?_) ?_;refine clb ie (hc:=ln Z Z (cV ha.1 hb.1 dc) hS.fi hS.pos) (hk:=?_);rintro _ _ E1 rfl;have Aw:=E1.2;refine I ?_;exact fs ⟨Aw,rfl⟩;refine sf ?_;refine aF (V:=S (nS (a.2*b.2))) (λ_ _ _ _=>?_) ?_;refine clb kq (hc:=fG Z Z fa.2 fb.2 (cV ha.2 hb.2 dc)) (hk:=?_);rintro _ _ Ad rfl;have Ax:=Ad.2;refine I ?_;exact fs ⟨Ax,rfl⟩;refine sf ?_;intro _ _ Ap _;have⟨qr,W,qn,O⟩:=bW Ap.2 qr W qn O;refine clb eC (hc:=cN (pl:=(pl)) U) (hk:=?_);rintro _ _ Aq rfl;have⟨qr,W,qn,O⟩:=bW Aq.2 qr W qn O
 refine clb ie (hc:=pS Z Z (cV ha.2 hb.2 dc) hS.fi hS.pos) (hk:=?_);rintro _ _ Ao rfl;have⟨qr,W,qn,O⟩:=bW Ao.2 qr W qn O;refine ac (aV (vs:=[(0,S (nS ((a.1*b.1)/(10^pl)))),(1,S (nS (gl (a.2*b.2) (10^pl))))]) (cells:=#[S (nS ((a.1*b.1)/(10^pl))),S (nS (gl (a.2*b.2) (10^pl)))]) (pl:=[(0,1),(1,1)]) gX cj lX Z lX ?_);refine ac (bg (b:=A1.heap.size) (o:=0) (vs:=[S (nS ((a.1*b.1)/(10^pl))),S (nS (gl (a.2*b.2) (10^pl)))]) bZ Z Z MT qn (qa3 Z) (λ_ A2 Ab=>?_));have⟨qr,W⟩:=eR A2 qr W;have O:=bB A2 O;refine I ?_;refine aI (v:=.agg #[S (nS ((a.1*b.1)/(10^pl))),S (nS (gl (a.2*b.2) (10^pl)))]) (cF  rfl ?_) O Z;refine ag (t:=6) (cs:=[S (nS ((a.1*b.1)/(10^pl))),S (nS (gl (a.2*b.2) (10^pl)))]) (b:=A1.heap.size) (o:=0) gX Z bZ ?_ ?_;exact Z;exact aa1 Ab (i:=0) Z
def Gg {a b:N2}(hp:pl<=90)(ha:Bk 95 a)(hb:Bk 190 b)(h1:0<b.1)(h2:0<b.2):
 CL 227 #[.agg #[S (nS a.1),S (nS a.2)],.agg #[S (nS b.1),S (nS b.2)],.int .i64 pl] w (aC w λv w'=>v=.agg #[S (nS ((vQ (10^pl) a b).1)),S (nS ((vQ (10^pl) a b).2))]):=by
 have hS:=y8 hp;have fa:=ha.fi dc;have fb:=hb.fi dc;refine aE func227 Z (I ?_);refine bx (λ_ Af qr=>?_);have O:=Af.2;refine bx (λA2 Ar W=>?_);have⟨qr,O⟩:=bD Ar.2 qr O;refine al cj (λ_ E1 qn=>?_);have⟨qr,W,O⟩:=bC E1.2 qr W O;refine I ?_;refine bY 15 ?_;refine sf ?_;refine aF (V:=S (nS (10^pl))) (λ_ _ _ _=>?_) ?_;refine clb eC (hc:=cN (pl:=(pl)) U) (hk:=?_);rintro _ _ As rfl;have Am:=As.2;refine I ?_;exact fs ⟨Am,rfl⟩;refine aF (V:=S (nS (a.1*(10^pl)))) (λ_ _ _ _=>?_) ?_;refine clb kq (hc:=fG Z Z fa.1 hS.fi (cV ha.1 hS.lt dc)) (hk:=?_);rintro _ _ E0 rfl;have Aw:=E0.2;refine I ?_;exact fs ⟨Aw,rfl⟩;refine sf ?_;refine aF (V:=S (nS ((a.1*(10^pl))/b.2))) (λ_ _ _ _=>?_) ?_;refine clb ie (hc:=ln Z Z (cV ha.1 hS.lt dc) fb.2 h2) (hk:=?_);rintro _ _ E4 rfl;have Ay:=E4.2;refine I ?_;exact fs ⟨Ay,rfl⟩;refine sf ?_;refine aF (V:=S (nS (10^pl))) (λ_ _ _ _=>?_) ?_;refine clb eC (hc:=cN (pl:=(pl)) U) (hk:=?_);rintro _ _ Ad rfl;have Ab:=Ad.2;refine I ?_;exact fs ⟨Ab,rfl⟩;refine aF (V:=S (nS (a.2*(10^pl)))) (λ_ _ _ _=>?_) ?_;refine clb kq (hc:=fG Z Z fa.2 hS.fi (cV ha.2 hS.lt dc)) (hk:=?_);rintro _ _ Ap rfl;have Ax:=Ap.2;refine I ?_;exact fs ⟨Ax,rfl⟩;refine sf ?_
 intro _ _ Aq _;have⟨qr,W,qn,O⟩:=bW Aq.2 qr W qn O;refine clb ie (hc:=pS Z Z (cV ha.2 hS.lt dc) fb.1 h1) (hk:=?_);rintro _ _ Ao rfl;have⟨qr,W,qn,O⟩:=bW Ao.2 qr W qn O;refine ac (aV (vs:=[(0,S (nS ((a.1*(10^pl))/b.2))),(1,S (nS (gl (a.2*(10^pl)) b.1)))]) (cells:=#[S (nS ((a.1*(10^pl))/b.2)),S (nS (gl (a.2*(10^pl)) b.1))]) (pl:=[(0,1),(1,1)]) gX cj lX Z lX ?_);refine ac (bg (b:=A2.heap.size) (o:=0) (vs:=[S (nS ((a.1*(10^pl))/b.2)),S (nS (gl (a.2*(10^pl)) b.1))]) bZ Z Z MT qn (qa3 Z) (λ_ A1 Av=>?_));have⟨qr,W⟩:=eR A1 qr W;have O:=bB A1 O;refine I ?_;refine aI (v:=.agg #[S (nS ((a.1*(10^pl))/b.2)),S (nS (gl (a.2*(10^pl)) b.1))]) (cF  rfl ?_) O Z;refine ag (t:=6) (cs:=[S (nS ((a.1*(10^pl))/b.2)),S (nS (gl (a.2*(10^pl)) b.1))]) (b:=A2.heap.size) (o:=0) gX Z bZ ?_ ?_;exact Z;exact aa1 Av (i:=0) Z
def lR {a:N2}(ha:Bk 190 a)(hn:n<=100000000)(hd:d<=100000000)(h0:0<d):
 CL 260 #[.agg #[S (nS a.1),S (nS a.2)],.int .i64 n,.int .i64 d] w (aC w λv w'=>v=.agg #[S (nS ((cH a n d).1)),S (nS ((cH a n d).2))]):=by
 have fa:=ha.fi dc;refine aE func260 Z (I ?_);refine bx (λqn Ar qr=>?_);have O:=Ar.2;refine al cj (λ_ Af W=>?_);have⟨qr,O⟩:=bD Af.2 qr O;refine I ?_;refine cl Me (AW hn) ?_;rintro _ _ Ad rfl;have⟨qr,W,O⟩:=bC Ad.2 qr W O;refine I ?_;refine cl Me (AW hd) ?_;rintro _ _ Av rfl;have⟨qr,W,O⟩:=bC Av.2 qr W O;refine I ?_;refine bY 11 ?_;refine sf ?_;refine aF (V:=S (nS (a.1*n))) (λ_ _ _ _=>?_) ?_;refine clb kq (hc:=fG Z Z fa.1 (ek (k:=9) U dc) (cV (m:=9) ha.1 U dc)) (hk:=?_);rintro _ _ Ap rfl;have Ao:=Ap.2;refine I ?_;exact fs ⟨Ao,rfl⟩;refine sf ?_;refine aF (V:=S (nS ((a.1*n)/d))) (λ_ _ _ _=>?_) ?_;refine clb ie (hc:=ln Z Z (cV (m:=9) ha.1 U dc) (ek (k:=9) U dc) h0) (hk:=?_);rintro _ _ As rfl;have Aq:=As.2;refine I ?_;exact fs ⟨Aq,rfl⟩;refine sf ?_;refine aF (V:=S (nS (a.2*n))) (λ_ _ _ _=>?_) ?_;refine clb kq (hc:=fG Z Z fa.2 (ek (k:=9) U dc) (cV (m:=9) ha.2 U dc)) (hk:=?_);rintro _ _ Aw rfl;have wr:=Aw.2;refine I ?_;exact fs ⟨wr,rfl⟩;refine sf ?_;intro _ _ A2 _;have⟨qr,W,O⟩:=bC A2.2 qr W O;refine clb ie (hc:=pS Z Z (cV (m:=9) ha.2 U dc) (ek (k:=9) U dc) h0) (hk:=?_);rintro _ _ Am rfl;have⟨qr,W,O⟩:=bC Am.2 qr W O
 refine ac (aV (vs:=[(0,S (nS ((a.1*n)/d))),(1,S (nS (gl (a.2*n) d)))]) (cells:=#[S (nS ((a.1*n)/d)),S (nS (gl (a.2*n) d))]) (pl:=[(0,1),(1,1)]) gX cj lX Z lX ?_);refine ac (bg (b:=qn.heap.size) (o:=0) (vs:=[S (nS ((a.1*n)/d)),S (nS (gl (a.2*n) d))]) bZ Z Z MT W (qa3 Z) (λ_ A1 Ab=>?_));have qr:=pb A1 qr;have O:=bB A1 O;refine I ?_;refine aI (v:=.agg #[S (nS ((a.1*n)/d)),S (nS (gl (a.2*n) d))]) (cF  rfl ?_) O Z;refine ag (t:=6) (cs:=[S (nS ((a.1*n)/d)),S (nS (gl (a.2*n) d))]) (b:=qn.heap.size) (o:=0) gX Z bZ ?_ ?_;exact Z;exact aa1 Ab (i:=0) Z
def pU (hp:pl<=90):
 CL 228 #[.int .i64 pl] w (aC w λv w'=>v=.agg #[S (nS (((10^pl),(10^pl)).1)),S (nS (((10^pl),(10^pl)).2))]):=by
 refine aE func228 Z (I ?_);refine al cj (λ_ A2 qr=>?_);have O:=A2.2;refine I ?_;refine clb eC (hc:=cN (pl:=(pl)) U) (hk:=?_);rintro _ _ Ab rfl;have⟨qr,O⟩:=bD Ab.2 qr O;refine I ?_;refine clb eC (hc:=cN (pl:=(pl)) U) (hk:=?_);rintro _ _ qn rfl;have⟨qr,O⟩:=bD qn.2 qr O;refine ac (aV (vs:=[(0,S (nS (10^pl))),(1,S (nS (10^pl)))]) (cells:=#[S (nS (10^pl)),S (nS (10^pl))]) (pl:=[(0,1),(1,1)]) gX cj lX Z lX ?_);refine ac (bg (b:=w.heap.size) (o:=0) (vs:=[S (nS (10^pl)),S (nS (10^pl))]) bZ Z Z MT qr (qa3 Z) (λ_ A1 W=>?_));have O:=bB A1 O;refine I ?_;refine aI (v:=.agg #[S (nS (10^pl)),S (nS (10^pl))]) (cF  rfl ?_) O Z;refine ag (t:=2) (cs:=[S (nS (10^pl)),S (nS (10^pl))]) (b:=w.heap.size) (o:=0) gX Z bZ ?_ ?_;exact Z;exact aa1 W (i:=0) Z
def oL {a:N2}(ha:Fi a.2):
 CL 262 #[.agg #[S (nS a.1),S (nS a.2)]] w (aC w λv w'=>v=.tuple #[.bool (decide (aG ((a.2:Nat):Int) ((2:Nat):Int)<=0)),.bool (decide (nS a.2=[48]))]):=by
 refine aE func262 Z (I ?_);refine bx (λ_ qn _=>?_);have O:=qn.2;refine I ?_;refine bY 8 ?_;refine sf ?_;refine aF (V:=.int .i64 (aG ((a.2:Nat):Int) ((2:Nat):Int))) (λ_ _ _ _=>?_) ?_;refine clb tK (hc:=nB Z uF ha (ek (k:=1) dc dc)) (hk:=?_);rintro _ _ A1 rfl;have W:=A1.2;refine I ?_;exact fs ⟨W,rfl⟩;refine sf ?_;refine bl (λ_ _ _ _=>by refine qO (b:=[48]) ?_;refine I ?_;exact cz) ?_;refine sf ?_;intro _ _ qr _;have O:=xt O qr.2;refine I ?_;exact bN (t:=2) (u:=3) (v1:=.bool (decide ((aG ((a.2:Nat):Int) ((2:Nat):Int))<=0))) (v2:=.bool (decide ((nS a.2)=([48])))) Z O Z Z Z
end
section
open Go Go.Eng Go.RowKit Proofs.Tryz
def vt (a r:Nat):Prop:=r*r<=a/\a<(r+1)*(r+1)
def GX (S:Nat):Nat->N2->Nat->Option (N2×Nat)
 |0,_,_=>none
 |f+1,y,h=>if kO y=true then if S/4<y.2 then GX S f (cH y 1 2) (h+1)else some (y,h)else none
def PC (S:Nat)(x:N2):Nat->Nat->N2->N2->Option (N2×N2)
 |0,_,_,_=>none
 | f +1,n,t,s=>if kO t=true/\kO s=true then
  if(cH (cg S t x) 1 n).2<=2 then some (fE s (cH (cg S t x) 1 n),cH (cg S t x) 1 n)else PC S x f (n+1) (cH (cg S t x) 1 n) (fE s (cH (cg S t x) 1 n))else none
def Gh (S:Nat)(x:N2):Option N2:=(GX S 200 x 0).bind λp=>(PC S p.1 199 1 (S,S) (S,S)).bind λq=>if kO q.1=true/\kO q.2=true then y6 S p.2 (q.1.1,q.1.2+q.2.2)else none
section
variable {S f h:Nat}{x y t s q r c:N2}{p:N2×Nat}{u:N2×N2}
def XV (hh:GX S f y h=some p)(hl:S/4<y.2):∃g,f=g+1/\Bk 95 y/\GX S g (cH y 1 2) (h+1)=some p:=by
 cases f with
 |zero=>cases hh
 | succ g=>
   rw[GX]at hh
   by_cases hb:kO y=true
   · rw[if_pos hb,if_pos hl]at hh;exact⟨g,rfl,df hb,hh⟩
   · rw[if_neg hb]at hh;cases hh
def XX (hh:GX S f y h=some p)(hl:¬S/4<y.2):p=(y,h)/\Bk 95 y:=by
 cases f with
 |zero=>cases hh
 | succ g=>
   rw[GX]at hh
   by_cases hb:kO y=true
   · rw[if_pos hb,if_neg hl]at hh;cases hh;exact⟨rfl,df hb⟩
   · rw[if_neg hb]at hh;cases hh
def V8 (hh:GX S f y h=some p):Bk 95 y:=by
 cases f with
 |zero=>cases hh
 | succ g=>
   rw[GX]at hh
   by_cases hb:kO y=true
   · exact df hb
   · rw[if_neg hb]at hh;cases hh
def SN (hh:PC S x f n t s=some u):∃g,f=g+1/\Bk 95 t/\Bk 95 s/\
 ((cH (cg S t x) 1 n).2<=2->u=(fE s (cH (cg S t x) 1 n),cH (cg S t x) 1 n))/\(¬(cH (cg S t x) 1 n).2<=2->PC S x g (n+1) (cH (cg S t x) 1 n) (fE s (cH (cg S t x) 1 n))=some u):=by
 cases f with
 |zero=>cases hh
 | succ g=>
   unfold PC at hh
   split at hh
   · rename_i hb
     refine⟨g,rfl,df hb.1,df hb.2,λh=>?_,λh=>?_⟩
     · rw[if_pos h]at hh;cases hh;rfl
     · rw[if_neg h]at hh;exact hh
   · cases hh
def Ks (hh:Gh S x=some r):∃p u,GX S 200 x 0=some p/\PC S p.1 199 1 (S,S) (S,S)=some u/\Bk 95 u.1/\Bk 95 u.2/\y6 S p.2 (u.1.1,u.1.2+u.2.2)=some r:=by
 unfold Gh at hh
 cases hp:GX S 200 x 0 with
 |none=>rw[hp]at hh;cases hh
 | some p=>
   rw[hp,Option.bind_some]at hh
   cases hu:PC S p.1 199 1 (S,S) (S,S)with
   |none=>rw[hu]at hh;cases hh
   | some u=>
     rw[hu,Option.bind_some]at hh
     split at hh
     · rename_i hb;exact⟨p,u,rfl,hu,df hb.1,df hb.2,hh⟩
     · cases hh
end
def AX:Nat->Nat->N2->N2->Option (N2×N2)
 |0,_,_,_=>none
 | f +1,n,t,s=>if kO t=true/\kO s=true then
  if(cH t n (2*n+1)).2<=2 then some (fE s (cH t n (2*n+1)),cH t n (2*n+1))else AX f (n+1) (cH t n (2*n+1)) (fE s (cH t n (2*n+1)))else none
def V9 (S:Nat):Option N2:=(AX 399 1 (S,S) (S,S)).bind λq=>if kO q.1=true/\kO q.2=true then some (cH (q.1.1,q.1.2+q.2.2) 2 1)else none
section
variable {S f:Nat}{t s p:N2}{u:N2×N2}
def NX (hh:AX f n t s=some u):∃g,f=g+1/\Bk 95 t/\Bk 95 s/\
 ((cH t n (2*n+1)).2<=2->u=(fE s (cH t n (2*n+1)),cH t n (2*n+1)))/\(¬(cH t n (2*n+1)).2<=2->AX g (n+1) (cH t n (2*n+1)) (fE s (cH t n (2*n+1)))=some u):=by
 cases f with
 |zero=>cases hh
 | succ g=>
   unfold AX at hh
   split at hh
   · rename_i hb
     refine⟨g,rfl,df hb.1,df hb.2,λh=>?_,λh=>?_⟩
     · rw[if_pos h]at hh;cases hh;rfl
     · rw[if_neg h]at hh;exact hh
   · cases hh
def EN (hh:V9 S=some p):∃u,AX 399 1 (S,S) (S,S)=some u/\Bk 95 u.1/\Bk 95 u.2/\p=cH (u.1.1,u.1.2+u.2.2) 2 1:=by
 unfold V9 at hh
 cases hu:AX 399 1 (S,S) (S,S)with
 |none=>rw[hu]at hh;cases hh
 | some u=>
   rw[hu,Option.bind_some]at hh
   split at hh
   · rename_i hb;cases hh;exact⟨u,rfl,df hb.1,df hb.2,rfl⟩
   · cases hh
end
def PD (S:Nat)(q:N2):Nat->Nat->N2->N2->Option (N2×N2)
 |0,_,_,_=>none
 | f +1,n,t,s=>if kO t=true/\kO s=true then
  let u:=cH (cg S t q) 1 n
  if u.2<=2/\u.2*2<=t.2 then some (fE s u,u)else PD S q f (n+2) u (fE s u)else none
def SP {S f:Nat}{q t s:N2}{u:N2×N2}(hh:PD S q f n t s=some u):∃g,f=g+1/\Bk 95 t/\Bk 95 s/\
 ((cH (cg S t q) 1 n).2<=2/\(cH (cg S t q) 1 n).2*2<=t.2->u=(fE s (cH (cg S t q) 1 n),cH (cg S t q) 1 n))/\(¬((cH (cg S t q) 1 n).2<=2/\(cH (cg S t q) 1 n).2*2<=t.2)->PD S q g (n+2) (cH (cg S t q) 1 n) (fE s (cH (cg S t q) 1 n))=some u):=by
 cases f with
 |zero=>cases hh
 | succ g=>
   unfold PD at hh
   split at hh
   · rename_i hb
     refine⟨g,rfl,df hb.1,df hb.2,λh=>?_,λh=>?_⟩
     · rw[if_pos h]at hh;cases hh;rfl
     · rw[if_neg h]at hh;exact hh
   · cases hh
def Gj (S:Nat)(c:N2)(n d:Nat):Option N2:=
 let v:=bV S n d
 let q:=cg S v v
 if kO v=true/\kO q=true then(PD S q 399 3 v v).bind λp=>(Gh S (cH q 1 2)).bind λe=>
  if kO p.1=true/\kO p.2=true/\kO (p.1.1,p.1.2+(p.2.2+2))=true/\kO e=true/\kO c=true/\0<(cg S e c).1/\0<(cg S e c).2 then some (vQ S (p.1.1,p.1.2+(p.2.2+2)) (cg S e c))else none
 else none
def Kt {S:Nat}{c r:N2}(hh:Gj S c n d=some r):Bk 95 (bV S n d)/\Bk 95 (cg S (bV S n d) (bV S n d))/\∃p e,PD S (cg S (bV S n d) (bV S n d)) 399 3 (bV S n d) (bV S n d)=some p/\Gh S (cH (cg S (bV S n d) (bV S n d)) 1 2)=some e/\
 Bk 95 p.1/\Bk 95 p.2/\Bk 95 (p.1.1,p.1.2+(p.2.2+2))/\Bk 95 e/\Bk 95 c/\0<(cg S e c).1/\0<(cg S e c).2/\r=vQ S (p.1.1,p.1.2+(p.2.2+2)) (cg S e c):=by
 unfold Gj at hh
 simp only at hh
 split at hh
 · rename_i hb
   refine⟨df hb.1,df hb.2,?_⟩
   cases hp:PD S (cg S (bV S n d) (bV S n d)) 399 3 (bV S n d) (bV S n d)with
   |none=>rw[hp]at hh;cases hh
   | some p=>
     rw[hp,Option.bind_some]at hh
     cases he:Gh S (cH (cg S (bV S n d) (bV S n d)) 1 2)with
     |none=>rw[he]at hh;cases hh
     | some e=>
       rw[he,Option.bind_some]at hh
       split at hh
       · rename_i h;cases hh;exact⟨p,e,rfl,rfl,df h.1,df h.2.1,df h.2.2.1,df h.2.2.2.1,df h.2.2.2.2.1,h.2.2.2.2.2.1,h.2.2.2.2.2.2,rfl⟩
       · cases hh
 · cases hh
def mX (S:Nat)(c:N2):Prop:=∃p x y,V9 S=some p/\kO (cH p 2 1)=true/\vt ((cH p 2 1).1*S) x/\vt ((cH p 2 1).2*S) y/\kO (x,y+1)=true/\c=(x,y+1)
end
section
set_option maxRecDepth 100000
open Go Go.Eng Go.RowKit Proofs.Tryz
attribute [local irreducible] wpListIn Code.wpIn Oper.wpIn Exit.then Exit.inBlock Exit.noGoto
set_option maxHeartbeats 40000000
structure Ku (a n i:Nat)(T:List Nat):Prop where
 lt:∀d∈T,d<10
 len:i+T.length=n
 lo:10^i*b8 10 T*(10^i*b8 10 T)<=a
 hi:a<10^i*(b8 10 T+1)*(10^i*(b8 10 T+1))
def Ku.start (h:a<10^(n+n)):Ku a n n []:=⟨λd h=>(List.not_mem_nil h).elim,rfl,by simp[b8],by rw[Nat.pow_add]at h;simpa[b8]using h⟩
def Kv (i:Nat)(T:List Nat):b8 10 (QL i T)=10^i*b8 10 T:=by
 unfold QL
 rw[cS,List.length_replicate]
 have:∀k,b8 10 (List.replicate k 0)=0:=λk=>by
  induction k with
  |zero=>rfl
  |succ k ih=>rw[List.replicate_succ];show 0+10*b8 10 (List.replicate k 0)=0;rw[ih]
 rw[this,Nat.zero_add]
def wU (h:∀d∈T,d<10):∀d∈QL i T,d<10:=λd hd=>by
 unfold QL at hd
 rcases List.mem_append.1 hd with h1|h1
 · have:=List.eq_of_mem_replicate h1;omega
 · exact h d h1
def nD (hc:c<=9)(h:∀d∈T,d<10):∀d∈c::T,d<10:=λd hd=>by
 rcases List.mem_cons.1 hd with h1|h1
 · omega
 · exact h d h1
def L0 (j c:Nat)(T:List Nat):Nat:=10^j*b8 10 (c::T)*(10^j*b8 10 (c::T))
def EO (c:Nat)(T:List Nat):b8 10 (c::T)=c+10*b8 10 T:=rfl
def Ku.top (h:Ku a n i T)(h0:0<i):a<L0 (i-1) (9+1) T:=by
 have h1:=h.hi
 unfold L0
 rw[EO]
 have e:10^i=10^(i-1)*10:=by rw[<-Nat.pow_succ];congr 1;omega
 have O:10^i*(b8 10 T+1)=10^(i-1)*(9+1+10*b8 10 T):=by rw[e,Nat.mul_assoc];congr 1;omega
 rw[O]at h1;exact h1
def Ku.step (h:Ku a n i T)(h0:0<i)(hc:c<=9)(hu:a<L0 (i-1) (c+1) T)(hd:c=0\/¬a<L0 (i-1) c T):Ku a n (i-1) (c::T):=by
 refine⟨nD hc h.lt,by have:=h.len;rw[List.length_cons];omega,?_,?_⟩
 · rcases hd with rfl|hd
   · have h1:=h.lo
     have e:10^i*b8 10 T=10^(i-1)*b8 10 (0::T):=by
      have e:10^i=10^(i-1)*10:=by rw[<-Nat.pow_succ];congr 1;omega
      rw[EO,e,Nat.mul_assoc];congr 1;omega
     rw[<-e];exact h1
   · unfold L0 at hd;omega
 · have e:b8 10 (c::T)+1=b8 10 ((c+1)::T):=by rw[EO,EO];omega
   rw[e];exact hu
def Ku.fin (h:Ku a n 0 T):vt a (b8 10 T):=by
 have h1:=h.lo;have h2:=h.hi
 simp only[Nat.pow_zero,Nat.one_mul]at h1 h2
 exact⟨h1,h2⟩
def yM (j c:Nat)(T:List Nat):b8 10 (QL j (c::T))*b8 10 (QL j (c::T))=L0 j c T:=by rw[Kv];rfl
def NY {r:Nat}(h:vt a r)(ha:a<10^200):r<10^101:=by
 rcases Nat.lt_or_ge r (10^101)with h1|h1
 · exact h1
 · have h2:=qb7 h1 h1
   have h3:=h.1
   have:10^101*10^101=10^202:=by rw[<-Nat.pow_add]
   have h4:(10:Nat)^200<=10^202:=Nat.pow_le_pow_right U U
   omega
def SQ {r:Nat}(h:r<10^101):gj (bw (cK false r))=.tuple #[S (nS r),.int .i64 0]:=by
 have hf:fits (cK false r)=true:=by unfold fits;rw[iH];exact qa1 (Nat.lt_trans h (Nat.pow_lt_pow_right U U))
 unfold bw;rw[if_pos hf];rfl
def AY {b:Nat}(h:b<a):(0:Int)<aG (a:Int) (b:Int):=by rw[dk U];omega
def AZ {b:Nat}(h:¬b<a):¬(0:Int)<aG (a:Int) (b:Int):=by
 rcases Nat.eq_or_lt_of_le (Nat.le_of_not_lt h)with h1|h1
 · rw[fK U];omega
 · rw[dE U];omega
def Gk (hc:c<=9)(hT:∀d∈T,d<10)(hl:i+(T.length+1)<=101):b8 10 (QL i (c::T))<10^101:=by
 have h1:=ji 10 (QL i (c::T)) (wU (nD hc hT))
 refine qb0 h1 (Nat.pow_le_pow_right U ?_)
 rw[gt,List.length_cons];exact hl
def Kw {r:Nat}(h:r<10^101):(av 10 (r*r)).length<=202:=by
 rw[aW 10 U]
 exact eK h h
def vu (a:Nat):nS a=bQ a:=by unfold nS ae;rw[if_neg U,Int.natAbs_natCast]
def tg (h:Fi a):0<(nS a).length:=by
 have h1:=eF h.z.int
 rw[show(ae (a:Int))=nS a from rfl,vu,o9 (lJ a)]at h1
 rw[vu];exact(jB h1).1
def PE (h:Fi a):¬((((nS a).getD 0 0).toNat:Nat):Int)=45:=λe=>by
 have h1:=tg h
 have h2:=lJ a
 rw[<-vu]at h2
 obtain⟨c,l,hl⟩:∃c l,nS a=c::l:=by
  cases hn:nS a with
  |nil=>rw[hn]at h1;simp at h1
  |cons c l=>exact⟨c,l,rfl⟩
 rw[hl]at e h2
 refine h2 ?_
 have qr:c.toNat=45:=by have O:=e;simp at O;omega
 have:c=45:=by apply UInt8.toNat_inj.1;rw[qr];rfl
 rw[this];rfl
structure wV (w:World)(lo hi:Nat)(A:Option Addr)(n c a:Nat):Prop where
 d:Dg w lo A n c a
 u:∀ad,A=some ad->ad.block<hi
def wV.ext {hi:Nat}(k:bF w w')(h:wV w lo hi A n c a):wV w' lo hi A n c a:=⟨h.d.ext k,h.u⟩
def wV.put {hi b:Nat}(k:fU w w' b)(hb:b<lo\/hi<=b)(h:wV w lo hi A n c a):wV w' lo hi A n c a:=by
 rcases hb with hb|hb
 · exact⟨⟨h.d.row.put k hb,h.d.len,h.d.cap⟩,h.u⟩
 · refine⟨⟨⟨λj u hu=>?_,h.d.row.lo,λO e=>by have:=h.d.row.hi O e;rw[k.size];exact this⟩,h.d.len,h.d.cap⟩,h.u⟩
   obtain⟨c,o,hA,hc⟩:=h.d.row.cells j u hu
   have h1:=h.u _ hA
   exact⟨c,o,hA,by rw[k.cell (by simp only at h1 ⊢;omega)];exact hc⟩
def pV (hr:Rw w lo A (ints xs))(hn:xs.length=n)(hb:n<=1000000)(hd:∀d∈xs,d<10):
 CL 291 #[.slice A n c] w (aC w λv w'=>∃A m d,v=.slice A m d/\Dg w' w.heap.size A m d (b8 10 xs)):=by
 refine aE func291 Z (I ?_);refine ac (H2 ju mf (λ_ qn _ W=>?_));have O:=qn;have As:=bz qn;refine I ?_;refine ac (me (v:=.slice (some ⟨w.heap.size,0,none⟩) 0 0) (k:=0) ju mf Z dc Z W Z (hr.ext O) (by rw[eo,hn,Nat.mul_one]) o5 DQ U U (λ_ Ap qr Am _=>?_));have O:=cI O Am (bz O) (λg Ao=>by have:=(W.lt g Ao).1;omega);obtain⟨Aw,A2,rfl,Ad,Aq,-,-⟩:=eT qr;have hs:Rw Ap w.heap.size Aw (ints xs):=aa4 qr;refine clb we (hc:=jE hs (by rw[hn,Nat.zero_add]) Ad U) (hk:=?_);rintro _ _ A1 ⟨m1,rfl,Ab,Ar⟩;have O:=xt O A1.2;have Af:=hs.ext A1.2;refine I ?_;exact ax (t:=2) (v:=.slice Aw m1 A2) Z O ⟨Aw,m1,A2,rfl,(Dg.trim Af hd Z Ab U U).mono U⟩ Z
def Gl (ha:Fi a):
 CL 282 #[S (nS a)] w (aC w λv w'=>∃r,v=.tuple #[S (nS r),.int .i64 0]/\vt a r):=by
 have T2:isInt (nS a)=true:=ha.z.int;have ZA:=tg ha;refine aE func282 Z (I ?_);refine cl jh (cB (bX (nS a) _ (cX ha.z)) T2) ?_;rintro _ _ ny rfl;have Ar:=ny.2;refine I ?_;have od:=dD (l:=nS a) (i:=0) U;refine ac (fW (l:=nS a) (i:=0) (c:=((nS a).getD 0 0)) U9 Z Z od ?_);have Z5:=PE ha;refine I ?_;refine cl qG (dA (nS a) _ ha.z.int) ?_;rintro _ A1 Ne ⟨Ad,qr,Ax,rfl,Ap⟩;have Ar:=xt Ar Ne.2;rw[show aN (body (nS a))=a from by unfold nS;rw[fq,gh];rfl]at Ap;rw[show neg (nS a)=false from by unfold nS;rw[iC];simp];have L2:=Ap.len;have Z9:qr<=200:=by rw[<-L2];exact(aW 10 U a 200).2 ha
 have Ap:=Ap.mono (lo':=w.heap.size) U;have Kp:=Ap.row.hi;have O:wV A1 w.heap.size A1.heap.size Ad qr Ax a:=⟨Ap,Kp⟩;have Z0:a<10^(((qr+1)/2)+((qr+1)/2)):=qb0 ((aW 10 U a qr).1 U) (Nat.pow_le_pow_right U U);refine I ?_;refine wl ?_;refine ac (oR (a:=(qr:Int)+1) (b:=2) (c:=((qr:Int)+1)/2) Z Z U U L7 Z ?_);refine ac (tD (m:=((qr+1)/2)) ju mf Z Z U DQ (λ_ F3 _ Ek=>?_));have O:=wV.ext F3 O;have Ar:=xt Ar F3;have hq:=sN Ek;rw[oI]at hq;clear Ek;refine I ?_;refine vJ (I ?_);rw[<-AK]at hq;refine JT [(7,7),(29,56)] (λEP e W=>∃i:Nat,∃T:List Nat,(i=EP)/\(e 7=.int .i64 ((i:Int)-1))/\(i<=((qr+1)/2))/\(Ku a ((qr+1)/2) i T)/\(bF w W)/\(wV W w.heap.size A1.heap.size Ad qr Ax a)/\(au W A1.heap.size 3 (ints (QL i T)).toArray)) ((qr+1)/2) ⟨((qr+1)/2),[],rfl,(qb1 (Value.int .i64) U),(qa0 _),(Ku.start Z0),Ar,O,hq⟩ ?_;rintro _ _ _ ⟨i,T,rfl,Z8,Z3,A2,Am,O,hq⟩;by_cases hi:0<i;have W0:=bt hq;have W3:=A2.len;rw[EK T hi]at hq;refine I ?_;refine ac (ah (A:=some ⟨A1.heap.size,0,none⟩) (bk:=A1.heap.size) (o:=0) (m:=((qr+1)/2)) (c:=((qr+1)/2)) (i:=i-1) (oo:=i-1) ju eP Z Z (db Z U) U U ?_)
 refine ac (eG (b:=A1.heap.size) (o:=i-1) (v:=.int .i64 ((9:Nat):Int)) eP Z Z Z hq ka1 (λ_ Ix E7=>?_));have O:=wV.put Ix U O;have Am:=bB Ix Am;have hq:=E7;rw[ints_set]at hq;rw[CK]at hq;refine I ?_;refine JT [(36,56)] (λEP e W=>∃c:Nat,(c=EP)/\(c<=9)/\(a<L0 (i-1) (c+1) T)/\(bF w W)/\(wV W w.heap.size A1.heap.size Ad qr Ax a)/\(au W A1.heap.size 3 (ints (QL (i-1) (c::T))).toArray)) (9) ⟨9,rfl,(qa0 _),(A2.top hi),Am,O,hq⟩ ?_;rintro _ _ _ ⟨c,rfl,Ab,F8,qn,O,hq⟩;by_cases hc0:0<c;by_cases hgt:a<L0 (i-1) c T;refine I ?_;refine ac (ah (A:=some ⟨A1.heap.size,0,none⟩) (bk:=A1.heap.size) (o:=0) (m:=((qr+1)/2)) (c:=((qr+1)/2)) (i:=i-1) (oo:=i-1) ju eP Z Z (db Z U) U U ?_);refine ac (bP (v:=.int .i64 (((QL (i-1) (c::T)).getD (i-1) 0:Nat):Int)) U3 Z Z (aa9 hq (by rw[List.getElem?_toArray];exact bE DP)) ?_);rw[vi];refine I ?_;have E0:=ab5 hq (qa0 _);refine clb xE (hc:=pV E0 DP U (wU (nD Ab A2.lt))) (hk:=?_);rintro _ _ F7 ⟨Am1,E4,No,rfl,Af⟩;have O:=wV.ext F7.2 O;have⟨hq,qn⟩:=bD F7.2 hq qn;have EW:=Af.len
 have K2:E4<=101:=by rw[<-EW,aW 10 U];exact Gk Ab A2.lt U
 refine I ?_;have E1:=ab5 hq (qa0 _);refine clb xE (hc:=pV E1 DP U (wU (nD Ab A2.lt))) (hk:=?_);rintro _ _ Av ⟨Am2,EE,R1,rfl,Aq⟩;have O:=wV.ext Av.2 O;have hq:=be Av.2 hq;have Af:=ab2 Av.2 Af;have qn:=xt qn Av.2;have Ay:=Aq.len;have Z2:EE<=101:=by rw[<-Ay,aW 10 U];exact Gk Ab A2.lt U
 refine I ?_;refine clb Hc (hc:=oJ Af U Aq U) (hk:=?_);rintro _ _ F4 ⟨Am3,Aw,W1,rfl,Ao⟩;have O:=wV.ext F4.2 O;have⟨hq,qn⟩:=bD F4.2 hq qn;rw[yM]at Ao;have E9:=Ao.len;have Wa:Aw<=202:=by rw[<-E9,<-yM];exact Kw (Gk Ab A2.lt U)
 refine I ?_;refine clb tM (hc:=gT Ao U O.d U) (hk:=?_);rintro _ _ G3 rfl;have O:=wV.ext G3.2 O;have⟨hq,qn⟩:=bD G3.2 hq qn;have Z7:=AY hgt;refine I ?_;refine ac (ah (A:=some ⟨A1.heap.size,0,none⟩) (bk:=A1.heap.size) (o:=0) (m:=((qr+1)/2)) (c:=((qr+1)/2)) (i:=i-1) (oo:=i-1) ju eP Z Z (db Z U) U U ?_);refine ac (bP (v:=.int .i64 (((QL (i-1) (c::T)).getD (i-1) 0:Nat):Int)) U3 Z Z (aa9 hq (by rw[List.getElem?_toArray];exact bE DP)) ?_);rw[vi];refine ac (iT (a:=(c:Int)) (b:=1) (c:=((c-1:Nat):Int)) Z Z L7 U ?_);refine ac (ah (A:=some ⟨A1.heap.size,0,none⟩) (bk:=A1.heap.size) (o:=0) (m:=((qr+1)/2)) (c:=((qr+1)/2)) (i:=i-1) (oo:=i-1) ju eP Z Z (db Z U) U U ?_);refine ac (eG (b:=A1.heap.size) (o:=i-1) (v:=.int .i64 ((c-1:Nat):Int)) eP Z Z Z hq ka1 (λ_ F5 E7=>?_));have O:=wV.put F5 U O;have qn:=bB F5 qn;have hq:=E7;rw[ints_set]at hq;refine I ?_;exact c6 ⟨c-1,rfl,U,(by rw[show c-1+1=c by omega];exact hgt),qn,O,(by rw[CK]at hq;exact hq)⟩;have W2:c=0\/¬a<L0 (i-1) c T:=Or.inr hgt;refine I ?_
 refine ac (ah (A:=some ⟨A1.heap.size,0,none⟩) (bk:=A1.heap.size) (o:=0) (m:=((qr+1)/2)) (c:=((qr+1)/2)) (i:=i-1) (oo:=i-1) ju eP Z Z (db Z U) U U ?_);refine ac (bP (v:=.int .i64 (((QL (i-1) (c::T)).getD (i-1) 0:Nat):Int)) U3 Z Z (aa9 hq (by rw[List.getElem?_toArray];exact bE DP)) ?_);rw[vi];refine I ?_;have E0:=ab5 hq (qa0 _);refine clb xE (hc:=pV E0 DP U (wU (nD Ab A2.lt))) (hk:=?_);rintro _ _ G4 ⟨Am1,E4,No,rfl,Af⟩;have O:=wV.ext G4.2 O;have⟨hq,qn⟩:=bD G4.2 hq qn;have EW:=Af.len;have K2:E4<=101:=by rw[<-EW,aW 10 U];exact Gk Ab A2.lt U
 refine I ?_;have E1:=ab5 hq (qa0 _);refine clb xE (hc:=pV E1 DP U (wU (nD Ab A2.lt))) (hk:=?_);rintro _ _ As ⟨Am2,EE,R1,rfl,Aq⟩;have O:=wV.ext As.2 O;have hq:=be As.2 hq;have Af:=ab2 As.2 Af;have qn:=xt qn As.2;have Ay:=Aq.len;have Z2:EE<=101:=by rw[<-Ay,aW 10 U];exact Gk Ab A2.lt U
 refine I ?_;refine clb Hc (hc:=oJ Af U Aq U) (hk:=?_);rintro _ _ F1 ⟨Am3,Aw,W1,rfl,Ao⟩;have O:=wV.ext F1.2 O;have⟨hq,qn⟩:=bD F1.2 hq qn;rw[yM]at Ao;have E9:=Ao.len;have Wa:Aw<=202:=by rw[<-E9,<-yM];exact Kw (Gk Ab A2.lt U)
 refine I ?_;refine clb tM (hc:=gT Ao U O.d U) (hk:=?_);rintro _ _ F2 rfl;have O:=wV.ext F2.2 O;have⟨hq,qn⟩:=bD F2.2 hq qn;have Z6:=AZ hgt;refine I ?_;refine ac (iT (a:=(i:Int)-1) (b:=1) (c:=((i-1:Nat):Int)-1) Z Z L7 U ?_);refine I ?_;exact c6 ⟨i-1,c::T,rfl,rfl,U,(A2.step hi Ab F8 U),qn,O,hq⟩;have W2:c=0\/¬a<L0 (i-1) c T:=Or.inl U;refine I ?_;refine ac (ah (A:=some ⟨A1.heap.size,0,none⟩) (bk:=A1.heap.size) (o:=0) (m:=((qr+1)/2)) (c:=((qr+1)/2)) (i:=i-1) (oo:=i-1) ju eP Z Z (db Z U) U U ?_);refine ac (bP (v:=.int .i64 (((QL (i-1) (c::T)).getD (i-1) 0:Nat):Int)) U3 Z Z (aa9 hq (by rw[List.getElem?_toArray];exact bE DP)) ?_);rw[vi];refine I ?_;refine ac (iT (a:=(i:Int)-1) (b:=1) (c:=((i-1:Nat):Int)-1) Z Z L7 U ?_);refine I ?_;exact c6 ⟨i-1,c::T,rfl,rfl,U,(A2.step hi Ab F8 U),qn,O,hq⟩;have W0:=bt hq;have X2:i=0:=J
 rw[X2]at A2 hq;have W3:=A2.len;have F6:=A2.fin;refine I ?_;have TT:=ab5 hq (qa0 _);refine clb we (hc:=jE TT (by rw[gt];omega) (qa0 _) U) (hk:=?_);rintro _ N1 Z1 ⟨S1,rfl,Jx,Wb⟩;have⟨hq,Am⟩:=bD Z1.2 hq Am;have T3:Dg N1 0 (some ⟨A1.heap.size,0,none⟩) S1 ((qr+1)/2) (b8 10 T):=(Dg.trim (ab5 hq (qa0 _)) (wU A2.lt) (by rw[Kv,Nat.pow_zero,Nat.one_mul]) Jx (by rw[gt];omega) Wb).mono (qa7 _);refine clb xp (hc:=fM (ir T3 U false) (SQ (NY F6 ha))) (hk:=?_);rintro _ _ T4 rfl;have Am:=xt Am T4.2;refine I ?_;exact bN (t:=2) (u:=3) (v1:=S (nS (b8 10 T))) (v2:=.int .i64 0) Z Am ⟨b8 10 T,rfl,F6⟩ Z Z
def vt.uniq {r s:Nat}(h:vt a r)(k:vt a s):r=s:=by
 rcases Nat.lt_trichotomy r s with h1|h1|h1
 · have:=qb7 (show r+1<=s by omega) (show r+1<=s by omega);have:=h.2;have:=k.1;omega
 · exact h1
 · have:=qb7 (show s+1<=r by omega) (show s+1<=r by omega);have:=k.2;have:=h.1;omega
def EQ {r:Nat}(ha:Fi a)(h:vt a r):CL 282 #[S (nS a)] w (aC w λv _=>v=.tuple #[S (nS r),.int .i64 0]):=by
 refine aC.mono (Gl ha) λv w' k=>?_
 obtain⟨s,e,hs⟩:=k
 rw[e,h.uniq hs]
def CU (h:aG (a:Int) ((2:Nat):Int)<=0):a<=2:=by
 rw[bS]at h;omega
def CV (h:¬aG (a:Int) ((2:Nat):Int)<=0):¬a<=2:=λh2=>by
 rw[bS]at h;omega
def XY:Fi 2:=by unfold Fi;decide
def YW:Fi 4:=by unfold Fi;decide
def nX {a b:N2}(ha:Bk 190 a)(hb:Bk 190 b):Fi (a.1+b.1)/\Fi (a.2+b.2):=by
 obtain⟨_,_⟩:=ha;obtain⟨_,_⟩:=hb
 unfold Fi
 have:(10:Nat)^190+10^190<=10^200:=by decide
 exact⟨by omega,by omega⟩
def ER {a:N2}(h:Bk k a):Bk k (cH a 1 n):=
 ⟨Nat.lt_of_le_of_lt (by simpa[cH]using Nat.div_le_self _ _) h.1,Nat.lt_of_le_of_lt (by unfold cH gl;simp only[Nat.mul_one];split <;>rename_i h1;exact Nat.div_le_self _ _;by_cases h0:n=0;subst h0;simp at h1 ⊢;omega;have:=lN (a:=a.2) (b:=n) U;unfold gl at this;rw[if_neg h1]at this;exact this) h.2⟩
def Gm {a:N2}{x y:Nat}(hp:pl<=90)(ha:Bk 95 a)(hx:vt (a.1*10^pl) x)(hy:vt (a.2*10^pl) y)(hy1:Fi (y+1)):
 CL 265 #[.agg #[S (nS a.1),S (nS a.2)],.int .i64 pl] w (aC w λv w'=>v=.agg #[S (nS ((x,y+1).1)),S (nS ((x,y+1).2))]):=by
 have hS:=y8 hp;have fa:=ha.fi dc;refine aE func265 Z (I ?_);refine bx (λqn A2 qr=>?_);have O:=A2.2;refine al cj (λ_ E1 W=>?_);have⟨qr,O⟩:=bD E1.2 qr O;refine I ?_;refine bY 10 ?_;refine sf ?_;refine aF (V:=S (nS (10^pl))) (λ_ _ _ _=>?_) ?_;refine clb eC (hc:=cN (pl:=(pl)) U) (hk:=?_);rintro _ _ Af rfl;have As:=Af.2;refine I ?_;exact fs ⟨As,rfl⟩;refine aF (V:=S (nS (a.1*(10^pl)))) (λ_ _ _ _=>?_) ?_;refine clb kq (hc:=fG Z Z fa.1 hS.fi (cV ha.1 hS.lt dc)) (hk:=?_);rintro _ _ E4 rfl;have Aq:=E4.2;refine I ?_;exact fs ⟨Aq,rfl⟩;refine aF (V:=.tuple #[S (nS x),.int .i64 0]) (λ_ _ _ _=>?_) ?_;refine clb HJ (hc:=EQ (cV ha.1 hS.lt dc) hx) (hk:=?_);rintro _ _ Ar rfl;have Aw:=Ar.2;refine I ?_;exact fs ⟨Aw,rfl⟩;refine sf ?_;intro _ _ E0 _;have⟨qr,W,O⟩:=bC E0.2 qr W O;refine I ?_;refine bY 10 ?_;refine sf ?_;refine aF (V:=S (nS (10^pl))) (λ_ _ _ _=>?_) ?_;refine clb eC (hc:=cN (pl:=(pl)) U) (hk:=?_);rintro _ _ E7 rfl;have Ad:=E7.2;refine I ?_;exact fs ⟨Ad,rfl⟩;refine aF (V:=S (nS (a.2*(10^pl)))) (λ_ _ _ _=>?_) ?_;refine clb kq (hc:=fG Z Z fa.2 hS.fi (cV ha.2 hS.lt dc)) (hk:=?_);rintro _ _ Ab rfl;have Av:=Ab.2;refine I ?_;exact fs ⟨Av,rfl⟩
 refine aF (V:=.tuple #[S (nS y),.int .i64 0]) (λ_ _ _ _=>?_) ?_;refine clb HJ (hc:=EQ (cV ha.2 hS.lt dc) hy) (hk:=?_);rintro _ _ Ao rfl;have Ax:=Ao.2;refine I ?_;exact fs ⟨Ax,rfl⟩;refine sf ?_;intro _ _ Ap _;have⟨qr,W,O⟩:=bC Ap.2 qr W O;refine I ?_;refine cl lE (gZ Z yh hy1) ?_;rintro _ _ Am rfl;have⟨qr,W,O⟩:=bC Am.2 qr W O;refine ac (aV (vs:=[(0,S (nS x)),(1,S (nS (y+1)))]) (cells:=#[S (nS x),S (nS (y+1))]) (pl:=[(0,1),(1,1)]) gX cj GS Z GS ?_);refine ac (bg (b:=qn.heap.size) (o:=0) (vs:=[S (nS x),S (nS (y+1))]) bZ Z Z MT W (qa3 Z) (λ_ A1 Ay=>?_));have qr:=pb A1 qr;have O:=bB A1 O;refine I ?_;refine aI (v:=.agg #[S (nS x),S (nS (y+1))]) (cF  rfl ?_) O Z;refine ag (t:=4) (cs:=[S (nS x),S (nS (y+1))]) (b:=qn.heap.size) (o:=0) gX Z bZ ?_ ?_;exact Z;exact aa1 Ay (i:=0) Z
def Kx {x r:N2}(hp:pl<=90)(he:Gh (10^pl) x=some r):
 CL 225 #[.agg #[S (nS x.1),S (nS x.2)],.int .i64 pl] w (aC w λv w'=>v=.agg #[S (nS r.1),S (nS r.2)]):=by
 have hS:=y8 hp;obtain⟨p,u,hv,hu,Z2,N1,hq⟩:=Ks he;refine aE func225 Z (I ?_);refine bx (λAv Z3 Ay=>?_);have wr:=Z3.2;refine al cj (λEW Z0 O=>?_);have⟨Ay,wr⟩:=bD Z0.2 Ay wr;refine I ?_;refine JT [(5,5),(12,22)] (λAs e W=>∃f:Nat,∃y:N2,∃h:Nat,(f=As)/\(e 5=.int .i64 h)/\(GX (10^pl) f y h=some p)/\(h+f<=200)/\(EW.heap.size<=W.heap.size)/\(bF w W)/\(au W Av.heap.size 191 #[S [],S []])/\(au W w.heap.size 191 #[S (nS y.1),S (nS y.2)])) (200) ⟨200,x,0,rfl,rfl,hv,U,(qa0 _),wr,O,Ay⟩ ?_;rintro _ _ _ ⟨f,y,h,rfl,ZF,Ar,hb,ZJ,qn,O,qr⟩;have hy:=V8 Ar;by_cases hl:(10^pl)/4<y.2;obtain⟨g,rfl,hy,G3⟩:=XV Ar hl;refine I ?_;refine bY 5 ?_;refine sf ?_;refine aF (V:=S (nS (10^pl))) (λ_ _ _ _=>?_) ?_;refine clb eC (hc:=cN (pl:=(pl)) U) (hk:=?_);rintro _ _ Ne rfl;have F4:=Ne.2;refine I ?_;exact fs ⟨F4,rfl⟩;refine aF (V:=S (nS ((10^pl)/4))) (λ_ _ _ _=>?_) ?_;refine clb ie (hc:=ln Z RJ hS.fi YW dc) (hk:=?_);rintro _ _ F2 rfl;have F3:=F2.2;refine I ?_;exact fs ⟨F3,rfl⟩;refine sf ?_;intro _ _ F6 _;have⟨O,qr,qn⟩:=bC F6.2 O qr qn;refine clb tK (hc:=nB Z Z (hy.fi dc).2 (Nat.lt_of_le_of_lt (Nat.div_le_self _ _) hS.fi)) (hk:=?_);rintro _ _ F8 rfl;have⟨O,qr,qn⟩:=bC F8.2 O qr qn
 have ZK:=AY hl;refine I ?_;refine clb ow (hc:=lR (n:=1) (d:=2) ((hy).mono dc) U U U) (hk:=?_);rintro _ _ Wb rfl;have⟨O,qr,qn⟩:=bC Wb.2 O qr qn;refine ac (bg (b:=w.heap.size) (o:=0) (vs:=[S (nS ((cH y 1 2).1)),S (nS ((cH y 1 2).2))]) bZ Z Z MT qr (qa3 Z) (λ_ ZD K2=>?_));have⟨O,qn,_⟩:=ks ZD O qn;refine I ?_;refine ac (bb (a:=(h:Int)) (b:=1) (c:=((h+1:Nat):Int)) Z Z L7 U ?_);refine I ?_;exact c6 ⟨g,cH y 1 2,h+1,rfl,rfl,G3,U,U,qn,O,K2⟩;obtain⟨E4,hy⟩:=XX Ar hl;have R1:p.1=y:=by rw[E4]
 have W3:p.2=h:=by rw[E4]
 rw[R1]at hu;rw[W3]at hq;refine I ?_;refine bY 5 ?_;refine sf ?_;refine aF (V:=S (nS (10^pl))) (λ_ _ _ _=>?_) ?_;refine clb eC (hc:=cN (pl:=(pl)) U) (hk:=?_);rintro _ _ W1 rfl;have Wa:=W1.2;refine I ?_;exact fs ⟨Wa,rfl⟩;refine aF (V:=S (nS ((10^pl)/4))) (λ_ _ _ _=>?_) ?_;refine clb ie (hc:=ln Z RJ hS.fi YW dc) (hk:=?_);rintro _ _ Z9 rfl;have Z6:=Z9.2;refine I ?_;exact fs ⟨Z6,rfl⟩;refine sf ?_;intro _ _ Z8 _;have⟨O,qr,qn⟩:=bC Z8.2 O qr qn;refine clb tK (hc:=nB Z Z (hy.fi dc).2 (Nat.lt_of_le_of_lt (Nat.div_le_self _ _) hS.fi)) (hk:=?_);rintro _ _ F5 rfl;have⟨O,qr,qn⟩:=bC F5.2 O qr qn;have ZM:=AZ hl;refine I ?_;refine cl xC (pU hp) ?_;rintro _ Ap G4 rfl;have⟨O,qr,qn⟩:=bC G4.2 O qr qn;refine al cj (λ_ S1 T2=>?_);have⟨O,qr,qn⟩:=bC S1.2 O qr qn;refine ac (bg (b:=Ap.heap.size) (o:=0) (vs:=[S (nS (((10^pl),(10^pl)).1)),S (nS (((10^pl),(10^pl)).2))]) bZ Z Z MT T2 (qa3 Z) (λ_ Kp Af=>?_));have⟨O,qr,qn,_⟩:=mD Kp O qr qn;refine I ?_;refine cl xC (pU hp) ?_;rintro _ Aw F7 rfl;have⟨O,qr,Af,qn⟩:=bW F7.2 O qr Af qn;refine al cj (λ_ ZC Z1=>?_);have⟨O,qr,Af,qn⟩:=bW ZC.2 O qr Af qn
 refine ac (bg (b:=Aw.heap.size) (o:=0) (vs:=[S (nS (((10^pl),(10^pl)).1)),S (nS (((10^pl),(10^pl)).2))]) bZ Z Z MT Z1 (qa3 Z) (λNo L2 W2=>?_));have⟨O,qr,Af,qn,_⟩:=l7 L2 O qr Af qn;refine I ?_;refine JT [(8,10),(27,45)] (λAs e W=>∃f:Nat,∃n:Nat,∃t:N2,∃s:N2,(f=As)/\(e 8=.int .i64 n)/\(PC (10^pl) y f n t s=some u)/\(n+f=200)/\(1<=n)/\(No.heap.size<=W.heap.size)/\(bF w W)/\(au W Av.heap.size 191 #[S [],S []])/\(au W w.heap.size 191 #[S (nS y.1),S (nS y.2)])/\(au W Ap.heap.size 191 #[S (nS s.1),S (nS s.2)])/\(au W Aw.heap.size 191 #[S (nS t.1),S (nS t.2)])) (199) ⟨199,1,((10^pl),(10^pl)),((10^pl),(10^pl)),rfl,rfl,hu,U,U,(qa0 _),qn,O,qr,Af,W2⟩ ?_;rintro _ _ _ ⟨f,n,t,s,rfl,ZO,Ar,ZG,ZI,ZL,A2,O,qr,Ab,Ao⟩;obtain⟨g,rfl,E0,E1,hT,hF⟩:=SN Ar;have ZN:n<200:=J
 have E9:Bk 190 (cg (10^pl) t y):=qZ hS.pos E0 hy;have Ax:Bk 190 (cH (cg (10^pl) t y) 1 n):=ER E9;refine I ?_;refine cl tV (jU hp E0 hy) ?_;rintro _ _ Ix rfl;have⟨O,qr,Ab,Ao,A2⟩:=eE Ix.2 O qr Ab Ao A2;refine I ?_;refine clb ow (hc:=lR (n:=1) (d:=(n)) E9 U U U) (hk:=?_);rintro _ _ Jx rfl;have⟨O,qr,Ab,Ao,A2⟩:=eE Jx.2 O qr Ab Ao A2;refine ac (bg (b:=Aw.heap.size) (o:=0) (vs:=[S (nS ((cH (cg (10^pl) t y) 1 n).1)),S (nS ((cH (cg (10^pl) t y) 1 n).2))]) bZ Z Z MT Ao (qa3 Z) (λ_ ZE A1=>?_));have⟨O,qr,Ab,A2,_⟩:=l7 ZE O qr Ab A2;refine I ?_;refine clb xD (hc:=nC (nX ((E1).mono dc) Ax).1 (nX ((E1).mono dc) Ax).2) (hk:=?_);rintro _ _ T4 rfl;have⟨O,qr,Ab,A1,A2⟩:=eE T4.2 O qr Ab A1 A2;refine ac (bg (b:=Ap.heap.size) (o:=0) (vs:=[S (nS ((fE s (cH (cg (10^pl) t y) 1 n)).1)),S (nS ((fE s (cH (cg (10^pl) t y) 1 n)).2))]) bZ Z Z MT Ab (qa3 Z) (λ_ X2 Am=>?_));have⟨O,qr,A1,A2,_⟩:=l7 X2 O qr A1 A2;refine I ?_;refine clb BW (hc:=oL (Ax.fi dc).2) (hk:=?_);rintro _ _ TT rfl;have⟨O,qr,Am,A1,A2⟩:=eE TT.2 O qr Am A1 A2;refine I ?_
 by_cases sc:aG ((((cH (cg (10^pl) t y) 1 n).2):Nat):Int) ((2:Nat):Int)<=0;have ZB:=hT (CU sc);subst ZB;refine I ?_;refine clb lE (hc:=gZ Z Z (nX (Z2.mono dc) (N1.mono dc)).2) (hk:=?_);rintro _ _ ZA rfl;have⟨O,qr,Am,A1,A2⟩:=eE ZA.2 O qr Am A1 A2;refine I ?_;refine SO Am (λF1 EE Ek=>?_);have⟨O,qr,A1⟩:=kt EE O qr A1;have A2:=bB EE A2;refine I ?_;refine JT [(11,11),(52,60)] (λAs e W=>∃i:Nat,∃a:N2,(h-i=As)/\(e 11=.int .i64 i)/\(i<=h)/\(y6 (10^pl) (h-i) a=some r)/\(F1.heap.size<=W.heap.size)/\(bF w W)/\(au W Av.heap.size 191 #[S [],S []])/\(au W w.heap.size 191 #[S (nS y.1),S (nS y.2)])/\(au W Aw.heap.size 191 #[S (nS ((cH (cg (10^pl) t y) 1 n).1)),S (nS ((cH (cg (10^pl) t y) 1 n).2))])/\(au W Ap.heap.size 191 #[S (nS a.1),S (nS a.2)])) (h-0) ⟨0,((fE s (cH (cg (10^pl) t y) 1 n)).1,((fE s (cH (cg (10^pl) t y) 1 n)).2)+((cH (cg (10^pl) t y) 1 n).2)),rfl,rfl,(qa7 _),hq,(qa0 _),A2,O,qr,A1,Ek⟩ ?_;rintro _ _ _ ⟨i,a,rfl,ZH,hi,E7,ZP,Ad,O,qr,A1,Aq⟩;by_cases hl2:i<h;obtain⟨ha,EP⟩:=U6 E7 hl2;refine I ?_;refine cl tV (jU hp ha ha) ?_;rintro _ _ W0 rfl;have⟨O,qr,A1,Aq,Ad⟩:=eE W0.2 O qr A1 Aq Ad
 refine ac (bg (b:=Ap.heap.size) (o:=0) (vs:=[S (nS ((cg (10^pl) a a).1)),S (nS ((cg (10^pl) a a).2))]) bZ Z Z MT Aq (qa3 Z) (λ_ ny Z7=>?_));have⟨O,qr,A1,Ad,_⟩:=l7 ny O qr A1 Ad;refine I ?_;refine ac (bb (a:=(i:Int)) (b:=1) (c:=((i+1:Nat):Int)) Z Z L7 U ?_);refine I ?_;exact c6 ⟨i+1,cg (10^pl) a a,rfl,rfl,U,EP,U,Ad,O,qr,A1,Z7⟩;obtain⟨rfl,_⟩:=U7 E7 hl2;refine I ?_;refine ac (bg (b:=Av.heap.size) (o:=0) (vs:=[S (nS a.1),S (nS a.2)]) bZ Z Z MT O (qa3 Z) (λ_ od Z5=>?_));have⟨qr,A1,Aq⟩:=kt od qr A1 Aq;have Ad:=bB od Ad;refine I ?_;refine aI (v:=.agg #[S (nS a.1),S (nS a.2)]) (cF  rfl ?_) Ad Z;refine ag (t:=4) (cs:=[S (nS a.1),S (nS a.2)]) (b:=Av.heap.size) (o:=0) gX Z bZ ?_ ?_;exact Z;exact aa1 Z5 (i:=0) Z;have T3:=hF (CV sc);refine I ?_;refine ac (bb (a:=(n:Int)) (b:=1) (c:=((n+1:Nat):Int)) Z Z L7 U ?_);refine I ?_;exact c6 ⟨g,n+1,cH (cg (10^pl) t y) 1 n,fE s (cH (cg (10^pl) t y) 1 n),rfl,rfl,T3,U,U,U,A2,O,qr,Am,A1⟩
def Ky {a b:N2}(ha:Bk 95 a)(hb:Bk 95 b):Bk 190 (a.1,a.2+b.2):=by
 obtain⟨h1,_⟩:=ha;obtain⟨_,_⟩:=hb
 have:(10:Nat)^95+10^95<=10^190:=by decide
 exact⟨fe h1 dc,by simp only;omega⟩
def ES {a b:N2}(ha:Bk 95 a)(hb:Bk 95 b):Fi (a.2+(b.2+2))/\Fi (b.2+2):=by
 obtain⟨_,_⟩:=ha;obtain⟨_,_⟩:=hb
 have:(10:Nat)^95+(10^95+2)<=10^200:=by decide
 unfold Fi
 exact⟨by omega,by omega⟩
def Zb {a:N2}(hd:0<d)(ha:Bk 95 a)(hn:n<10^95):Bk 190 (cH a n d):=IF (k:=95) (m:=95) hd ha hn
def SR {S:Nat}{p:N2}(h:V9 S=some p):Bk 190 p:=by
 obtain⟨u,_,h1,h2,rfl⟩:=EN h
 have h3:=Ky h1 h2
 obtain⟨⟨h4,W⟩,qr,O⟩:=And.intro h1 h2
 have:(10:Nat)^95+10^95<10^96:=by decide
 exact(IF (k:=96) (m:=1) dc (⟨fe h4 dc,by simp only;omega⟩:Bk 96 (u.1.1,u.1.2+u.2.2)) dc).mono dc
def Kz {b:Nat}(h:aG (a:Int) (b:Int)<=0):a<=b:=by rw[bS]at h;omega
def KA {b:Nat}(h:¬aG (a:Int) (b:Int)<=0):¬a<=b:=λh2=>by rw[bS]at h;omega
def NZ {p:N2}(hp:pl<=90)(hpi:V9 (10^pl)=some p):
 CL 266 #[.int .i64 pl] w (aC w λv w'=>v=.agg #[S (nS p.1),S (nS p.2)]):=by
 have hS:=y8 hp;obtain⟨u,hu,As,Ax,rfl⟩:=EN hpi;have EW:=Ky As Ax;refine aE func266 Z (I ?_);refine al cj (λ_ E1 O=>?_);have A1:=E1.2;refine I ?_;refine cl xC (pU hp) ?_;rintro _ Ao EP rfl;have⟨O,A1⟩:=bD EP.2 O A1;refine al cj (λ_ wr F5=>?_);have⟨O,A1⟩:=bD wr.2 O A1;refine ac (bg (b:=Ao.heap.size) (o:=0) (vs:=[S (nS (((10^pl),(10^pl)).1)),S (nS (((10^pl),(10^pl)).2))]) bZ Z Z MT F5 (qa3 Z) (λ_ F1 A2=>?_));have⟨O,A1,_⟩:=ks F1 O A1;refine I ?_;refine cl xC (pU hp) ?_;rintro _ Ap G3 rfl;have⟨O,A2,A1⟩:=bC G3.2 O A2 A1;refine al cj (λ_ E7 E4=>?_);have⟨O,A2,A1⟩:=bC E7.2 O A2 A1;refine ac (bg (b:=Ap.heap.size) (o:=0) (vs:=[S (nS (((10^pl),(10^pl)).1)),S (nS (((10^pl),(10^pl)).2))]) bZ Z Z MT E4 (qa3 Z) (λEk F3 F2=>?_));have⟨O,A2,A1,_⟩:=mD F3 O A2 A1;refine I ?_
 refine JT [(5,7),(12,30)] (λF4 e W=>∃f:Nat,∃n:Nat,∃t:N2,∃s:N2,(f=F4)/\(e 5=.int .i64 n)/\(AX f n t s=some u)/\(n+f=400)/\(1<=n)/\(Ek.heap.size<=W.heap.size)/\(bF w W)/\(au W w.heap.size 191 #[S [],S []])/\(au W Ao.heap.size 191 #[S (nS s.1),S (nS s.2)])/\(au W Ap.heap.size 191 #[S (nS t.1),S (nS t.2)])) (399) ⟨399,1,((10^pl),(10^pl)),((10^pl),(10^pl)),rfl,rfl,hu,U,U,(qa0 _),A1,O,A2,F2⟩ ?_;rintro _ _ _ ⟨f,n,t,s,rfl,N1,F7,Kp,L2,K2,qr,O,Ab,Am⟩;obtain⟨g,rfl,Ar,Av,hT,hF⟩:=NX F7;have Ne:n<400:=J
 have Aq:Bk 190 (cH t n (2*n+1)):=Zb U Ar (qb0 (show n<400 by omega) dc);refine I ?_;refine ac (l9 (a:=2) (b:=(n:Int)) (c:=((2*n:Nat):Int)) Z Z L7 U ?_);refine ac (bb (a:=((2*n:Nat):Int)) (b:=1) (c:=((2*n+1:Nat):Int)) Z Z L7 U ?_);refine clb ow (hc:=lR (n:=(n)) (d:=(2*n+1)) ((Ar).mono dc) U U U) (hk:=?_);rintro _ _ Ix rfl;have⟨O,Ab,Am,qr⟩:=bW Ix.2 O Ab Am qr;refine ac (bg (b:=Ap.heap.size) (o:=0) (vs:=[S (nS ((cH t n (2*n+1)).1)),S (nS ((cH t n (2*n+1)).2))]) bZ Z Z MT Am (qa3 Z) (λ_ E0 qn=>?_));have⟨O,Ab,qr,_⟩:=mD E0 O Ab qr;refine I ?_;refine clb xD (hc:=nC (nX ((Av).mono dc) Aq).1 (nX ((Av).mono dc) Aq).2) (hk:=?_);rintro _ _ EE rfl;have⟨O,Ab,qn,qr⟩:=bW EE.2 O Ab qn qr;refine ac (bg (b:=Ao.heap.size) (o:=0) (vs:=[S (nS ((fE s (cH t n (2*n+1))).1)),S (nS ((fE s (cH t n (2*n+1))).2))]) bZ Z Z MT Ab (qa3 Z) (λ_ Jx Ad=>?_));have⟨O,qn,qr,_⟩:=mD Jx O qn qr;refine I ?_;refine clb BW (hc:=oL (Aq.fi dc).2) (hk:=?_);rintro _ _ F6 rfl;have⟨O,Ad,qn,qr⟩:=bW F6.2 O Ad qn qr;refine I ?_
 by_cases ns:aG ((((cH t n (2*n+1)).2):Nat):Int) ((2:Nat):Int)<=0;have F8:=hT (CU ns);subst F8;refine I ?_;refine clb lE (hc:=gZ Z Z (nX (As.mono dc) (Ax.mono dc)).2) (hk:=?_);rintro _ _ Ay rfl;have⟨O,Ad,qn,qr⟩:=bW Ay.2 O Ad qn qr;refine I ?_;refine SO Ad (λ_ ny Af=>?_);have⟨O,qn⟩:=eR ny O qn;have qr:=bB ny qr;refine I ?_;refine clb ow (hc:=lR (n:=2) (d:=1) EW U U U) (hk:=?_);rintro _ _ od rfl;have⟨O,Af,qn,qr⟩:=bW od.2 O Af qn qr;refine ac (bg (b:=w.heap.size) (o:=0) (vs:=[S (nS ((cH ((fE s (cH t n (2*n+1))).1,((fE s (cH t n (2*n+1))).2)+((cH t n (2*n+1)).2)) 2 1).1)),S (nS ((cH ((fE s (cH t n (2*n+1))).1,((fE s (cH t n (2*n+1))).2)+((cH t n (2*n+1)).2)) 2 1).2))]) bZ Z Z MT O (qa3 Z) (λ_ Aw E9=>?_));have⟨Af,qn⟩:=eR Aw Af qn;have qr:=bB Aw qr;refine I ?_;refine aI (v:=.agg #[S (nS ((cH ((fE s (cH t n (2*n+1))).1,((fE s (cH t n (2*n+1))).2)+((cH t n (2*n+1)).2)) 2 1).1)),S (nS ((cH ((fE s (cH t n (2*n+1))).1,((fE s (cH t n (2*n+1))).2)+((cH t n (2*n+1)).2)) 2 1).2))]) (cF  rfl ?_) qr Z
 refine ag (t:=2) (cs:=[S (nS ((cH ((fE s (cH t n (2*n+1))).1,((fE s (cH t n (2*n+1))).2)+((cH t n (2*n+1)).2)) 2 1).1)),S (nS ((cH ((fE s (cH t n (2*n+1))).1,((fE s (cH t n (2*n+1))).2)+((cH t n (2*n+1)).2)) 2 1).2))]) (b:=w.heap.size) (o:=0) gX Z bZ ?_ ?_;exact Z;exact aa1 E9 (i:=0) Z;have G4:=hF (CV ns);refine I ?_;refine ac (bb (a:=(n:Int)) (b:=1) (c:=((n+1:Nat):Int)) Z Z L7 U ?_);refine I ?_;exact c6 ⟨g,n+1,cH t n (2*n+1),fE s (cH t n (2*n+1)),rfl,rfl,G4,U,U,U,qr,O,Ad,qn⟩
def wW {c r:N2}(hp:pl<=90)(hn:n<10^95)(hd:d<10^95)(hd0:0<d)(hc:mX (10^pl) c)(hh:Gj (10^pl) c n d=some r):
 CL 230 #[.agg #[S (nS n),S (nS d)],.int .i64 pl] w (aC w λv w'=>v=.agg #[S (nS r.1),S (nS r.2)]):=by
 have hS:=y8 hp;obtain⟨hv,hq,p,e,Z6,ZH,G4,L2,hpsum,F6,Kp,ZF,Z1,rfl⟩:=Kt hh;obtain⟨_,As,Ar,F1,ZQ,ZZ,ZG,ZK,rfl⟩:=hc;have Z8:=df ZQ;have ZD:Fi (Ar+1):=((df ZK).fi dc).2;have ZO:=SR F1;refine aE func230 Z (I ?_);refine bx (λE0 Z5 O=>?_);have Af:=Z5.2;refine al cj (λ_ ZV qr=>?_);have⟨O,Af⟩:=bD ZV.2 O Af;refine I ?_;refine clb BV (hc:=yL hp (ek hn dc) (ek hd dc) hd0 (cV hn hS.lt dc)) (hk:=?_);rintro _ N1 X2 rfl;have⟨O,qr,Af⟩:=bC X2.2 O qr Af;refine al cj (λ_ ZW ZM=>?_);have⟨O,qr,Af⟩:=bC ZW.2 O qr Af;refine ac (bg (b:=N1.heap.size) (o:=0) (vs:=[S (nS ((bV (10^pl) n d).1)),S (nS ((bV (10^pl) n d).2))]) bZ Z Z MT ZM (qa3 Z) (λ_ ZJ qn=>?_));have⟨O,qr,Af,_⟩:=mD ZJ O qr Af;refine I ?_;refine cl tV (jU hp hv hv) ?_;rintro _ T2 ZE rfl;have⟨O,qr,qn,Af⟩:=bW ZE.2 O qr qn Af;refine al cj (λ_ ZL ZB=>?_);have⟨O,qr,qn,Af⟩:=bW ZL.2 O qr qn Af
 refine ac (bg (b:=T2.heap.size) (o:=0) (vs:=[S (nS ((cg (10^pl) (bV (10^pl) n d) (bV (10^pl) n d)).1)),S (nS ((cg (10^pl) (bV (10^pl) n d) (bV (10^pl) n d)).2))]) bZ Z Z MT ZB (qa3 Z) (λE1 ZP A1=>?_));have⟨O,qr,qn,Af,_⟩:=l7 ZP O qr qn Af;refine I ?_;refine al cj (λ_ Wb ZS=>?_);have⟨O,qr,qn,A1,Af⟩:=eE Wb.2 O qr qn A1 Af;refine ac (bg (b:=E1.heap.size) (o:=0) (vs:=[S (nS ((bV (10^pl) n d).1)),S (nS ((bV (10^pl) n d).2))]) bZ Z Z MT ZS (qa3 Z) (λEE ZR Aw=>?_));have⟨O,qr,qn,A1,Af,_⟩:=vK ZR O qr qn A1 Af;refine I ?_;refine al cj (λ_ W3 ZU=>?_);have⟨O,qr,qn,A1,Aw,Af⟩:=kW W3.2 O qr qn A1 Aw Af;refine ac (bg (b:=EE.heap.size) (o:=0) (vs:=[S (nS ((bV (10^pl) n d).1)),S (nS ((bV (10^pl) n d).2))]) bZ Z Z MT ZU (qa3 Z) (λZC ZX W2=>?_));have⟨O,qr,qn,A1,Aw,Af,_⟩:=Ck ZX O qr qn A1 Aw Af;refine I ?_
 refine JT [(9,13),(24,53)] (λZN e W=>∃f:Nat,∃m:Nat,∃t:N2,∃s:N2,(f=ZN)/\(e 9=.int .i64 m)/\(PD (10^pl) (cg (10^pl) (bV (10^pl) n d) (bV (10^pl) n d)) f m t s=some p)/\(m+2*f=801)/\(1<=m)/\(ZC.heap.size<=W.heap.size)/\(bF w W)/\(au W w.heap.size 25 #[S (nS n),S (nS d)])/\(au W E0.heap.size 191 #[S [],S []])/\(au W N1.heap.size 191 #[S (nS ((bV (10^pl) n d).1)),S (nS ((bV (10^pl) n d).2))])/\(au W T2.heap.size 191 #[S (nS ((cg (10^pl) (bV (10^pl) n d) (bV (10^pl) n d)).1)),S (nS ((cg (10^pl) (bV (10^pl) n d) (bV (10^pl) n d)).2))])/\(au W EE.heap.size 191 #[S (nS s.1),S (nS s.2)])/\(au W E1.heap.size 191 #[S (nS t.1),S (nS t.2)])) (399) ⟨399,3,bV (10^pl) n d,bV (10^pl) n d,rfl,rfl,Z6,U,U,(qa0 _),Af,O,qr,qn,A1,W2,Aw⟩ ?_;rintro _ _ _ ⟨f,m,t,s,rfl,Zm,Z9,Zk,Zl,Zn,A2,O,qr,qn,A1,Aq,Ao⟩;obtain⟨g,rfl,Ay,F7,hT,hF⟩:=SP Z9;have Zo:m<800:=J
 have S1:Bk 190 (cg (10^pl) t (cg (10^pl) (bV (10^pl) n d) (bV (10^pl) n d))):=qZ hS.pos Ay hq;have Av:Bk 190 (cH (cg (10^pl) t (cg (10^pl) (bV (10^pl) n d) (bV (10^pl) n d))) 1 m):=ER S1;refine I ?_;refine cl tV (jU hp Ay hq) ?_;rintro _ _ T3 rfl;have⟨O,qr,qn,A1,Aq⟩:=dY T3.2 O qr qn A1 Aq;have⟨Ao,A2⟩:=bD T3.2 Ao A2;refine I ?_;refine clb ow (hc:=lR (n:=1) (d:=(m)) S1 U U U) (hk:=?_);rintro _ Z3 Ek rfl;have⟨O,qr,qn,A1,Aq⟩:=dY Ek.2 O qr qn A1 Aq;have⟨Ao,A2⟩:=bD Ek.2 Ao A2;refine al cj (λ_ F5 Z0=>?_);have⟨O,qr,qn,A1,Aq⟩:=dY F5.2 O qr qn A1 Aq;have⟨Ao,A2⟩:=bD F5.2 Ao A2;refine ac (bg (b:=Z3.heap.size) (o:=0) (vs:=[S (nS ((cH (cg (10^pl) t (cg (10^pl) (bV (10^pl) n d) (bV (10^pl) n d))) 1 m).1)),S (nS ((cH (cg (10^pl) t (cg (10^pl) (bV (10^pl) n d) (bV (10^pl) n d))) 1 m).2))]) bZ Z Z MT Z0 (qa3 Z) (λ_ T4 Ab=>?_));have⟨O,qr,qn,A1,Aq⟩:=jv T4 O qr qn A1 Aq;have⟨Ao,A2,_⟩:=ks T4 Ao A2;refine I ?_;refine clb xD (hc:=nC (nX ((F7).mono dc) Av).1 (nX ((F7).mono dc) Av).2) (hk:=?_);rintro _ _ W1 rfl;have⟨O,qr,qn,A1,Aq⟩:=dY W1.2 O qr qn A1 Aq;have⟨Ao,Ab,A2⟩:=bC W1.2 Ao Ab A2
 refine ac (bg (b:=EE.heap.size) (o:=0) (vs:=[S (nS ((fE s (cH (cg (10^pl) t (cg (10^pl) (bV (10^pl) n d) (bV (10^pl) n d))) 1 m)).1)),S (nS ((fE s (cH (cg (10^pl) t (cg (10^pl) (bV (10^pl) n d) (bV (10^pl) n d))) 1 m)).2))]) bZ Z Z MT Aq (qa3 Z) (λ_ Jx Ap=>?_));have⟨O,qr,qn,A1,Ao⟩:=jv Jx O qr qn A1 Ao;have⟨Ab,A2,_⟩:=ks Jx Ab A2;refine I ?_;refine bY 5 ?_;refine sf ?_;refine aF (V:=S (nS (((cH (cg (10^pl) t (cg (10^pl) (bV (10^pl) n d) (bV (10^pl) n d))) 1 m).2)*2))) (λ_ _ _ _=>?_) ?_;refine clb kq (hc:=fG Z uF (Av.fi dc).2 XY (cV Av.2 (show 2<10^1 by decide) dc)) (hk:=?_);rintro _ _ ny rfl;have ZI:=ny.2;refine I ?_;exact fs ⟨ZI,rfl⟩;refine sf ?_;intro _ _ od _;have⟨O,qr,qn,A1,Ap⟩:=dY od.2 O qr qn A1 Ap;have⟨Ao,Ab,A2⟩:=bC od.2 Ao Ab A2;refine clb tK (hc:=nB Z Z (cV Av.2 (show 2<10^1 by decide) dc) (Ay.fi dc).2) (hk:=?_);rintro _ _ F8 rfl;have⟨O,qr,qn,A1,Ap⟩:=dY F8.2 O qr qn A1 Ap;have⟨Ao,Ab,A2⟩:=bC F8.2 Ao Ab A2;refine I ?_
 refine ac (bg (b:=E1.heap.size) (o:=0) (vs:=[S (nS ((cH (cg (10^pl) t (cg (10^pl) (bV (10^pl) n d) (bV (10^pl) n d))) 1 m).1)),S (nS ((cH (cg (10^pl) t (cg (10^pl) (bV (10^pl) n d) (bV (10^pl) n d))) 1 m).2))]) bZ Z Z MT Ao (qa3 Z) (λ_ F3 Ad=>?_));have⟨O,qr,qn,A1,Ap⟩:=jv F3 O qr qn A1 Ap;have⟨Ab,A2,_⟩:=ks F3 Ab A2;refine I ?_;refine clb BW (hc:=oL (Av.fi dc).2) (hk:=?_);rintro _ _ TT rfl;have⟨O,qr,qn,A1,Ap⟩:=dY TT.2 O qr qn A1 Ap;have⟨Ad,Ab,A2⟩:=bC TT.2 Ad Ab A2;refine I ?_;by_cases ao5:aG ((((cH (cg (10^pl) t (cg (10^pl) (bV (10^pl) n d) (bV (10^pl) n d))) 1 m).2):Nat):Int) ((2:Nat):Int)<=0;refine I ?_;by_cases apg:(aG ((((cH (cg (10^pl) t (cg (10^pl) (bV (10^pl) n d) (bV (10^pl) n d))) 1 m).2)*2:Nat):Int) ((t.2:Nat):Int))<=0;have ZY:=hT ⟨CU ao5,Kz apg⟩;subst ZY;refine I ?_;refine bY 5 ?_;refine sf ?_;refine aF (V:=S (nS (((cH (cg (10^pl) t (cg (10^pl) (bV (10^pl) n d) (bV (10^pl) n d))) 1 m).2)+2))) (λ_ _ _ _=>?_) ?_;refine cl lE (gZ Z uF (ES G4 L2).2) ?_;rintro _ _ Z2 rfl;have ZT:=Z2.2;refine I ?_;exact fs ⟨ZT,rfl⟩;refine sf ?_;intro _ _ R1 _;have⟨O,qr,qn,A1,Ap⟩:=dY R1.2 O qr qn A1 Ap;have⟨Ad,Ab,A2⟩:=bC R1.2 Ad Ab A2
 refine cl lE (gZ Z Z (ES G4 L2).1) ?_;rintro _ _ wr rfl;have⟨O,qr,qn,A1,Ap⟩:=dY wr.2 O qr qn A1 Ap;have⟨Ad,Ab,A2⟩:=bC wr.2 Ad Ab A2;refine I ?_;refine SO Ap (λ_ EP Am=>?_);have⟨O,qr,qn,A1,Ad⟩:=jv EP O qr qn A1 Ad;have⟨Ab,A2,_⟩:=ks EP Ab A2;refine I ?_;refine clb ow (hc:=lR (n:=1) (d:=2) ((hq).mono dc) U U U) (hk:=?_);rintro _ _ G3 rfl;have⟨O,qr,qn,A1,Am⟩:=dY G3.2 O qr qn A1 Am;have⟨Ad,Ab,A2⟩:=bC G3.2 Ad Ab A2;refine I ?_;refine cl QN (Kx hp ZH) ?_;rintro _ _ EW rfl;have⟨O,qr,qn,A1,Am⟩:=dY EW.2 O qr qn A1 Am;have⟨Ad,Ab,A2⟩:=bC EW.2 Ad Ab A2;refine I ?_;refine cl QQ (NZ hp F1) ?_;rintro _ _ F2 rfl;have⟨O,qr,qn,A1,Am⟩:=dY F2.2 O qr qn A1 Am;have⟨Ad,Ab,A2⟩:=bC F2.2 Ad Ab A2;refine clb ow (hc:=lR (n:=2) (d:=1) ZO U U U) (hk:=?_);rintro _ _ F4 rfl;have⟨O,qr,qn,A1,Am⟩:=dY F4.2 O qr qn A1 Am;have⟨Ad,Ab,A2⟩:=bC F4.2 Ad Ab A2;refine I ?_;refine cl QP (Gm hp Z8 ZZ ZG ZD) ?_;rintro _ _ Ne rfl;have⟨O,qr,qn,A1,Am⟩:=dY Ne.2 O qr qn A1 Am;have⟨Ad,Ab,A2⟩:=bC Ne.2 Ad Ab A2;refine I ?_;refine cl tV (jU hp F6 Kp) ?_;rintro _ Wa W0 rfl;have⟨O,qr,qn,A1,Am⟩:=dY W0.2 O qr qn A1 Am;have⟨Ad,Ab,A2⟩:=bC W0.2 Ad Ab A2;refine al cj (λ_ K2 Z7=>?_);have⟨O,qr,qn,A1,Am⟩:=dY K2.2 O qr qn A1 Am;have⟨Ad,Ab,A2⟩:=bC K2.2 Ad Ab A2
 refine ac (bg (b:=Wa.heap.size) (o:=0) (vs:=[S (nS ((cg (10^pl) e (As,Ar+1)).1)),S (nS ((cg (10^pl) e (As,Ar+1)).2))]) bZ Z Z MT Z7 (qa3 Z) (λ_ Ix Ax=>?_));have⟨O,qr,qn,A1,Am⟩:=jv Ix O qr qn A1 Am;have⟨Ad,Ab,A2,_⟩:=mD Ix Ad Ab A2;refine I ?_;refine cl QO (Gg hp hpsum (qZ hS.pos F6 Kp) ZF Z1) ?_;rintro _ _ No rfl;have⟨O,qr,qn,A1,Am⟩:=dY No.2 O qr qn A1 Am;have⟨Ad,Ab,Ax,A2⟩:=bW No.2 Ad Ab Ax A2;refine ac (bg (b:=E0.heap.size) (o:=0) (vs:=[S (nS ((vQ (10^pl) ((fE s (cH (cg (10^pl) t (cg (10^pl) (bV (10^pl) n d) (bV (10^pl) n d))) 1 m)).1,((fE s (cH (cg (10^pl) t (cg (10^pl) (bV (10^pl) n d) (bV (10^pl) n d))) 1 m)).2)+(((cH (cg (10^pl) t (cg (10^pl) (bV (10^pl) n d) (bV (10^pl) n d))) 1 m).2)+2)) (cg (10^pl) e (As,Ar+1))).1)),S (nS ((vQ (10^pl) ((fE s (cH (cg (10^pl) t (cg (10^pl) (bV (10^pl) n d) (bV (10^pl) n d))) 1 m)).1,((fE s (cH (cg (10^pl) t (cg (10^pl) (bV (10^pl) n d) (bV (10^pl) n d))) 1 m)).2)+(((cH (cg (10^pl) t (cg (10^pl) (bV (10^pl) n d) (bV (10^pl) n d))) 1 m).2)+2)) (cg (10^pl) e (As,Ar+1))).2))]) bZ Z Z MT qr (qa3 Z) (λ_ E7 ZA=>?_))
 have⟨O,qn,A1,Am,Ad⟩:=jv E7 O qn A1 Am Ad;have⟨Ab,Ax⟩:=eR E7 Ab Ax;have A2:=bB E7 A2;refine I ?_;refine aI (v:=.agg #[S (nS ((vQ (10^pl) ((fE s (cH (cg (10^pl) t (cg (10^pl) (bV (10^pl) n d) (bV (10^pl) n d))) 1 m)).1,((fE s (cH (cg (10^pl) t (cg (10^pl) (bV (10^pl) n d) (bV (10^pl) n d))) 1 m)).2)+(((cH (cg (10^pl) t (cg (10^pl) (bV (10^pl) n d) (bV (10^pl) n d))) 1 m).2)+2)) (cg (10^pl) e (As,Ar+1))).1)),S (nS ((vQ (10^pl) ((fE s (cH (cg (10^pl) t (cg (10^pl) (bV (10^pl) n d) (bV (10^pl) n d))) 1 m)).1,((fE s (cH (cg (10^pl) t (cg (10^pl) (bV (10^pl) n d) (bV (10^pl) n d))) 1 m)).2)+(((cH (cg (10^pl) t (cg (10^pl) (bV (10^pl) n d) (bV (10^pl) n d))) 1 m).2)+2)) (cg (10^pl) e (As,Ar+1))).2))]) (cF  rfl ?_) A2 Z
 refine ag (t:=4) (cs:=[S (nS ((vQ (10^pl) ((fE s (cH (cg (10^pl) t (cg (10^pl) (bV (10^pl) n d) (bV (10^pl) n d))) 1 m)).1,((fE s (cH (cg (10^pl) t (cg (10^pl) (bV (10^pl) n d) (bV (10^pl) n d))) 1 m)).2)+(((cH (cg (10^pl) t (cg (10^pl) (bV (10^pl) n d) (bV (10^pl) n d))) 1 m).2)+2)) (cg (10^pl) e (As,Ar+1))).1)),S (nS ((vQ (10^pl) ((fE s (cH (cg (10^pl) t (cg (10^pl) (bV (10^pl) n d) (bV (10^pl) n d))) 1 m)).1,((fE s (cH (cg (10^pl) t (cg (10^pl) (bV (10^pl) n d) (bV (10^pl) n d))) 1 m)).2)+(((cH (cg (10^pl) t (cg (10^pl) (bV (10^pl) n d) (bV (10^pl) n d))) 1 m).2)+2)) (cg (10^pl) e (As,Ar+1))).2))]) (b:=E0.heap.size) (o:=0) gX Z bZ ?_ ?_;exact Z;exact aa1 ZA (i:=0) Z;have E4:=hF (λE9=>(KA apg) E9.2);refine I ?_;refine ac (bb (a:=(m:Int)) (b:=2) (c:=((m+2:Nat):Int)) Z Z L7 U ?_);refine I ?_;exact c6 ⟨g,m+2,cH (cg (10^pl) t (cg (10^pl) (bV (10^pl) n d) (bV (10^pl) n d))) 1 m,fE s (cH (cg (10^pl) t (cg (10^pl) (bV (10^pl) n d) (bV (10^pl) n d))) 1 m),rfl,rfl,E4,U,U,U,A2,O,qr,qn,A1,Ap,Ad⟩;have E4:=hF (λE9=>(CV ao5) E9.1);refine I ?_;refine ac (bb (a:=(m:Int)) (b:=2) (c:=((m+2:Nat):Int)) Z Z L7 U ?_);refine I ?_
 exact c6 ⟨g,m+2,cH (cg (10^pl) t (cg (10^pl) (bV (10^pl) n d) (bV (10^pl) n d))) 1 m,fE s (cH (cg (10^pl) t (cg (10^pl) (bV (10^pl) n d) (bV (10^pl) n d))) 1 m),rfl,rfl,E4,U,U,U,A2,O,qr,qn,A1,Ap,Ad⟩
def N0 (S:Nat)(c:N2)(N:Int)(d:Nat):Option (Int×Int):=(Gj S c N.natAbs d).map λn=>if N<0 then Ct (bV S 1 2) n else zP (fE (bV S 1 2) n)
def CW {S:Nat}{c:N2}{r:Int×Int}(h:N0 S c N d=some r):∃n,Gj S c N.natAbs d=some n/\r=if N<0 then Ct (bV S 1 2) n else zP (fE (bV S 1 2) n):=by
 unfold N0 at h
 cases hn:Gj S c N.natAbs d with
 |none=>rw[hn]at h;cases h
 |some n=>rw[hn]at h;cases h;exact⟨n,rfl,rfl⟩
def ET {S:Nat}{c r:N2}(hS:Sc S)(h:Gj S c n d=some r):Bk 190 r:=by
 obtain⟨_,_,p,e,_,_,_,_,h1,_,_,h2,_,rfl⟩:=Kt h
 exact IG hS h2 h1
def tj {S:Nat}(hS:Sc S):Bk 190 (bV S 1 2):=by
 have h:=hS.lt
 have h1:(10:Nat)^95<=10^190:=by decide
 refine⟨Nat.lt_of_le_of_lt (Nat.div_le_self _ _) U,Nat.lt_of_le_of_lt (lN dc) U⟩
def Wc {S:Nat}{c:N2}{r:Int×Int}(hS:Sc S)(h:N0 S c N d=some r):Fz r.1/\Fz r.2:=by
 obtain⟨n,O,rfl⟩:=CW h
 obtain⟨_,_⟩:=ET hS O
 obtain⟨_,_⟩:=tj hS
 have h1:(10:Nat)^190+10^190<=10^200:=by decide
 split
 · unfold Ct Fz;exact⟨by simp only;omega,by simp only;omega⟩
 · unfold fE zP Fz;exact⟨by simp only;omega,by simp only;omega⟩
def EU {b:Nat}(ha:a<10^190)(hb:b<10^190):Fz ((a:Int)-(b:Int)):=by
 have:(10:Nat)^190+10^190<=10^200:=by decide
 unfold Fz;omega
def N3 (h:0<n):ae (-(n:Int))=45::nS n:=by
 unfold nS ae
 rw[if_pos U,if_neg U,Int.natAbs_neg,Int.natAbs_natCast]
def nE {a b:Int}(ha:Fz a)(hb:Fz b):CL 85 #[S (ae a),S (ae b)] w (aC w λv _=>v=.int .i64 (aG a b)):=
 fM (pQ _ _ _ (cX ha) (cX hb)) (qb1 (Value.int .i64) (yg ha hb))
def SS (l:List UInt8):((((45::l).getD 0 0).toNat:Nat):Int)=45:=rfl
def Gn {c r:N2}(hp:pl<=90)(hn:n<10^95)(hd:d<10^95)(hd0:0<d)(hc:mX (10^pl) c)(hh:Gj (10^pl) c n d=some r):
 CL 186 #[.int .i64 2,.agg #[S (nS n),S (nS d)],.int .i64 0,.int .i64 pl] w (aC w λv w'=>v=.tuple #[.agg #[S (ae (zP (fE (bV (10^pl) 1 2) r)).1),S (ae (zP (fE (bV (10^pl) 1 2) r)).2)],.bool false]):=by
 have hS:=y8 hp;have Ab:=ET hS hh;have Af:=tj hS;have EW:=tg (ek hn dc);refine aE func186 Z (I ?_);refine bx (λAm od qr=>?_);have O:=od.2;refine al cj (λ_ E4 W=>?_);have⟨qr,O⟩:=bD E4.2 qr O;refine I ?_;refine ac (cY (l:=nS n) U9 Z ?_);refine I ?_;have Av:=dD (l:=nS n) (i:=0) U;refine ac (fW (l:=nS n) (i:=0) (c:=((nS n).getD 0 0)) U9 Z Z Av ?_);have Ek:=PE (ek hn dc);refine I ?_;refine al aQ (λ_ E1 Aq=>?_);have⟨qr,W,O⟩:=bC E1.2 qr W O;refine SA Aq (λ_ As qn=>?_);have⟨qr,W,O,_⟩:=mD As qr W O;refine I ?_;refine cl HI (wW hp hn hd hd0 hc hh) ?_;rintro _ Ao Ar rfl;have⟨qr,W,qn,O⟩:=bW Ar.2 qr W qn O;refine al cj (λ_ EP E9=>?_);have⟨qr,W,qn,O⟩:=bW EP.2 qr W qn O;refine ac (bg (b:=Ao.heap.size) (o:=0) (vs:=[S (nS r.1),S (nS r.2)]) bZ Z Z MT E9 (qa3 Z) (λ_ Ap A1=>?_));have⟨qr,W,qn,O,_⟩:=l7 Ap qr W qn O;refine I ?_;refine clb BV (hc:=yL hp WH XY dc ka4) (hk:=?_);rintro _ ny Aw rfl;have⟨qr,W,qn,A1,O⟩:=eE Aw.2 qr W qn A1 O;refine al cj (λ_ Ax Ay=>?_);have⟨qr,W,qn,A1,O⟩:=eE Ax.2 qr W qn A1 O
 refine ac (bg (b:=ny.heap.size) (o:=0) (vs:=[S (nS ((bV (10^pl) 1 2).1)),S (nS ((bV (10^pl) 1 2).2))]) bZ Z Z MT Ay (qa3 Z) (λ_ E0 A2=>?_));have⟨qr,W,qn,A1,O,_⟩:=vK E0 qr W qn A1 O;refine I ?_;refine cl xD (nC (nX Af Ab).1 (nX Af Ab).2) ?_;rintro _ _ EE rfl;have⟨qr,W,qn,A1,A2,O⟩:=kW EE.2 qr W qn A1 A2 O;refine ac (bg (b:=Am.heap.size) (o:=0) (vs:=[S (nS ((fE (bV (10^pl) 1 2) r).1)),S (nS ((fE (bV (10^pl) 1 2) r).2))]) bZ Z Z MT W (qa3 Z) (λ_ Ad E7=>?_));have⟨qr,qn,A1,A2⟩:=wm Ad qr qn A1 A2;have O:=bB Ad O;refine I ?_;refine aI (v:=.tuple #[.agg #[S (nS ((fE (bV (10^pl) 1 2) r).1)),S (nS ((fE (bV (10^pl) 1 2) r).2))],.bool false]) (cn (r1:=.cell 8 191) (r2:=.tmp 9) Z ?_ ?_) O Z;refine ag (t:=8) (cs:=[S (nS ((fE (bV (10^pl) 1 2) r).1)),S (nS ((fE (bV (10^pl) 1 2) r).2))]) (b:=Am.heap.size) (o:=0) gX Z bZ ?_ ?_;exact Z;exact aa1 E7 (i:=0) Z;exact aD (t:=9) Rd _
def Gp {c r:N2}(hp:pl<=90)(hn:n<10^95)(hd:d<10^95)(hd0:0<d)(hc:mX (10^pl) c)(hh:Gj (10^pl) c n d=some r):
 CL 186 #[.int .i64 2,.agg #[S (45::nS n),S (nS d)],.int .i64 0,.int .i64 pl] w (aC w λv w'=>v=.tuple #[.agg #[S (ae (Ct (bV (10^pl) 1 2) r).1),S (ae (Ct (bV (10^pl) 1 2) r).2)],.bool false]):=by
 have hS:=y8 hp;have Ab:=ET hS hh;have Ad:=tj hS;have F5:=tg (ek hn dc);refine aE func186 Z (I ?_);refine bx (λAf E7 qr=>?_);have O:=E7.2;refine al cj (λ_ Aq W=>?_);have⟨qr,O⟩:=bD Aq.2 qr O;refine I ?_;refine ac (cY (l:=45::nS n) U9 Z ?_);refine ac (OE (k:=.i64) (a:=(((45::nS n).length:Nat):Int)) (b:=0) (q:=true) Z Z (qa1 (by simp only[List.length_cons];omega)) ?_);refine I ?_;have F1:=dD (l:=45::nS n) (i:=0) (by simp only[List.length_cons];omega);refine ac (fW (l:=45::nS n) (i:=0) (c:=((45::nS n).getD 0 0)) U9 Z Z F1 ?_);have F6:=SS (nS n);refine I ?_;refine al aQ (λ_ E0 Ao=>?_);have⟨qr,W,O⟩:=bC E0.2 qr W O;refine SA Ao (λ_ EW E9=>?_);have⟨qr,W,O,_⟩:=mD EW qr W O;refine I ?_;refine ac (iU (l:=45::nS n) (i:=1) (j:=(45::nS n).length) U9 Z (.inr ⟨_,qb1 some Z⟩) (.inl ⟨rfl,rfl⟩) RW (Nat.le_refl _) ?_);rw[show((45::nS n).take (45::nS n).length).drop 1=nS n by rw[List.take_length];rfl];refine I ?_;refine SO E9 (λ_ wr qn=>?_);have⟨qr,W,O,_⟩:=mD wr qr W O;refine I ?_;refine cl HI (wW hp hn hd hd0 hc hh) ?_;rintro _ Av As rfl;have⟨qr,W,qn,O⟩:=bW As.2 qr W qn O;refine al cj (λ_ E1 E4=>?_);have⟨qr,W,qn,O⟩:=bW E1.2 qr W qn O
 refine ac (bg (b:=Av.heap.size) (o:=0) (vs:=[S (nS r.1),S (nS r.2)]) bZ Z Z MT E4 (qa3 Z) (λ_ Ax A1=>?_));have⟨qr,W,qn,O,_⟩:=l7 Ax qr W qn O;refine I ?_;refine clb BV (hc:=yL hp WH XY dc ka4) (hk:=?_);rintro _ Aw F3 rfl;have⟨qr,W,qn,A1,O⟩:=eE F3.2 qr W qn A1 O;refine al cj (λ_ EE Ek=>?_);have⟨qr,W,qn,A1,O⟩:=eE EE.2 qr W qn A1 O;refine ac (bg (b:=Aw.heap.size) (o:=0) (vs:=[S (nS ((bV (10^pl) 1 2).1)),S (nS ((bV (10^pl) 1 2).2))]) bZ Z Z MT Ek (qa3 Z) (λ_ F2 A2=>?_));have⟨qr,W,qn,A1,O,_⟩:=vK F2 qr W qn A1 O;refine I ?_;refine bY 9 ?_;refine sf ?_;refine aF (V:=S (ae ((((bV (10^pl) 1 2).1:Nat):Int)-((r.2:Nat):Int)))) (λ_ _ _ _=>?_) ?_;refine clb xB (hc:=vr Z Z (Ad.fi dc).1.z (Ab.fi dc).2.z (EU Ad.1 Ab.2)) (hk:=?_);rintro _ _ F4 rfl;have Ar:=F4.2;refine I ?_;exact fs ⟨Ar,rfl⟩;refine sf ?_;intro _ _ Ap _;have⟨qr,W,qn,A1,A2,O⟩:=kW Ap.2 qr W qn A1 A2 O;refine clb xB (hc:=vr Z Z (Ad.fi dc).2.z (Ab.fi dc).1.z (EU Ad.2 Ab.1)) (hk:=?_);rintro _ _ Ay rfl;have⟨qr,W,qn,A1,A2,O⟩:=kW Ay.2 qr W qn A1 A2 O
 refine ac (aV (vs:=[(0,S (ae ((((bV (10^pl) 1 2).1:Nat):Int)-((r.2:Nat):Int)))),(1,S (ae ((((bV (10^pl) 1 2).2:Nat):Int)-((r.1:Nat):Int))))]) (cells:=#[S (ae ((((bV (10^pl) 1 2).1:Nat):Int)-((r.2:Nat):Int))),S (ae ((((bV (10^pl) 1 2).2:Nat):Int)-((r.1:Nat):Int)))]) (pl:=[(0,1),(1,1)]) gX cj GS Z GS ?_);refine ac (bg (b:=Af.heap.size) (o:=0) (vs:=[S (ae ((((bV (10^pl) 1 2).1:Nat):Int)-((r.2:Nat):Int))),S (ae ((((bV (10^pl) 1 2).2:Nat):Int)-((r.1:Nat):Int)))]) bZ Z Z MT W (qa3 Z) (λ_ Am EP=>?_));have⟨qr,qn,A1,A2⟩:=wm Am qr qn A1 A2;have O:=bB Am O;refine I ?_;refine aI (v:=.tuple #[.agg #[S (ae ((((bV (10^pl) 1 2).1:Nat):Int)-((r.2:Nat):Int))),S (ae ((((bV (10^pl) 1 2).2:Nat):Int)-((r.1:Nat):Int)))],.bool false]) (cn (r1:=.cell 8 191) (r2:=.tmp 9) Z ?_ ?_) O Z;refine ag (t:=8) (cs:=[S (ae ((((bV (10^pl) 1 2).1:Nat):Int)-((r.2:Nat):Int))),S (ae ((((bV (10^pl) 1 2).2:Nat):Int)-((r.1:Nat):Int)))]) (b:=Af.heap.size) (o:=0) gX Z bZ ?_ ?_;exact Z;exact aa1 EP (i:=0) Z;exact aD (t:=9) Rd _
def KC {c:N2}{r:Int×Int}(hp:pl<=90)(hN:N.natAbs<10^95)(hd:d<10^95)(hd0:0<d)(hc:mX (10^pl) c)(hh:N0 (10^pl) c N d=some r):
 CL 186 #[.int .i64 2,.agg #[S (ae N),S (nS d)],.int .i64 0,.int .i64 pl] w (aC w λv _=>v=.tuple #[.agg #[S (ae r.1),S (ae r.2)],.bool false]):=by
 obtain⟨n,O,rfl⟩:=CW hh
 by_cases h0:N<0
 · obtain⟨k,rfl⟩:∃k:Nat,N=-(k:Int):=⟨N.natAbs,by omega⟩
   rw[if_pos h0,N3 U]
   rw[Int.natAbs_neg,Int.natAbs_natCast]at O hN
   exact Gp hp hN hd hd0 hc O
 · obtain⟨k,rfl⟩:∃k:Nat,N=(k:Int):=⟨N.natAbs,by omega⟩
   rw[if_neg h0]
   rw[Int.natAbs_natCast]at O hN
   exact Gn hp hN hd hd0 hc O
section
variable {n d m c:Int}
def Wd (hd:0<d)(hc:0<c)(h:n/d≠m/c):aG (n*c) (m*d)=aG (n/d) (m/c):=by
 have h1:=Int.mul_ediv_add_emod n d;have h2:=Int.mul_ediv_add_emod m c
 have h3:=Int.emod_nonneg n (show d≠0 by omega);have h4:=Int.emod_lt_of_pos n hd
 have qn:=Int.emod_nonneg m (show c≠0 by omega);have qr:=Int.emod_lt_of_pos m hc
 generalize n/d=q at *;generalize m/c=p at *;generalize n%d=r at *;generalize m%c=s at *
 subst h1 h2
 have O:(d*q+r)*c=d*c*q+r*c:=by grind
 have W:(c*p+s)*d=d*c*p+s*d:=by grind
 have b1:r*c<d*c:=Int.mul_lt_mul_of_pos_right h4 hc
 have b2:0<=r*c:=Int.mul_nonneg h3 U
 have b3:s*d<c*d:=Int.mul_lt_mul_of_pos_right qr hd
 have b4:0<=s*d:=Int.mul_nonneg qn U
 have b5:c*d=d*c:=Int.mul_comm _ _
 have A2:0<d*c:=Int.mul_pos hd hc
 rw[O,W]
 rcases Int.lt_or_lt_of_ne h with h7|h7
 · have A1:d*c*q+d*c<=d*c*p:=by
    have:=Int.mul_le_mul_of_nonneg_left (show q+1<=p by omega) (show 0<=d*c by omega)
    rw[Int.mul_add,Int.mul_one]at this;exact this
   rw[dE U,dE h7]
 · have A1:d*c*p+d*c<=d*c*q:=by
    have:=Int.mul_le_mul_of_nonneg_left (show p+1<=q by omega) (show 0<=d*c by omega)
    rw[Int.mul_add,Int.mul_one]at this;exact this
   rw[dk U,dk h7]
def KD (hd:0<d)(hc:0<c)(h:n/d=m/c):aG (n*c) (m*d)=aG ((n%d)*c) ((m%c)*d):=by
 have h1:=Int.mul_ediv_add_emod n d;have h2:=Int.mul_ediv_add_emod m c
 have qr:n*c=d*c*(m/c)+(n%d)*c:=by rw[<-h];grind
 have O:m*d=d*c*(m/c)+(m%c)*d:=by grind
 rw[qr,O]
 generalize d*c*(m/c)=k;generalize (n%d)*c=x;generalize (m%c)*d=y
 rcases Int.lt_trichotomy x y with h|h|h
 · rw[dE U,dE h]
 · rw[fK U,fK h]
 · rw[dk U,dk h]
end
def yN (z:Int):Int:=if z=0 then 0 else 1
def yO {z:Int}:vq (ae z)=ae (yN z):=by
 unfold vq yN
 by_cases h:z=0
 · subst h;decide +kernel
 · rw[if_neg (λe=>h (cJ.1 e)),if_neg h];decide +kernel
def EV (z:Int):Fz (yN z):=by unfold yN Fz;split <;>decide
def We {r d c:Int}(hd:0<d)(hc:0<c)(hr:0<=r)(hs:0<=s)(h:r=0\/s=0):aG (r*c) (s*d)=aG (yN r) (yN s):=by
 unfold yN
 rcases h with rfl|rfl
 · by_cases h1:s=0
   · subst h1;simp
   · have:=Int.mul_pos (show 0<s by omega) hd
     rw[if_pos Z,if_neg h1,dE U,dE dc]
 · by_cases h1:r=0
   · subst h1;simp
   · have:=Int.mul_pos (show 0<r by omega) hc
     rw[if_pos Z,if_neg h1,dk U,dk dc]
def XZ {r d c:Int}:aG (r*c) (s*d)=-aG (d*s) (c*r):=by
 rw[Int.mul_comm s d,Int.mul_comm r c]
 rcases Int.lt_trichotomy (c*r) (d*s)with h|h|h
 · rw[dE h,dk h]
 · rw[fK h,fK h.symm];rfl
 · rw[dk h,dE h];rfl
def N4 {a b:Int}(h:¬aG a b=0):a≠b:=λe=>h (fK e)
def SU {a b:Int}(h:aG a b=0):a=b:=by
 rcases Int.lt_trichotomy a b with h1|h1|h1
 · rw[dE h1]at h;cases h
 · exact h1
 · rw[dk h1]at h;cases h
def KE {g a b:Int}(h:g=1\/g=-1):In64 (g*aG a b):=by
 have hb:aG a b=-1\/aG a b=0\/aG a b=1:=by
  rcases Int.lt_trichotomy a b with h1|h1|h1
  · exact Or.inl (dE h1)
  · exact Or.inr (Or.inl (fK h1))
  · exact Or.inr (Or.inr (dk h1))
 unfold In64
 rcases h with rfl|rfl <;>rcases hb with h|h|h <;>rw[h] <;>decide
def EX {a b:Int}(hb:0<b)(h:Fz b):Fz (a%b):=by
 have h1:=Int.emod_nonneg a (show b≠0 by omega);have h2:=Int.emod_lt_of_pos a hb
 unfold Fz at *;omega
set_option maxRecDepth 100000 in
theorem KF (o1:cc (ae n0,ae d0)=true)(o2:cc (ae m0,ae c0)=true)(f1:Fz n0)(f2:Fz d0)(f3:Fz m0)(f4:Fz c0)(p1:0<d0)(p2:0<c0):
 CL 47 #[.agg #[S (ae n0),S (ae d0)],.agg #[S (ae m0),S (ae c0)]] w (aC w λv w'=>v=.int .i64 (aG (n0*c0) (m0*d0))):=by
 refine aE func47 rfl ?_;refine I ?_;refine bx (λE7 Aw qr=>?_);have A1:=Aw.2;refine bx (λ_ ny qn=>?_);have⟨qr,A1⟩:=bD ny.2 qr A1;refine I ?_;refine cl ss (cB (ef _ _ _ (cX f1) (cX f2)) o1) ?_;rintro _ _ E1 rfl;have⟨qr,qn,A1⟩:=bC E1.2 qr qn A1;refine I ?_;refine cl ss (cB (ef _ _ _ (cX f3) (cX f4)) o2) ?_;rintro _ _ E4 rfl;have⟨qr,qn,A1⟩:=bC E4.2 qr qn A1;refine I ?_;refine JT [(4,4),(7,18),(37,77)] (λAx e W=>∃g:Int,∃n:Int,∃d:Int,∃m:Int,∃c:Int,(d.toNat=Ax)/\(e 7=.int .i64 g)/\(e 8=S (ae n))/\(e 9=S (ae d))/\(e 10=S (ae m))/\(e 11=S (ae c))/\(g=1\/g=-1)/\(0<d)/\(0<c)/\(Fz n)/\(Fz d)/\(Fz m)/\(Fz c)/\(g*aG (n*c) (m*d)=aG (n0*c0) (m0*d0))/\(bF w W)/\(au W (w.heap.size) 25 #[S (ae n0),S (ae d0)])/\(au W (E7.heap.size) 25 #[S (ae m0),S (ae c0)])) ((d0).toNat) ⟨1,n0,d0,m0,c0,rfl,rfl,rfl,rfl,rfl,rfl,(Or.inl rfl),p1,p2,f1,f2,f3,f4,(Int.one_mul _),A1,qr,qn⟩ ?_;rintro _ _ _ ⟨g,n,d,m,c,rfl,F5,F4,od,F2,F3,Af,hd,hc,fn,fd,Ad,Ab,hR,O,qr,qn⟩;have Ap:=Int.emod_nonneg n (show d≠0 by omega);have F1:=Int.emod_lt_of_pos n hd;have Aq:=Int.emod_nonneg m (show c≠0 by omega);have fr:Fz (n%d):=EX hd fd;have fs:Fz (m%c):=EX hc Ab;refine I ?_
 refine clb vM (hc:=fM (Y:=.tuple #[S (ae (n/d)),S (ae (n%d)),.int .i64 0]) (gN _ _ _ (cX fn) (cX fd)) (qb1 nJ (kv fn fd U (eD fn hd)))) (hk:=?_);rintro _ _ Ay rfl;have⟨qr,qn,O⟩:=bC Ay.2 qr qn O;refine I ?_;refine clb vM (hc:=fM (Y:=.tuple #[S (ae (m/c)),S (ae (m%c)),.int .i64 0]) (gN _ _ _ (cX Ad) (cX Ab)) (qb1 nJ (kv Ad Ab U (eD Ad hc)))) (hk:=?_);rintro _ _ E0 rfl;have⟨qr,qn,O⟩:=bC E0.2 qr qn O;refine I ?_;refine cl tK (nE (eD fn hd) (eD Ad hc)) ?_;rintro _ _ EW rfl;have⟨qr,qn,O⟩:=bC EW.2 qr qn O;refine I ?_;by_cases fx:(aG (n/d) (m/c))=0;have A2:=SU fx;refine I ?_;by_cases cv:(ae (n%d))=([48]);have Ar:n%d=0:=cJ.1 cv;have Am:n%d=0\/m%c=0:=Or.inl Ar;refine I ?_;refine qO (b:=[48]) ?_;refine I ?_;refine cl Mg (fM (nA _ _) (qb1 S (yO (z:=n%d)))) ?_;rintro _ _ EP rfl;have O:=xt O EP.2;refine I ?_;refine cl Mg (fM (nA _ _) (qb1 S (yO (z:=m%c)))) ?_;rintro _ _ Av rfl;have O:=xt O Av.2;refine cl tK (nE (EV _) (EV _)) ?_;rintro _ _ Ek rfl;have O:=xt O Ek.2;refine ac (l9 (a:=g) (b:=aG (yN (n%d)) (yN (m%c))) (c:=g*(aG (yN (n%d)) (yN (m%c)))) rfl rfl (KE Af) rfl ?_);refine I ?_
 exact ax (t:=4) (v:=.int .i64 (g*(aG (yN (n%d)) (yN (m%c))))) rfl O (qb1 (Value.int .i64) (by rw[<-hR,KD hd hc A2,We hd hc Ap Aq Am])) rfl;have Ar:¬n%d=0:=λe=>cv (cJ.2 e);refine I ?_;refine qO (b:=[48]) ?_;refine I ?_;refine qO (b:=[48]) ?_;refine I ?_;by_cases fy:(ae (m%c))=([48]);have Ao:m%c=0:=cJ.1 fy;have Am:n%d=0\/m%c=0:=Or.inr Ao;refine I ?_;refine cl Mg (fM (nA _ _) (qb1 S (yO (z:=n%d)))) ?_;rintro _ _ E9 rfl;have O:=xt O E9.2;refine I ?_;refine cl Mg (fM (nA _ _) (qb1 S (yO (z:=m%c)))) ?_;rintro _ _ EE rfl;have O:=xt O EE.2;refine cl tK (nE (EV _) (EV _)) ?_;rintro _ _ As rfl;have O:=xt O As.2;refine ac (l9 (a:=g) (b:=aG (yN (n%d)) (yN (m%c))) (c:=g*(aG (yN (n%d)) (yN (m%c)))) rfl rfl (KE Af) rfl ?_);refine I ?_;exact ax (t:=4) (v:=.int .i64 (g*(aG (yN (n%d)) (yN (m%c))))) rfl O (qb1 (Value.int .i64) (by rw[<-hR,KD hd hc A2,We hd hc Ap Aq Am])) rfl;have Ao:¬m%c=0:=λe=>fy (cJ.2 e);refine I ?_;refine ac (wb (a:=g) rfl (by unfold In64;omega) ?_);refine I ?_;exact c6 ⟨-g,d,n%d,c,m%c,rfl,rfl,rfl,rfl,rfl,rfl,U,U,U,fd,fr,Ab,fs,(by rw[<-hR,KD hd hc A2,XZ (r:=n%d) (s:=m%c) (d:=d) (c:=c),Int.neg_mul,Int.mul_neg]),O,qr,qn⟩
 have A2:=N4 fx;refine I ?_;refine ac (l9 (a:=g) (b:=aG (n/d) (m/c)) (c:=g*(aG (n/d) (m/c))) rfl rfl (KE Af) rfl ?_);refine I ?_;exact ax (t:=4) (v:=.int .i64 (g*(aG (n/d) (m/c)))) rfl O (qb1 (Value.int .i64) (by rw[<-hR,Wd hd hc A2])) rfl
def bM {p:Prop}(h:p:=by assumption):p:=h
def CX (x:R):Bool:=cc x&&(decide ((((body x.1).length:Nat):Int)<=12)&&decide (((x.2.length:Nat):Int)<=12))
section
variable {la lb ha hb pl:Int}
def CY (h:CX (x,y)=true):cc (x,y)=true:=by simp only[CX,Bool.and_eq_true]at h;exact h.1
def N5 (h:0<x.length)(h2:(((x.getD 0 0).toNat:Nat):Int)=45):(((body x).length:Nat):Int)=((x.length:Nat):Int)-1:=by
 cases x with
 |nil=>simp at h
 | cons c l=>
   have:c=45:=by apply UInt8.toNat_inj.1;have h3:((c.toNat:Nat):Int)=45:=h2;have:(45:UInt8).toNat=45:=rfl;omega
   subst this
   show((l.length:Nat):Int)=_
   rw[List.length_cons];omega
def N6 (h2:¬(((x.getD 0 0).toNat:Nat):Int)=45):body x=x:=by
 refine o9 λh=>h2 ?_
 cases x with
 |nil=>cases h
 |cons c l=>cases h;rfl
def N7 (h:¬0<((x.length:Nat):Int)):body x=x:=by
 cases x with
 |nil=>rfl
 |cons c l=>exact absurd (by rw[List.length_cons];omega) h
end
section
variable {b:Value}{L:Int}
def A0 (h:cc (x,y)=true)(e:(((body x).length:Nat):Int)=L)(hl:L<=12):Value.tuple #[.bool (decide ((((y).length:Nat):Int)<=12)),b]=.tuple #[.bool (CX (x,y)),b]:=by
 unfold CX;rw[h,decide_eq_true (show(((body (x,y).1).length:Nat):Int)<=12 by show(((body x).length:Nat):Int)<=12;omega)];rfl
def A3 (h:cc (x,y)=true)(e:(((body x).length:Nat):Int)=L)(hl:¬L<=12):Value.tuple #[.bool false,b]=.tuple #[.bool (CX (x,y)),b]:=by
 unfold CX;rw[h,decide_eq_false (show¬(((body (x,y).1).length:Nat):Int)<=12 by show¬(((body x).length:Nat):Int)<=12;omega)];rfl
def A4 (h:cc (x,y)=false):Value.tuple #[.bool false,b]=.tuple #[.bool (CX (x,y)),b]:=by unfold CX;rw[h];rfl
end
set_option maxRecDepth 100000 in
def vw (s1:x.length<=1000000)(s2:y.length<=1000000):
 CL 105 #[.agg #[S x,S y]] w (aC w λv w'=>∃nb:Bool,v=.tuple #[.bool (CX (x,y)),.bool nb]):=by
 refine aE func105 Z (I ?_);refine bx (λ_ A2 W=>?_);have O:=A2.2;refine I ?_;refine cl ss (ef _ _ _ s1 s2) ?_;rintro _ _ qn rfl;have⟨W,O⟩:=bD qn.2 W O;refine I ?_;refine ac (cY (l:=x) U9 Z ?_);refine I ?_;by_cases cf:0<(((x).length:Nat):Int);refine I ?_;have A1:=dD (l:=x) (i:=0) U;refine ac (fW (l:=x) (i:=0) (c:=(x.getD 0 0)) U9 Z Z A1 ?_);refine I ?_;by_cases lm:(((x.getD 0 0).toNat:Nat):Int)=45;have qr:=N5 U lm;refine I ?_;refine vJ (I ?_);rcases qa4 (cc (x,y))with cr|cr;by_cases cv:((((x).length:Nat):Int)-1)<=12;refine I ?_;refine ac (cY (l:=y) U9 Z ?_);refine I ?_;exact bN (t:=2) (u:=3) (v1:=.bool (decide ((((y).length:Nat):Int)<=12))) (v2:=.bool (decide ((((x.getD 0 0).toNat:Nat):Int)=45))) Z O ⟨_,by first|exact A0 bM bM bM|exact A3 bM bM bM|exact A4 bM⟩ Z Z
 refine I ?_;exact bN (t:=2) (u:=3) (v1:=.bool false) (v2:=.bool (decide ((((x.getD 0 0).toNat:Nat):Int)=45))) Z O ⟨_,by first|exact A0 bM bM bM|exact A3 bM bM bM|exact A4 bM⟩ Z Z;refine I ?_;exact bN (t:=2) (u:=3) (v1:=.bool false) (v2:=.bool (decide ((((x.getD 0 0).toNat:Nat):Int)=45))) Z O ⟨_,by first|exact A0 bM bM bM|exact A3 bM bM bM|exact A4 bM⟩ Z Z;have qr:=N6 lm;have Ab:(((body x).length:Nat):Int)=((x.length:Nat):Int):=by rw[qr]
 refine I ?_;rcases qa4 (cc (x,y))with cw|cw;by_cases cx:(((x).length:Nat):Int)<=12;refine I ?_;refine ac (cY (l:=y) U9 Z ?_);refine I ?_;exact bN (t:=2) (u:=3) (v1:=.bool (decide ((((y).length:Nat):Int)<=12))) (v2:=.bool (decide ((((x.getD 0 0).toNat:Nat):Int)=45))) Z O ⟨_,by first|exact A0 bM bM bM|exact A3 bM bM bM|exact A4 bM⟩ Z Z
 refine I ?_;exact bN (t:=2) (u:=3) (v1:=.bool false) (v2:=.bool (decide ((((x.getD 0 0).toNat:Nat):Int)=45))) Z O ⟨_,by first|exact A0 bM bM bM|exact A3 bM bM bM|exact A4 bM⟩ Z Z;refine I ?_;exact bN (t:=2) (u:=3) (v1:=.bool false) (v2:=.bool (decide ((((x.getD 0 0).toNat:Nat):Int)=45))) Z O ⟨_,by first|exact A0 bM bM bM|exact A3 bM bM bM|exact A4 bM⟩ Z Z;have qr:=N7 cf;have Ab:(((body x).length:Nat):Int)=((x.length:Nat):Int):=by rw[qr]
 refine I ?_;rcases qa4 (cc (x,y))with fx|fx;by_cases fy:(((x).length:Nat):Int)<=12;refine I ?_;refine ac (cY (l:=y) U9 Z ?_);refine I ?_;exact bN (t:=2) (u:=3) (v1:=.bool (decide ((((y).length:Nat):Int)<=12))) (v2:=.bool false) Z O ⟨_,by first|exact A0 bM bM bM|exact A3 bM bM bM|exact A4 bM⟩ Z Z
 omega;refine I ?_;exact bN (t:=2) (u:=3) (v1:=.bool false) (v2:=.bool false) Z O ⟨_,by first|exact A0 bM bM bM|exact A3 bM bM bM|exact A4 bM⟩ Z Z
def A5 (sh:Bool)(n d la lb ha hb pl:Int):Bool:=sh&&(decide (0<=pl)&&(decide (pl<=12)&&(decide (0<=aG (n*lb) (la*d))&&decide (aG (n*hb) (ha*d)<=0))))
def EY {z:Int}(h:fits z=true):Fz z:=by unfold fits at h;unfold Fz;exact of_decide_eq_true h
section
variable {a b:Int}
def vx (h:cc (x,y)=true)(hl:l=ae a)(hm:m=ae b)(o2:cc (ae a,ae b)=true)(fa:Fz a)(fb:Fz b):CL 47 #[.agg #[S x,S y],.agg #[S l,S m]] w (aC w λv _=>v=.int .i64 (aG (aA x*b) (a*aA y))):=by
 subst hl hm
 have O:ae (aA x)=x:=lK (j7 h)
 have qr:ae (aA y)=y:=lK (il h)
 have f1:Fz (aA x):=EY (i6 (j7 h))
 have W:Fz (aA y):=EY (i6 (il h))
 have p2:0<b:=by have:=pr o2;rwa [aO]at this
 have h1:=KF (w:=w) (by rw[O,qr];exact h) o2 f1 W fa fb (pr h) p2
 rw[O,qr]at h1;exact h1
def SV (fa:Fz a)(fb:Fz b)(h0:b≠0):ey (kg (ae a) (ae b))=.tuple #[QV a b,.int .i64 0]:=by
 unfold kg;rw[fa.int,fb.int,aO,aO];show ey (k7 a b)=_;unfold k7;rw[if_neg h0];rfl
def Wg (hl:l=ae a)(hm:m=ae b)(fa:Fz a)(fb:Fz b)(h0:b≠0):CL 43 #[S l,S m] w (aC w λv _=>v=.tuple #[QV a b,.int .i64 0]):=by
 subst hl hm
 exact fM (jF _ _ _ (cX fa) (cX fb)) (SV fa fb h0)
end
def loneD:([49]:List UInt8)=ae 1:=by decide +kernel
def A6:Fz 1:=by unfold Fz;decide
set_option maxRecDepth 100000 in
def A7 {la lb ha hb pl:Int}(e1:l1=ae la)(e2:m1=ae lb)(e3:l2=ae ha)(e4:m2=ae hb)(o1:cc (ae la,ae lb)=true)(o2:cc (ae ha,ae hb)=true)(f1:Fz la)(f2:Fz lb)(f3:Fz ha)(f4:Fz hb)(s1:x.length<=1000000)(s2:y.length<=1000000):
 CL 151 #[.agg #[S x,S y],.agg #[S l1,S m1],.agg #[S l2,S m2],.int .i64 pl] w (aC w λv w'=>v=.bool (A5 (CX (x,y)) (aA x) (aA y) la lb ha hb pl)):=by
 refine aE func151 Z (I ?_);refine bx (λ_ Ad qr=>?_);have O:=Ad.2;refine bx (λ_ Ao W=>?_);have⟨qr,O⟩:=bD Ao.2 qr O;refine bx (λ_ Am qn=>?_);have⟨qr,W,O⟩:=bC Am.2 qr W O;refine I ?_;refine cl mr (vw s1 s2) ?_;rintro _ _ A2 ⟨nb,rfl⟩;have⟨qr,W,qn,O⟩:=bW A2.2 qr W qn O;refine I ?_;rcases qa4 (CX (x,y))with cf|cf;by_cases cw:0<=pl;by_cases cm:pl<=12;by_cases cy:0<=(aG (aA x*lb) (la*aA y));refine I ?_;refine cl BH (vx (CY cf) e1 e2 o1 f1 f2) ?_;rintro _ _ A1 rfl;have⟨qr,qn,O⟩:=bC A1.2 qr qn O;refine I ?_;refine cl BH (vx (CY cf) e3 e4 o2 f3 f4) ?_;rintro _ _ Ab rfl;have O:=xt O Ab.2;refine I ?_;exact ax (t:=8) (v:=.bool (decide ((aG (aA x*hb) (ha*aA y))<=0))) Z O (by unfold A5;rw[cf];rw[decide_eq_true cw];rw[decide_eq_true cm];rw[decide_eq_true cy];first|rfl|simp) Z;refine I ?_;refine cl BH (vx (CY cf) e1 e2 o1 f1 f2) ?_;rintro _ _ Af rfl;have O:=xt O Af.2;refine I ?_;exact ax (t:=8) (v:=.bool false) Z O (by unfold A5;rw[cf];rw[decide_eq_true cw];rw[decide_eq_true cm];rw[decide_eq_false cy];first|rfl|simp) Z;refine I ?_;exact ax (t:=8) (v:=.bool false) Z O (by unfold A5;rw[cf];rw[decide_eq_true cw];rw[decide_eq_false cm];first|rfl|simp) Z
 refine I ?_;exact ax (t:=8) (v:=.bool false) Z O (by unfold A5;rw[cf];rw[decide_eq_false cw];first|rfl|simp) Z;refine I ?_;exact ax (t:=8) (v:=.bool false) Z O (by unfold A5;rw[cf];first|rfl|simp) Z
end
end Go.Proofs.YthpinljhfnodeaaGreatDoor
