/- Part of the proof of a statement about special functions. -/
import Derived.Test.YtgcfffdpcefifaaGreatDoorSp1ToSp6
set_option linter.all false
namespace Go.Proofs.YtgcfffdpcefifaaGreatDoor
variable {x y N:Int}{T xs:List Nat}{l m:List UInt8}{k a b pl n d f i c lo:Nat}{A:Option Addr}{w w':World}
section
set_option maxRecDepth 100000
open Go Go.Eng Go.RowKit Tryz
attribute [local irreducible] wpListIn Code.wpIn Oper.wpIn Exit.then Exit.inBlock Exit.noGoto
set_option maxHeartbeats 40000000
def cI {z:Int}(h:Fz z):(aa z).length<=1000000:=by have:=mw h.int;omega
def nc:Nat->List UInt8
 |0=>[49]
 |k+1=>nc k++[48]
def qM (k:Nat):nc k=49::List.replicate k 48:=by
 induction k with
 |zero=>rfl
 |succ k ih=>rw[nc,ih,List.replicate_succ'];rfl
def xK (k:Nat):(nc k).length=k+1:=by rw[qM];simp
def xL (h:k<200):nc k=nS (10^k):=by rw[qM,wt h]
def j4 {a b:Int}(hl:l=aa a)(hm:m=aa b)(ha:Fz a)(hb:Fz b)(h:Fz (a+b)):
 CL 35 #[S l,S m] w (aH w λv w'=>v=S (aa (a+b))):=by
 subst hl hm;refine aC func35 Z (I ?_);refine cl KI (gT (Y:=.tuple #[S (aa (a+b)),.int .i64 0]) (zT _ _ _ (cI ha) (cI hb)) (qb1 eE (uY ha hb h))) ?_;rintro _ _ E rfl;have D:=E.2;refine I ?_;exact an (t:=4) (v:=S (aa (a+b))) Z D Z Z
def gp {a b:Int}(hl:l=aa a)(hm:m=aa b)(ha:Fz a)(hb:Fz b)(h:Fz (a-b)):
 CL 33 #[S l,S m] w (aH w λv w'=>v=S (aa (a-b))):=by
 subst hl hm;refine aC func33 Z (I ?_);refine cl FJ (gT (Y:=.tuple #[S (aa (a-b)),.int .i64 0]) (pk _ _ _ (cI ha) (cI hb)) (qb1 eE (zZ ha hb h))) ?_;rintro _ _ E rfl;have D:=E.2;refine I ?_;exact an (t:=4) (v:=S (aa (a-b))) Z D Z Z
def j5 {a b:Int}(hl:l=aa a)(hm:m=aa b)(ha:Fz a)(hb:Fz b)(h:Fz (a*b)):
 CL 30 #[S l,S m] w (aH w λv w'=>v=S (aa (a*b))):=by
 subst hl hm;refine aC func30 Z (I ?_);refine cl KH (gT (Y:=.tuple #[S (aa (a*b)),.int .i64 0]) (zU _ _ _ (cI ha) (cI hb)) (qb1 eE (uZ ha hb h))) ?_;rintro _ _ E rfl;have D:=E.2;refine I ?_;exact an (t:=4) (v:=S (aa (a*b))) Z D Z Z
def lX {a b:Int}(hl:l=aa a)(hm:m=aa b)(ha:Fz a)(hb:Fz b)(hp:0<b):
 CL 34 #[S l,S m,.bool false] w (aH w λv w'=>v=S (aa (a/b))):=by
 subst hl hm;have E:b≠0:=U;refine aC func34 Z (I ?_);refine clb sv (hc:=gT (Y:=.tuple #[S (aa (a/b)),S (aa (a%b)),.int .i64 0]) (gk _ _ _ (cI ha) (cI hb)) (qb1 lF (jV ha hb E (eU ha U)))) (hk:=?_);rintro _ _ G rfl;have D:=G.2;refine I ?_;exact an (t:=6) (v:=S (aa (a/b))) Z D Z Z
def e9 (hl:l=nS a)(hm:m=nS b)(h:Fi (a+b)):CL 35 #[S l,S m] w (aH w λv _=>v=S (nS (a+b))):=j4 hl hm (rM h).1.z (rM h).2.z h.z
def dP (hl:l=nS a)(hm:m=nS b)(ha:Fi a)(hb:Fi b)(h:Fi (a*b)):CL 30 #[S l,S m] w (aH w λv _=>v=S (nS (a*b))):=j5 hl hm ha.z hb.z h.z
def iW (hl:l=nS a)(hm:m=nS b)(ha:Fi a)(hb:Fi b)(hp:0<b):CL 34 #[S l,S m,.bool false] w (aH w λv _=>v=S (nS (a/b))):=lX hl hm ha.z hb.z U
def lY (hl:l=nS a)(hm:m=nS b)(ha:Fi a)(hb:Fi b)(hp:0<b):
 CL 34 #[S l,S m,.bool true] w (aH w λv w'=>v=S (nS (gF a b))):=by
 subst hl hm;refine aC func34 Z (I ?_);refine cl sv (gT (Y:=.tuple #[S (nS (a/b)),S (nS (a%b)),.int .i64 0]) (gk _ _ _ (cI ha.z) (cI hb.z)) (qb1 lF (Aa ha hb hp))) ?_;rintro _ _ E rfl;have D:=E.2;refine I ?_;refine KP (b:=[48]) (I ?_);by_cases cf:(nS (a%b))=([48]);refine I ?_;exact an (t:=6) (v:=S (nS (a/b))) Z D (Jt cf) Z;refine I ?_;refine cl gx (e9 Z g8 (ER ha hp cf)) ?_;rintro _ _ G rfl;have D:=xt D G.2;refine I ?_;exact an (t:=6) (v:=S (nS (a/b+1))) Z D (Ju cf) Z
def bA (hp:pl<200):
 CL 31 #[.int .i64 pl] w (aH w λv w'=>v=S (nS (10^pl))):=by
 refine aC func31 Z (I ?_);have G:=aa4 w;refine cM [(3,11)] (λE e W=>∃i:Nat,(pl-i=E)/\(e 3=S (nc i))/\(e 4=.int .i64 i)/\(i<=pl)/\(a8 w W)) (pl-0) ⟨0,rfl,rfl,rfl,(qa7 _),G⟩ ?_;rintro _ _ _ ⟨i,rfl,H,O,hi,D⟩;have kk:=bz D;by_cases hl:i<pl;refine I ?_;refine ab (me (a:=nc i) (b:=[48]) Z Z (by rw[xK];simp;omega) ?_);refine I ?_;refine ab (bb (a:=(i:Int)) (b:=1) (c:=((i+1:Nat):Int)) Z Z JT U ?_);refine I ?_;exact bQ ⟨i+1,rfl,rfl,rfl,U,D⟩;refine I ?_;exact an (t:=2) (v:=S (nc i)) Z D (by rw[show i=pl by omega,xL hp]) Z
def ju {p:Prop}(h:p:=by kernel_rfl):p:=h
def uh (h:n<=90):Sc (10^n):=⟨Nat.pow_pos dc,Nat.pow_lt_pow_right dc U⟩
def tT (hn:n<=100000000):CL 200 #[.int .i64 n] w (aH w λv _=>v=S (nS n)):=uX (n:Int) _ U
def ku (hl:l=nS a)(hm:m=nS b)(ha:Fi a)(hb:Fi b):CL 32 #[S l,S m] w (aH w λv _=>v=.int .i64 (aw (a:Int) (b:Int))):=by
 subst hl hm
 exact gT (lM _ _ _ (cI ha.z) (cI hb.z)) (qb1 (Value.int .i64) (pp ha.z hb.z))
def nT (hp:pl<=90)(hn:Fi n)(hd:Fi d)(h0:0<d)(hm:Fi (n*10^pl)):
 CL 77 #[.agg #[S (nS n),S (nS d)],.int .i64 pl] w (aH w λv w'=>v=.agg #[S (nS ((aM (10^pl) n d).1)),S (nS ((aM (10^pl) n d).2))]):=by
 have hS:=uh hp;refine aC func77 Z (I ?_);refine bx (λH g E=>?_);have D:=g.2;refine al bl (λ_ Ao G=>?_);have⟨E,D⟩:=bn Ao.2 E D;refine I ?_;refine bB 4 ?_;refine sf ?_;refine ay (V:=S (nS (10^pl))) (λ_ _ _ _=>?_) ?_;refine clb c7 (hc:=bA (pl:=(pl)) U) (hk:=?_);rintro _ _ Ad rfl;have kd:=Ad.2;refine I ?_;exact fs ⟨kd,rfl⟩;refine sf ?_;intro _ _ A2 _;have⟨E,G,D⟩:=aP A2.2 E G D;refine cl fk (dP Z Z hn hS.fi hm) ?_;rintro _ _ A1 rfl;have⟨E,G,D⟩:=aP A1.2 E G D;refine I ?_;refine bB 7 ?_;refine sf ?_;refine ay (V:=S (nS ((n*(10^pl))/d))) (λ_ _ _ _=>?_) ?_;refine cl fo (iW Z Z hm hd h0) ?_;rintro _ _ kk rfl;have W:=kk.2;refine I ?_;exact fs ⟨W,rfl⟩;refine sf ?_;intro _ _ Am _;have⟨E,G,D⟩:=aP Am.2 E G D;refine cl fo (lY Z Z hm hd h0) ?_;rintro _ _ O rfl;have⟨E,G,D⟩:=aP O.2 E G D;refine ab (aS (vs:=[(0,S (nS ((n*(10^pl))/d))),(1,S (nS (gF (n*(10^pl)) d)))]) (cells:=#[S (nS ((n*(10^pl))/d)),S (nS (gF (n*(10^pl)) d))]) (pl:=[(0,1),(1,1)]) eX bl ju Z ju ?_)
 refine ab (aU (b:=H.heap.size) (o:=0) (vs:=[S (nS ((n*(10^pl))/d)),S (nS (gF (n*(10^pl)) d))]) bf Z Z Vb G (qa3 Z) (λ_ Ab Af=>?_));have⟨E,D,_⟩:=dE Ab E D;refine I ?_;refine aK (v:=.agg #[S (nS ((n*(10^pl))/d)),S (nS (gF (n*(10^pl)) d))]) (cn  rfl ?_) D Z;refine ah (t:=4) (cs:=[S (nS ((n*(10^pl))/d)),S (nS (gF (n*(10^pl)) d))]) (b:=H.heap.size) (o:=0) eX Z bf ?_ ?_;exact Z;exact aa0 Af (i:=0) Z
def kv {a b:N2}(h1:Fi (a.1+b.1))(h2:Fi (a.2+b.2)):
 CL 133 #[.agg #[S (nS a.1),S (nS a.2)],.agg #[S (nS b.1),S (nS b.2)]] w (aH w λv w'=>v=.agg #[S (nS ((dA a b).1)),S (nS ((dA a b).2))]):=by
 refine aC func133 Z (I ?_);refine bx (λ_ od E=>?_);have D:=od.2;refine bx (λO ny G=>?_);have⟨E,D⟩:=bn ny.2 E D;refine al bl (λ_ A2 H=>?_);have⟨E,G,D⟩:=aP A2.2 E G D;refine I ?_;refine bB 9 ?_;refine sf ?_;refine ay (V:=S (nS (a.1+b.1))) (λ_ _ _ _=>?_) ?_;refine cl gx (e9 Z Z h1) ?_;rintro _ _ g rfl;have A1:=g.2;refine I ?_;exact fs ⟨A1,rfl⟩;refine sf ?_;intro _ _ W _;have⟨E,G,H,D⟩:=br W.2 E G H D;refine cl gx (e9 Z Z h2) ?_;rintro _ _ Ab rfl;have⟨E,G,H,D⟩:=br Ab.2 E G H D;refine ab (aS (vs:=[(0,S (nS (a.1+b.1))),(1,S (nS (a.2+b.2)))]) (cells:=#[S (nS (a.1+b.1)),S (nS (a.2+b.2))]) (pl:=[(0,1),(1,1)]) eX bl ju Z ju ?_);refine ab (aU (b:=O.heap.size) (o:=0) (vs:=[S (nS (a.1+b.1)),S (nS (a.2+b.2))]) bf Z Z Vb H (qa3 Z) (λ_ kk kd=>?_));have⟨E,G,D,_⟩:=fq kk E G D;refine I ?_;refine aK (v:=.agg #[S (nS (a.1+b.1)),S (nS (a.2+b.2))]) (cn  rfl ?_) D Z;refine ah (t:=4) (cs:=[S (nS (a.1+b.1)),S (nS (a.2+b.2))]) (b:=O.heap.size) (o:=0) eX Z bf ?_ ?_;exact Z;exact aa0 kd (i:=0) Z
def hO {a b:N2}(hp:pl<=90)(ha:Bk 95 a)(hb:Bk 95 b):
 CL 170 #[.agg #[S (nS a.1),S (nS a.2)],.agg #[S (nS b.1),S (nS b.2)],.int .i64 pl] w (aH w λv w'=>v=.agg #[S (nS ((a7 (10^pl) a b).1)),S (nS ((a7 (10^pl) a b).2))]):=by
 have hS:=uh hp;have O:=ha.fi dc;have kk:=hb.fi dc;refine aC func170 Z (I ?_);refine bx (λ_ Ao E=>?_);have D:=Ao.2;refine bx (λW Ar G=>?_);have⟨E,D⟩:=bn Ar.2 E D;refine al bl (λ_ A2 H=>?_);have⟨E,G,D⟩:=aP A2.2 E G D;refine I ?_;refine bB 14 ?_;refine sf ?_;refine ay (V:=S (nS (a.1*b.1))) (λ_ _ _ _=>?_) ?_;refine clb fk (hc:=dP Z Z O.1 kk.1 (bC ha.1 hb.1 dc)) (hk:=?_);rintro _ _ As rfl;have kd:=As.2;refine I ?_;exact fs ⟨kd,rfl⟩;refine sf ?_;refine ay (V:=S (nS (10^pl))) (λ_ _ _ _=>?_) ?_;refine clb c7 (hc:=bA (pl:=(pl)) U) (hk:=?_);rintro _ _ g rfl;have Ap:=g.2;refine I ?_;exact fs ⟨Ap,rfl⟩;refine ay (V:=S (nS ((a.1*b.1)/(10^pl)))) (λ_ _ _ _=>?_) ?_;refine clb fo (hc:=iW Z Z (bC ha.1 hb.1 dc) hS.fi hS.pos) (hk:=?_);rintro _ _ Ad rfl;have Am:=Ad.2;refine I ?_;exact fs ⟨Am,rfl⟩;refine sf ?_;refine ay (V:=S (nS (a.2*b.2))) (λ_ _ _ _=>?_) ?_;refine clb fk (hc:=dP Z Z O.2 kk.2 (bC ha.2 hb.2 dc)) (hk:=?_);rintro _ _ A1 rfl;have Aw:=A1.2;refine I ?_;exact fs ⟨Aw,rfl⟩;refine sf ?_;intro _ _ Ab _;have⟨E,G,H,D⟩:=br Ab.2 E G H D;refine clb c7 (hc:=bA (pl:=(pl)) U) (hk:=?_);rintro _ _ Av rfl;have⟨E,G,H,D⟩:=br Av.2 E G H D
 refine clb fo (hc:=lY Z Z (bC ha.2 hb.2 dc) hS.fi hS.pos) (hk:=?_);rintro _ _ Af rfl;have⟨E,G,H,D⟩:=br Af.2 E G H D;refine ab (aS (vs:=[(0,S (nS ((a.1*b.1)/(10^pl)))),(1,S (nS (gF (a.2*b.2) (10^pl))))]) (cells:=#[S (nS ((a.1*b.1)/(10^pl))),S (nS (gF (a.2*b.2) (10^pl)))]) (pl:=[(0,1),(1,1)]) eX bl ju Z ju ?_);refine ab (aU (b:=W.heap.size) (o:=0) (vs:=[S (nS ((a.1*b.1)/(10^pl))),S (nS (gF (a.2*b.2) (10^pl)))]) bf Z Z Vb H (qa3 Z) (λ_ Ax Aq=>?_));have⟨E,G,D,_⟩:=fq Ax E G D;refine I ?_;refine aK (v:=.agg #[S (nS ((a.1*b.1)/(10^pl))),S (nS (gF (a.2*b.2) (10^pl)))]) (cn  rfl ?_) D Z;refine ah (t:=6) (cs:=[S (nS ((a.1*b.1)/(10^pl))),S (nS (gF (a.2*b.2) (10^pl)))]) (b:=W.heap.size) (o:=0) eX Z bf ?_ ?_;exact Z;exact aa0 Aq (i:=0) Z
def xM {a b:N2}(hp:pl<=90)(ha:Bk 95 a)(hb:Bk 190 b)(h1:0<b.1)(h2:0<b.2):
 CL 129 #[.agg #[S (nS a.1),S (nS a.2)],.agg #[S (nS b.1),S (nS b.2)],.int .i64 pl] w (aH w λv w'=>v=.agg #[S (nS ((iD (10^pl) a b).1)),S (nS ((iD (10^pl) a b).2))]):=by
 have hS:=uh hp;have O:=ha.fi dc;have kk:=hb.fi dc;refine aC func129 Z (I ?_);refine bx (λ_ A2 E=>?_);have D:=A2.2;refine bx (λW Aq G=>?_);have⟨E,D⟩:=bn Aq.2 E D;refine al bl (λ_ Ab H=>?_);have⟨E,G,D⟩:=aP Ab.2 E G D;refine I ?_;refine bB 15 ?_;refine sf ?_;refine ay (V:=S (nS (10^pl))) (λ_ _ _ _=>?_) ?_;refine clb c7 (hc:=bA (pl:=(pl)) U) (hk:=?_);rintro _ _ Av rfl;have Ar:=Av.2;refine I ?_;exact fs ⟨Ar,rfl⟩;refine ay (V:=S (nS (a.1*(10^pl)))) (λ_ _ _ _=>?_) ?_;refine clb fk (hc:=dP Z Z O.1 hS.fi (bC ha.1 hS.lt dc)) (hk:=?_);rintro _ _ g rfl;have Ap:=g.2;refine I ?_;exact fs ⟨Ap,rfl⟩;refine sf ?_;refine ay (V:=S (nS ((a.1*(10^pl))/b.2))) (λ_ _ _ _=>?_) ?_;refine clb fo (hc:=iW Z Z (bC ha.1 hS.lt dc) kk.2 h2) (hk:=?_);rintro _ _ Am rfl;have Ax:=Am.2;refine I ?_;exact fs ⟨Ax,rfl⟩;refine sf ?_;refine ay (V:=S (nS (10^pl))) (λ_ _ _ _=>?_) ?_;refine clb c7 (hc:=bA (pl:=(pl)) U) (hk:=?_);rintro _ _ A1 rfl;have As:=A1.2;refine I ?_;exact fs ⟨As,rfl⟩;refine ay (V:=S (nS (a.2*(10^pl)))) (λ_ _ _ _=>?_) ?_;refine clb fk (hc:=dP Z Z O.2 hS.fi (bC ha.2 hS.lt dc)) (hk:=?_);rintro _ _ Af rfl;have kd:=Af.2;refine I ?_;exact fs ⟨kd,rfl⟩;refine sf ?_
 intro _ _ Aw _;have⟨E,G,H,D⟩:=br Aw.2 E G H D;refine clb fo (hc:=lY Z Z (bC ha.2 hS.lt dc) kk.1 h1) (hk:=?_);rintro _ _ Ao rfl;have⟨E,G,H,D⟩:=br Ao.2 E G H D;refine ab (aS (vs:=[(0,S (nS ((a.1*(10^pl))/b.2))),(1,S (nS (gF (a.2*(10^pl)) b.1)))]) (cells:=#[S (nS ((a.1*(10^pl))/b.2)),S (nS (gF (a.2*(10^pl)) b.1))]) (pl:=[(0,1),(1,1)]) eX bl ju Z ju ?_);refine ab (aU (b:=W.heap.size) (o:=0) (vs:=[S (nS ((a.1*(10^pl))/b.2)),S (nS (gF (a.2*(10^pl)) b.1))]) bf Z Z Vb H (qa3 Z) (λ_ Ay Ad=>?_));have⟨E,G,D,_⟩:=fq Ay E G D;refine I ?_;refine aK (v:=.agg #[S (nS ((a.1*(10^pl))/b.2)),S (nS (gF (a.2*(10^pl)) b.1))]) (cn  rfl ?_) D Z;refine ah (t:=6) (cs:=[S (nS ((a.1*(10^pl))/b.2)),S (nS (gF (a.2*(10^pl)) b.1))]) (b:=W.heap.size) (o:=0) eX Z bf ?_ ?_;exact Z;exact aa0 Ad (i:=0) Z
def jo {a:N2}(ha:Bk 190 a)(hn:n<=100000000)(hd:d<=100000000)(h0:0<d):
 CL 169 #[.agg #[S (nS a.1),S (nS a.2)],.int .i64 n,.int .i64 d] w (aH w λv w'=>v=.agg #[S (nS ((ba a n d).1)),S (nS ((ba a n d).2))]):=by
 have H:=ha.fi dc;refine aC func169 Z (I ?_);refine bx (λO Af E=>?_);have D:=Af.2;refine al bl (λ_ Aq G=>?_);have⟨E,D⟩:=bn Aq.2 E D;refine I ?_;refine cl Iw (tT hn) ?_;rintro _ _ Ao rfl;have⟨E,G,D⟩:=aP Ao.2 E G D;refine I ?_;refine cl Iw (tT hd) ?_;rintro _ _ kd rfl;have⟨E,G,D⟩:=aP kd.2 E G D;refine I ?_;refine bB 11 ?_;refine sf ?_;refine ay (V:=S (nS (a.1*n))) (λ_ _ _ _=>?_) ?_;refine clb fk (hc:=dP Z Z H.1 (bT (k:=9) U dc) (bC (m:=9) ha.1 U dc)) (hk:=?_);rintro _ _ Am rfl;have Ad:=Am.2;refine I ?_;exact fs ⟨Ad,rfl⟩;refine sf ?_;refine ay (V:=S (nS ((a.1*n)/d))) (λ_ _ _ _=>?_) ?_;refine clb fo (hc:=iW Z Z (bC (m:=9) ha.1 U dc) (bT (k:=9) U dc) h0) (hk:=?_);rintro _ _ W rfl;have A1:=W.2;refine I ?_;exact fs ⟨A1,rfl⟩;refine sf ?_;refine ay (V:=S (nS (a.2*n))) (λ_ _ _ _=>?_) ?_;refine clb fk (hc:=dP Z Z H.2 (bT (k:=9) U dc) (bC (m:=9) ha.2 U dc)) (hk:=?_);rintro _ _ A2 rfl;have wr:=A2.2;refine I ?_;exact fs ⟨wr,rfl⟩;refine sf ?_;intro _ _ kk _;have⟨E,G,D⟩:=aP kk.2 E G D;refine clb fo (hc:=lY Z Z (bC (m:=9) ha.2 U dc) (bT (k:=9) U dc) h0) (hk:=?_);rintro _ _ g rfl;have⟨E,G,D⟩:=aP g.2 E G D
 refine ab (aS (vs:=[(0,S (nS ((a.1*n)/d))),(1,S (nS (gF (a.2*n) d)))]) (cells:=#[S (nS ((a.1*n)/d)),S (nS (gF (a.2*n) d))]) (pl:=[(0,1),(1,1)]) eX bl ju Z ju ?_);refine ab (aU (b:=O.heap.size) (o:=0) (vs:=[S (nS ((a.1*n)/d)),S (nS (gF (a.2*n) d))]) bf Z Z Vb G (qa3 Z) (λ_ Ap Ab=>?_));have⟨E,D,_⟩:=dE Ap E D;refine I ?_;refine aK (v:=.agg #[S (nS ((a.1*n)/d)),S (nS (gF (a.2*n) d))]) (cn  rfl ?_) D Z;refine ah (t:=6) (cs:=[S (nS ((a.1*n)/d)),S (nS (gF (a.2*n) d))]) (b:=O.heap.size) (o:=0) eX Z bf ?_ ?_;exact Z;exact aa0 Ab (i:=0) Z
def lZ (hp:pl<=90):
 CL 130 #[.int .i64 pl] w (aH w λv w'=>v=.agg #[S (nS (((10^pl),(10^pl)).1)),S (nS (((10^pl),(10^pl)).2))]):=by
 refine aC func130 Z (I ?_);refine al bl (λ_ kk E=>?_);have D:=kk.2;refine I ?_;refine clb c7 (hc:=bA (pl:=(pl)) U) (hk:=?_);rintro _ _ O rfl;have⟨E,D⟩:=bn O.2 E D;refine I ?_;refine clb c7 (hc:=bA (pl:=(pl)) U) (hk:=?_);rintro _ _ W rfl;have⟨E,D⟩:=bn W.2 E D;refine ab (aS (vs:=[(0,S (nS (10^pl))),(1,S (nS (10^pl)))]) (cells:=#[S (nS (10^pl)),S (nS (10^pl))]) (pl:=[(0,1),(1,1)]) eX bl ju Z ju ?_);refine ab (aU (b:=w.heap.size) (o:=0) (vs:=[S (nS (10^pl)),S (nS (10^pl))]) bf Z Z Vb E (qa3 Z) (λ_ G H=>?_));have D:=eK G D;have kd:=dX G;refine I ?_;refine aK (v:=.agg #[S (nS (10^pl)),S (nS (10^pl))]) (cn  rfl ?_) D Z;refine ah (t:=2) (cs:=[S (nS (10^pl)),S (nS (10^pl))]) (b:=w.heap.size) (o:=0) eX Z bf ?_ ?_;exact Z;exact aa0 H (i:=0) Z
def kY {a:N2}(ha:Fi a.2):
 CL 171 #[.agg #[S (nS a.1),S (nS a.2)]] w (aH w λv w'=>v=.tuple #[.bool (decide (aw ((a.2:Nat):Int) ((2:Nat):Int)<=0)),.bool (decide (nS a.2=[48]))]):=by
 refine aC func171 Z (I ?_);refine bx (λ_ H _=>?_);have D:=H.2;refine I ?_;refine bB 8 ?_;refine sf ?_;refine ay (V:=.int .i64 (aw ((a.2:Nat):Int) ((2:Nat):Int))) (λ_ _ _ _=>?_) ?_;refine clb jE (hc:=ku Z jl ha (bT (k:=1) dc dc)) (hk:=?_);rintro _ _ G rfl;have E:=G.2;refine I ?_;exact fs ⟨E,rfl⟩;refine sf ?_;refine bj (λ_ _ _ _=>by refine k0 (b:=[48]) ?_;refine I ?_;exact bY) ?_;refine sf ?_;intro _ _ O _;have D:=xt D O.2;refine I ?_;exact aW (t:=2) (u:=3) (v1:=.bool (decide ((aw ((a.2:Nat):Int) ((2:Nat):Int))<=0))) (v2:=.bool (decide ((nS a.2)=([48])))) Z D Z Z Z
end
section
open Go Go.Eng Go.RowKit Tryz
def pC (a r:Nat):Prop:=r*r<=a/\a<(r+1)*(r+1)
def x6 (S:Nat):Nat->N2->Nat->Option (N2×Nat)
 |0,_,_=>none
 |f+1,y,h=>if gJ y=true then if S/4<y.2 then x6 S f (ba y 1 2) (h+1)else some (y,h)else none
def Fq (S:Nat)(x:N2):Nat->Nat->N2->N2->Option (N2×N2)
 |0,_,_,_=>none
 | f +1,n,t,s=>if gJ t=true/\gJ s=true then
  if(ba (a7 S t x) 1 n).2<=2 then some (dA s (ba (a7 S t x) 1 n),ba (a7 S t x) 1 n)else Fq S x f (n+1) (ba (a7 S t x) 1 n) (dA s (ba (a7 S t x) 1 n))else none
def xN (S:Nat)(x:N2):Option N2:=(x6 S 200 x 0).bind λp=>(Fq S p.1 199 1 (S,S) (S,S)).bind λq=>if gJ q.1=true/\gJ q.2=true then u0 S p.2 (q.1.1,q.1.2+q.2.2)else none
section
variable {S h:Nat}{x y t s q r c:N2}{p:N2×Nat}{u:N2×N2}
def LL (hh:x6 S f y h=some p)(hl:S/4<y.2):∃g,f=g+1/\Bk 95 y/\x6 S g (ba y 1 2) (h+1)=some p:=by
 cases f with
 |zero=>cases hh
 | succ g=>
   rw[x6]at hh
   by_cases hb:gJ y=true
   · rw[if_pos hb,if_pos hl]at hh;exact⟨g,rfl,bm hb,hh⟩
   · rw[if_neg hb]at hh;cases hh
def LM (hh:x6 S f y h=some p)(hl:¬S/4<y.2):p=(y,h)/\Bk 95 y:=by
 cases f with
 |zero=>cases hh
 | succ g=>
   rw[x6]at hh
   by_cases hb:gJ y=true
   · rw[if_pos hb,if_neg hl]at hh;cases hh;exact⟨rfl,bm hb⟩
   · rw[if_neg hb]at hh;cases hh
def Fs (hh:x6 S f y h=some p):Bk 95 y:=by
 cases f with
 |zero=>cases hh
 | succ g=>
   rw[x6]at hh
   by_cases hb:gJ y=true
   · exact bm hb
   · rw[if_neg hb]at hh;cases hh
def HT (hh:Fq S x f n t s=some u):∃g,f=g+1/\Bk 95 t/\Bk 95 s/\
 ((ba (a7 S t x) 1 n).2<=2->u=(dA s (ba (a7 S t x) 1 n),ba (a7 S t x) 1 n))/\(¬(ba (a7 S t x) 1 n).2<=2->Fq S x g (n+1) (ba (a7 S t x) 1 n) (dA s (ba (a7 S t x) 1 n))=some u):=by
 cases f with
 |zero=>cases hh
 | succ g=>
   unfold Fq at hh
   split at hh
   · rename_i hb
     refine⟨g,rfl,bm hb.1,bm hb.2,λh=>?_,λh=>?_⟩
     · rw[if_pos h]at hh;cases hh;rfl
     · rw[if_neg h]at hh;exact hh
   · cases hh
def Bs (hh:xN S x=some r):∃p u,x6 S 200 x 0=some p/\Fq S p.1 199 1 (S,S) (S,S)=some u/\Bk 95 u.1/\Bk 95 u.2/\u0 S p.2 (u.1.1,u.1.2+u.2.2)=some r:=by
 unfold xN at hh
 cases hp:x6 S 200 x 0 with
 |none=>rw[hp]at hh;cases hh
 | some p=>
   rw[hp,Option.bind_some]at hh
   cases hu:Fq S p.1 199 1 (S,S) (S,S)with
   |none=>rw[hu]at hh;cases hh
   | some u=>
     rw[hu,Option.bind_some]at hh
     split at hh
     · rename_i hb;exact⟨p,u,rfl,hu,bm hb.1,bm hb.2,hh⟩
     · cases hh
end
def tU:Nat->Nat->N2->N2->Option (N2×N2)
 |0,_,_,_=>none
 | f +1,n,t,s=>if gJ t=true/\gJ s=true then
  if(ba t n (2*n+1)).2<=2 then some (dA s (ba t n (2*n+1)),ba t n (2*n+1))else tU f (n+1) (ba t n (2*n+1)) (dA s (ba t n (2*n+1)))else none
def Kf (S:Nat):Option N2:=(tU 399 1 (S,S) (S,S)).bind λq=>if gJ q.1=true/\gJ q.2=true then some (ba (q.1.1,q.1.2+q.2.2) 2 1)else none
section
variable {S:Nat}{t s p:N2}{u:N2×N2}
def DV (hh:tU f n t s=some u):∃g,f=g+1/\Bk 95 t/\Bk 95 s/\
 ((ba t n (2*n+1)).2<=2->u=(dA s (ba t n (2*n+1)),ba t n (2*n+1)))/\(¬(ba t n (2*n+1)).2<=2->tU g (n+1) (ba t n (2*n+1)) (dA s (ba t n (2*n+1)))=some u):=by
 cases f with
 |zero=>cases hh
 | succ g=>
   unfold tU at hh
   split at hh
   · rename_i hb
     refine⟨g,rfl,bm hb.1,bm hb.2,λh=>?_,λh=>?_⟩
     · rw[if_pos h]at hh;cases hh;rfl
     · rw[if_neg h]at hh;exact hh
   · cases hh
def wO (hh:Kf S=some p):∃u,tU 399 1 (S,S) (S,S)=some u/\Bk 95 u.1/\Bk 95 u.2/\p=ba (u.1.1,u.1.2+u.2.2) 2 1:=by
 unfold Kf at hh
 cases hu:tU 399 1 (S,S) (S,S)with
 |none=>rw[hu]at hh;cases hh
 | some u=>
   rw[hu,Option.bind_some]at hh
   split at hh
   · rename_i hb;cases hh;exact⟨u,rfl,bm hb.1,bm hb.2,rfl⟩
   · cases hh
end
def Ft (S:Nat)(q:N2):Nat->Nat->N2->N2->Option (N2×N2)
 |0,_,_,_=>none
 | f +1,n,t,s=>if gJ t=true/\gJ s=true then
  let u:=ba (a7 S t q) 1 n
  if u.2<=2/\u.2*2<=t.2 then some (dA s u,u)else Ft S q f (n+2) u (dA s u)else none
def HU {S:Nat}{q t s:N2}{u:N2×N2}(hh:Ft S q f n t s=some u):∃g,f=g+1/\Bk 95 t/\Bk 95 s/\
 ((ba (a7 S t q) 1 n).2<=2/\(ba (a7 S t q) 1 n).2*2<=t.2->u=(dA s (ba (a7 S t q) 1 n),ba (a7 S t q) 1 n))/\(¬((ba (a7 S t q) 1 n).2<=2/\(ba (a7 S t q) 1 n).2*2<=t.2)->Ft S q g (n+2) (ba (a7 S t q) 1 n) (dA s (ba (a7 S t q) 1 n))=some u):=by
 cases f with
 |zero=>cases hh
 | succ g=>
   unfold Ft at hh
   split at hh
   · rename_i hb
     refine⟨g,rfl,bm hb.1,bm hb.2,λh=>?_,λh=>?_⟩
     · rw[if_pos h]at hh;cases hh;rfl
     · rw[if_neg h]at hh;exact hh
   · cases hh
def DW (S:Nat)(c:N2)(n d:Nat):Option N2:=
 let v:=aM S n d
 let q:=a7 S v v
 if gJ v=true/\gJ q=true then(Ft S q 399 3 v v).bind λp=>(xN S (ba q 1 2)).bind λe=>
  if gJ p.1=true/\gJ p.2=true/\gJ (p.1.1,p.1.2+(p.2.2+2))=true/\gJ e=true/\gJ c=true/\0<(a7 S e c).1/\0<(a7 S e c).2 then some (iD S (p.1.1,p.1.2+(p.2.2+2)) (a7 S e c))else none
 else none
def Bt {S:Nat}{c r:N2}(hh:DW S c n d=some r):Bk 95 (aM S n d)/\Bk 95 (a7 S (aM S n d) (aM S n d))/\∃p e,Ft S (a7 S (aM S n d) (aM S n d)) 399 3 (aM S n d) (aM S n d)=some p/\xN S (ba (a7 S (aM S n d) (aM S n d)) 1 2)=some e/\
 Bk 95 p.1/\Bk 95 p.2/\Bk 95 (p.1.1,p.1.2+(p.2.2+2))/\Bk 95 e/\Bk 95 c/\0<(a7 S e c).1/\0<(a7 S e c).2/\r=iD S (p.1.1,p.1.2+(p.2.2+2)) (a7 S e c):=by
 unfold DW at hh
 simp only at hh
 split at hh
 · rename_i hb
   refine⟨bm hb.1,bm hb.2,?_⟩
   cases hp:Ft S (a7 S (aM S n d) (aM S n d)) 399 3 (aM S n d) (aM S n d)with
   |none=>rw[hp]at hh;cases hh
   | some p=>
     rw[hp,Option.bind_some]at hh
     cases he:xN S (ba (a7 S (aM S n d) (aM S n d)) 1 2)with
     |none=>rw[he]at hh;cases hh
     | some e=>
       rw[he,Option.bind_some]at hh
       split at hh
       · rename_i h;cases hh;exact⟨p,e,rfl,rfl,bm h.1,bm h.2.1,bm h.2.2.1,bm h.2.2.2.1,bm h.2.2.2.2.1,h.2.2.2.2.2.1,h.2.2.2.2.2.2,rfl⟩
       · cases hh
 · cases hh
def pU (S:Nat)(c:N2):Prop:=∃p x y,Kf S=some p/\gJ (ba p 2 1)=true/\pC ((ba p 2 1).1*S) x/\pC ((ba p 2 1).2*S) y/\gJ (x,y+1)=true/\c=(x,y+1)
end
section
set_option maxRecDepth 100000
open Go Go.Eng Go.RowKit Tryz
attribute [local irreducible] wpListIn Code.wpIn Oper.wpIn Exit.then Exit.inBlock Exit.noGoto
set_option maxHeartbeats 40000000
structure Bu (a n i:Nat)(T:List Nat):Prop where
 lt:∀d∈T,d<10
 len:i+T.length=n
 lo:10^i*bg 10 T*(10^i*bg 10 T)<=a
 hi:a<10^i*(bg 10 T+1)*(10^i*(bg 10 T+1))
def Bu.start (h:a<10^(n+n)):Bu a n n []:=⟨λd h=>(List.not_mem_nil h).elim,rfl,by simp[bg],by rw[Nat.pow_add]at h;simpa[bg]using h⟩
def Bv (i:Nat)(T:List Nat):bg 10 (QL i T)=10^i*bg 10 T:=by
 unfold QL
 rw[bH,List.length_replicate]
 have:∀k,bg 10 (List.replicate k 0)=0:=λk=>by
  induction k with
  |zero=>rfl
  |succ k ih=>rw[List.replicate_succ];show 0+10*bg 10 (List.replicate k 0)=0;rw[ih]
 rw[this,Nat.zero_add]
def qN (h:∀d∈T,d<10):∀d∈QL i T,d<10:=λd hd=>by
 unfold QL at hd
 rcases List.mem_append.1 hd with h1|h1
 · have:=List.eq_of_mem_replicate h1;omega
 · exact h d h1
def kw (hc:c<=9)(h:∀d∈T,d<10):∀d∈c::T,d<10:=λd hd=>by
 rcases List.mem_cons.1 hd with h1|h1
 · omega
 · exact h d h1
def BU (j c:Nat)(T:List Nat):Nat:=10^j*bg 10 (c::T)*(10^j*bg 10 (c::T))
def wP (c:Nat)(T:List Nat):bg 10 (c::T)=c+10*bg 10 T:=rfl
def Bu.top (h:Bu a n i T)(h0:0<i):a<BU (i-1) (9+1) T:=by
 have h1:=h.hi
 unfold BU
 rw[wP]
 have e:10^i=10^(i-1)*10:=by rw[<-Nat.pow_succ];congr 1;omega
 have D:10^i*(bg 10 T+1)=10^(i-1)*(9+1+10*bg 10 T):=by rw[e,Nat.mul_assoc];congr 1;omega
 rw[D]at h1;exact h1
def Bu.step (h:Bu a n i T)(h0:0<i)(hc:c<=9)(hu:a<BU (i-1) (c+1) T)(hd:c=0\/¬a<BU (i-1) c T):Bu a n (i-1) (c::T):=by
 refine⟨kw hc h.lt,by have:=h.len;rw[List.length_cons];omega,?_,?_⟩
 · rcases hd with rfl|hd
   · have h1:=h.lo
     have e:10^i*bg 10 T=10^(i-1)*bg 10 (0::T):=by
      have e:10^i=10^(i-1)*10:=by rw[<-Nat.pow_succ];congr 1;omega
      rw[wP,e,Nat.mul_assoc];congr 1;omega
     rw[<-e];exact h1
   · unfold BU at hd;omega
 · have e:bg 10 (c::T)+1=bg 10 ((c+1)::T):=by rw[wP,wP];omega
   rw[e];exact hu
def Bu.fin (h:Bu a n 0 T):pC a (bg 10 T):=by
 have h1:=h.lo;have D:=h.hi
 simp only[Nat.pow_zero,Nat.one_mul]at h1 D
 exact⟨h1,D⟩
def rZ (j c:Nat)(T:List Nat):bg 10 (QL j (c::T))*bg 10 (QL j (c::T))=BU j c T:=by rw[Bv];rfl
def DX {r:Nat}(h:pC a r)(ha:a<10^200):r<10^101:=by
 rcases Nat.lt_or_ge r (10^101)with h1|h1
 · exact h1
 · have G:=qb7 h1 h1
   have D:=h.1
   have:10^101*10^101=10^202:=by rw[<-Nat.pow_add]
   have E:(10:Nat)^200<=10^202:=Nat.pow_le_pow_right U U
   omega
def HV {r:Nat}(h:r<10^101):eE (aR (bv false r))=.tuple #[S (nS r),.int .i64 0]:=by
 have hf:fits (bv false r)=true:=by unfold fits;rw[fS];exact qa1 (Nat.lt_trans h (Nat.pow_lt_pow_right U U))
 unfold aR;rw[if_pos hf];rfl
def tV (h:b<a):(0:Int)<aw (a:Int) (b:Int):=by rw[bM U];omega
def tW (h:¬b<a):¬(0:Int)<aw (a:Int) (b:Int):=by
 rcases Nat.eq_or_lt_of_le (Nat.le_of_not_lt h)with h1|h1
 · rw[dW U];omega
 · rw[bZ U];omega
def xO (hc:c<=9)(hT:∀d∈T,d<10)(hl:i+(T.length+1)<=101):bg 10 (QL i (c::T))<10^101:=by
 have h1:=fK 10 (QL i (c::T)) (qN (kw hc hT))
 refine qb0 h1 (Nat.pow_le_pow_right U ?_)
 rw[ei,List.length_cons];exact hl
def Bw {r:Nat}(h:r<10^101):(aj 10 (r*r)).length<=202:=by
 rw[aF 10 U]
 exact dl h h
def pE (a:Nat):nS a=aY a:=by unfold nS aa;rw[if_neg U,Int.natAbs_natCast]
def nU (h:Fi a):0<(nS a).length:=by
 have h1:=cN h.z.int
 rw[show(aa (a:Int))=nS a from rfl,pE,lw (jg a)]at h1
 rw[pE];exact(gN h1).1
def Fu (h:Fi a):¬((((nS a).getD 0 0).toNat:Nat):Int)=45:=λe=>by
 have h1:=nU h
 have D:=jg a
 rw[<-pE]at D
 obtain⟨c,l,hl⟩:∃c l,nS a=c::l:=by
  cases hn:nS a with
  |nil=>rw[hn]at h1;simp at h1
  |cons c l=>exact⟨c,l,rfl⟩
 rw[hl]at e D
 refine D ?_
 have G:c.toNat=45:=by have E:=e;simp at E;omega
 have:c=45:=by apply UInt8.toNat_inj.1;rw[G];rfl
 rw[this];rfl
structure qO (w:World)(lo hi:Nat)(A:Option Addr)(n c a:Nat):Prop where
 d:Dg w lo A n c a
 u:∀ad,A=some ad->ad.block<hi
def qO.ext {hi:Nat}(k:a8 w w')(h:qO w lo hi A n c a):qO w' lo hi A n c a:=⟨h.d.ext k,h.u⟩
def qO.put {hi:Nat}(k:fe w w' b)(hb:b<lo\/hi<=b)(h:qO w lo hi A n c a):qO w' lo hi A n c a:=by
 rcases hb with hb|hb
 · exact⟨⟨h.d.row.put k hb,h.d.len,h.d.cap⟩,h.u⟩
 · refine⟨⟨⟨λj u hu=>?_,h.d.row.lo,λD e=>by have:=h.d.row.hi D e;rw[k.size];exact this⟩,h.d.len,h.d.cap⟩,h.u⟩
   obtain⟨c,o,hA,hc⟩:=h.d.row.cells j u hu
   have h1:=h.u _ hA
   exact⟨c,o,hA,by rw[k.cell (by simp only at h1 ⊢;omega)];exact hc⟩
def l0 (hr:Rw w lo A (ints xs))(hn:xs.length=n)(hb:n<=1000000)(hd:∀d∈xs,d<10):
 CL 219 #[.slice A n c] w (aH w λv w'=>∃A m d,v=.slice A m d/\Dg w' w.heap.size A m d (bg 10 xs)):=by
 refine aC func219 Z (I ?_);refine ab (yR gq kH (λ_ kd _ G=>?_));have D:=kd;have Aq:=bz kd;refine I ?_;refine ab (jA (v:=.slice (some ⟨w.heap.size,0,none⟩) 0 0) (k:=0) gq kH Z dc Z G Z (hr.ext D) (by rw[cY,hn,Nat.mul_one]) ll Vv U U (λ_ A2 W O _=>?_));have D:=cK D O (bz D) (λg Ab=>by have:=(G.lt g Ab).1;omega);have Am:=O.size;obtain⟨Aw,H,rfl,Af,Ao,-,-⟩:=dt W;have hs:Rw A2 w.heap.size Aw (ints xs):=aa3 W;refine clb pZ (hc:=gS hs (by rw[hn,Nat.zero_add]) Af U) (hk:=?_);rintro _ _ E ⟨kk,rfl,A1,Ap⟩;have D:=xt D E.2;have Ad:=hs.ext E.2;refine I ?_;exact an (t:=2) (v:=.slice Aw kk H) Z D ⟨Aw,kk,H,rfl,(Dg.trim Ad hd Z A1 U U).mono U⟩ Z
def xP (ha:Fi a):
 CL 202 #[S (nS a)] w (aH w λv w'=>∃r,v=.tuple #[S (nS r),.int .i64 0]/\pC a r):=by
 have MI:isInt (nS a)=true:=ha.z.int;have MZ:=nU ha;refine aC func202 Z (I ?_);refine cl gt (cB (aZ (nS a) _ (cI ha.z)) MI) ?_;rintro _ _ ny rfl;have Af:=ny.2;refine I ?_;have od:=cj (l:=nS a) (i:=0) U;refine ab (dZ (l:=nS a) (i:=0) (c:=((nS a).getD 0 0)) U9 Z Z od ?_);have MP:=Fu ha;refine I ?_;refine cl mh (cg (nS a) _ ha.z.int) ?_;rintro _ H MA ⟨Ad,E,D1,rfl,A2⟩;have Af:=xt Af MA.2;rw[show au (body (nS a))=a from by unfold nS;rw[dI,ee];rfl]at A2;rw[show neg (nS a)=false from by unfold nS;rw[gO];simp];have MG:=A2.len;have MV:E<=200:=by rw[<-MG];exact(aF 10 U a 200).2 ha
 have A2:=A2.mono (lo':=w.heap.size) U;have MK:=A2.row.hi;have D:qO H w.heap.size H.heap.size Ad E D1 a:=⟨A2,MK⟩;have M5:a<10^(((E+1)/2)+((E+1)/2)):=qb0 ((aF 10 U a E).1 U) (Nat.pow_le_pow_right U U);refine I ?_;refine xl ?_;refine ab (lf (a:=(E:Int)+1) (b:=2) (c:=((E:Int)+1)/2) Z Z U U JT Z ?_);refine ab (oe (m:=((E+1)/2)) gq kH Z Z U Vv (λ_ Av _ E9=>?_));have D:=qO.ext Av D;have Af:=xt Af Av;have MQ:=bz Av;have hq:=nB E9;rw[kQ]at hq;clear E9;refine I ?_;refine oO (I ?_);rw[<-tn]at hq;refine cM [(7,7),(29,56)] (λD2 e W=>∃i:Nat,∃T:List Nat,(i=D2)/\(e 7=.int .i64 ((i:Int)-1))/\(i<=((E+1)/2))/\(Bu a ((E+1)/2) i T)/\(a8 w W)/\(qO W w.heap.size H.heap.size Ad E D1 a)/\(ae W H.heap.size 3 (ints (QL i T)).toArray)) ((E+1)/2) ⟨((E+1)/2),[],rfl,(qb1 (Value.int .i64) U),(qa0 _),(Bu.start M5),Af,D,hq⟩ ?_;rintro _ _ _ ⟨i,T,rfl,MO,MX,O,g,D,hq⟩;have MR:=bz g;by_cases hi:0<i;have MM:=bt hq;have MH:=O.len;rw[wm T hi]at hq;refine I ?_
 refine ab (am (A:=some ⟨H.heap.size,0,none⟩) (bk:=H.heap.size) (o:=0) (m:=((E+1)/2)) (c:=((E+1)/2)) (i:=i-1) (oo:=i-1) gq eN Z Z (bR Z U) U U ?_);refine ab (dn (b:=H.heap.size) (o:=i-1) (v:=.int .i64 ((9:Nat):Int)) eN Z Z Z hq VC (λ_ B2 Aw=>?_));have D:=qO.put B2 U D;have g:=eK B2 g;have My:=dX B2;have hq:=Aw;rw[ints_set]at hq;rw[uR]at hq;refine I ?_;refine cM [(36,56)] (λD2 e W=>∃c:Nat,(c=D2)/\(c<=9)/\(a<BU (i-1) (c+1) T)/\(a8 w W)/\(qO W w.heap.size H.heap.size Ad E D1 a)/\(ae W H.heap.size 3 (ints (QL (i-1) (c::T))).toArray)) (9) ⟨9,rfl,(qa0 _),(O.top hi),g,D,hq⟩ ?_;rintro _ _ _ ⟨c,rfl,kk,L2,G,D,hq⟩;have MS:=bz G;by_cases hc0:0<c;by_cases hgt:a<BU (i-1) c T;refine I ?_;refine ab (am (A:=some ⟨H.heap.size,0,none⟩) (bk:=H.heap.size) (o:=0) (m:=((E+1)/2)) (c:=((E+1)/2)) (i:=i-1) (oo:=i-1) gq eN Z Z (bR Z U) U U ?_);refine ab (aT (v:=.int .i64 (((QL (i-1) (c::T)).getD (i-1) 0:Nat):Int)) U3 Z Z (aa8 hq (by rw[List.getElem?_toArray];exact aO Vu)) ?_);rw[pj];refine I ?_;have Ay:=ab2 hq (qa0 _)
 refine clb ri (hc:=l0 Ay Vu U (qN (kw kk O.lt))) (hk:=?_);rintro _ _ Kp ⟨Am1,Ar,MB,rfl,kd⟩;have D:=qO.ext Kp.2 D;have⟨hq,G⟩:=bn Kp.2 hq G;have E1:=kd.len;have ME:Ar<=101:=by rw[<-E1,aF 10 U];exact xO kk O.lt U
 refine I ?_;have Aq:=ab2 hq (qa0 _);refine clb ri (hc:=l0 Aq Vu U (qN (kw kk O.lt))) (hk:=?_);rintro _ _ Ao ⟨Am2,Ax,M7,rfl,Ab⟩;have D:=qO.ext Ao.2 D;have hq:=be Ao.2 hq;have kd:=aa9 Ao.2 kd;have G:=xt G Ao.2;have B1:=Ab.len;have M9:Ax<=101:=by rw[<-B1,aF 10 U];exact xO kk O.lt U
 refine I ?_;refine clb yh (hc:=kR kd U Ab U) (hk:=?_);rintro _ _ EW ⟨Am3,Ap,MD,rfl,A1⟩;have D:=qO.ext EW.2 D;have⟨hq,G⟩:=bn EW.2 hq G;rw[rZ]at A1;have As:=A1.len;have MF:Ap<=202:=by rw[<-As,<-rZ];exact Bw (xO kk O.lt U)
 refine I ?_;refine clb ox (hc:=eQ A1 U D.d U) (hk:=?_);rintro _ _ E7 rfl;have D:=qO.ext E7.2 D;have⟨hq,G⟩:=bn E7.2 hq G;have MU:=tV hgt;refine I ?_;refine ab (am (A:=some ⟨H.heap.size,0,none⟩) (bk:=H.heap.size) (o:=0) (m:=((E+1)/2)) (c:=((E+1)/2)) (i:=i-1) (oo:=i-1) gq eN Z Z (bR Z U) U U ?_);refine ab (aT (v:=.int .i64 (((QL (i-1) (c::T)).getD (i-1) 0:Nat):Int)) U3 Z Z (aa8 hq (by rw[List.getElem?_toArray];exact aO Vu)) ?_);rw[pj];refine ab (fg (a:=(c:Int)) (b:=1) (c:=((c-1:Nat):Int)) Z Z JT U ?_);refine ab (am (A:=some ⟨H.heap.size,0,none⟩) (bk:=H.heap.size) (o:=0) (m:=((E+1)/2)) (c:=((E+1)/2)) (i:=i-1) (oo:=i-1) gq eN Z Z (bR Z U) U U ?_);refine ab (dn (b:=H.heap.size) (o:=i-1) (v:=.int .i64 ((c-1:Nat):Int)) eN Z Z Z hq VC (λ_ E4 Aw=>?_));have D:=qO.put E4 U D;have G:=eK E4 G;have MW:=dX E4;have hq:=Aw;rw[ints_set]at hq;refine I ?_;exact bQ ⟨c-1,rfl,U,(by rw[show c-1+1=c by omega];exact hgt),G,D,(by rw[uR]at hq;exact hq)⟩;have M1:c=0\/¬a<BU (i-1) c T:=Or.inr hgt;refine I ?_
 refine ab (am (A:=some ⟨H.heap.size,0,none⟩) (bk:=H.heap.size) (o:=0) (m:=((E+1)/2)) (c:=((E+1)/2)) (i:=i-1) (oo:=i-1) gq eN Z Z (bR Z U) U U ?_);refine ab (aT (v:=.int .i64 (((QL (i-1) (c::T)).getD (i-1) 0:Nat):Int)) U3 Z Z (aa8 hq (by rw[List.getElem?_toArray];exact aO Vu)) ?_);rw[pj];refine I ?_;have Ay:=ab2 hq (qa0 _);refine clb ri (hc:=l0 Ay Vu U (qN (kw kk O.lt))) (hk:=?_);rintro _ _ M0 ⟨Am1,Ar,MB,rfl,kd⟩;have D:=qO.ext M0.2 D;have⟨hq,G⟩:=bn M0.2 hq G;have E1:=kd.len;have ME:Ar<=101:=by rw[<-E1,aF 10 U];exact xO kk O.lt U
 refine I ?_;have Aq:=ab2 hq (qa0 _);refine clb ri (hc:=l0 Aq Vu U (qN (kw kk O.lt))) (hk:=?_);rintro _ _ Am ⟨Am2,Ax,M7,rfl,Ab⟩;have D:=qO.ext Am.2 D;have hq:=be Am.2 hq;have kd:=aa9 Am.2 kd;have G:=xt G Am.2;have B1:=Ab.len;have M9:Ax<=101:=by rw[<-B1,aF 10 U];exact xO kk O.lt U
 refine I ?_;refine clb yh (hc:=kR kd U Ab U) (hk:=?_);rintro _ _ Jx ⟨Am3,Ap,MD,rfl,A1⟩;have D:=qO.ext Jx.2 D;have⟨hq,G⟩:=bn Jx.2 hq G;rw[rZ]at A1;have As:=A1.len;have MF:Ap<=202:=by rw[<-As,<-rZ];exact Bw (xO kk O.lt U)
 refine I ?_;refine clb ox (hc:=eQ A1 U D.d U) (hk:=?_);rintro _ _ Ix rfl;have D:=qO.ext Ix.2 D;have⟨hq,G⟩:=bn Ix.2 hq G;have MY:=tW hgt;refine I ?_;refine ab (fg (a:=(i:Int)-1) (b:=1) (c:=((i-1:Nat):Int)-1) Z Z JT U ?_);refine I ?_;exact bQ ⟨i-1,c::T,rfl,rfl,U,(O.step hi kk L2 U),G,D,hq⟩;have M1:c=0\/¬a<BU (i-1) c T:=Or.inl U;refine I ?_;refine ab (am (A:=some ⟨H.heap.size,0,none⟩) (bk:=H.heap.size) (o:=0) (m:=((E+1)/2)) (c:=((E+1)/2)) (i:=i-1) (oo:=i-1) gq eN Z Z (bR Z U) U U ?_);refine ab (aT (v:=.int .i64 (((QL (i-1) (c::T)).getD (i-1) 0:Nat):Int)) U3 Z Z (aa8 hq (by rw[List.getElem?_toArray];exact aO Vu)) ?_);rw[pj];refine I ?_;refine ab (fg (a:=(i:Int)-1) (b:=1) (c:=((i-1:Nat):Int)-1) Z Z JT U ?_);refine I ?_;exact bQ ⟨i-1,c::T,rfl,rfl,U,(O.step hi kk L2 U),G,D,hq⟩;have MM:=bt hq;have M8:i=0:=J
 rw[M8]at O hq;have MH:=O.len;have K2:=O.fin;refine I ?_;have M3:=ab2 hq (qa0 _);refine clb pZ (hc:=gS M3 (by rw[ei];omega) (qa0 _) U) (hk:=?_);rintro _ M6 MJ ⟨MN,rfl,M2,M4⟩;have⟨hq,g⟩:=bn MJ.2 hq g;have MC:Dg M6 0 (some ⟨H.heap.size,0,none⟩) MN ((E+1)/2) (bg 10 T):=(Dg.trim (ab2 hq (qa0 _)) (qN O.lt) (by rw[Bv,Nat.pow_zero,Nat.one_mul]) M2 (by rw[ei];omega) M4).mono (qa7 _);refine clb qY (hc:=gT (fE MC U false) (HV (DX K2 ha))) (hk:=?_);rintro _ _ ML rfl;have g:=xt g ML.2;refine I ?_;exact aW (t:=2) (u:=3) (v1:=S (nS (bg 10 T))) (v2:=.int .i64 0) Z g ⟨bg 10 T,rfl,K2⟩ Z Z
def pC.uniq {r s:Nat}(h:pC a r)(k:pC a s):r=s:=by
 rcases Nat.lt_trichotomy r s with h1|h1|h1
 · have:=qb7 (show r+1<=s by omega) (show r+1<=s by omega);have:=h.2;have:=k.1;omega
 · exact h1
 · have:=qb7 (show s+1<=r by omega) (show s+1<=r by omega);have:=k.2;have:=h.1;omega
def wQ {r:Nat}(ha:Fi a)(h:pC a r):CL 202 #[S (nS a)] w (aH w λv _=>v=.tuple #[S (nS r),.int .i64 0]):=by
 refine aH.mono (xP ha) λv w' k=>?_
 obtain⟨s,e,hs⟩:=k
 rw[e,h.uniq hs]
def vj (h:aw (a:Int) ((2:Nat):Int)<=0):a<=2:=by
 rw[bw]at h;omega
def vk (h:¬aw (a:Int) ((2:Nat):Int)<=0):¬a<=2:=λD=>by
 rw[bw]at h;omega
def LN:Fi 2:=by unfold Fi;decide
def Mg:Fi 4:=by unfold Fi;decide
def kG {a b:N2}(ha:Bk 190 a)(hb:Bk 190 b):Fi (a.1+b.1)/\Fi (a.2+b.2):=by
 obtain⟨_,_⟩:=ha;obtain⟨_,_⟩:=hb
 unfold Fi
 have:(10:Nat)^190+10^190<=10^200:=by decide
 exact⟨by omega,by omega⟩
def wR {a:N2}(h:Bk k a):Bk k (ba a 1 n):=
 ⟨Nat.lt_of_le_of_lt (by simpa[ba]using Nat.div_le_self _ _) h.1,Nat.lt_of_le_of_lt (by unfold ba gF;simp only[Nat.mul_one];split <;>rename_i h1;exact Nat.div_le_self _ _;by_cases h0:n=0;subst h0;simp at h1 ⊢;omega;have:=iE (a:=a.2) (b:=n) U;unfold gF at this;rw[if_neg h1]at this;exact this) h.2⟩
def xQ {a:N2}{x y:Nat}(hp:pl<=90)(ha:Bk 95 a)(hx:pC (a.1*10^pl) x)(hy:pC (a.2*10^pl) y)(hy1:Fi (y+1)):
 CL 176 #[.agg #[S (nS a.1),S (nS a.2)],.int .i64 pl] w (aH w λv w'=>v=.agg #[S (nS ((x,y+1).1)),S (nS ((x,y+1).2))]):=by
 have hS:=uh hp;have H:=ha.fi dc;refine aC func176 Z (I ?_);refine bx (λO Ao E=>?_);have D:=Ao.2;refine al bl (λ_ Ax G=>?_);have⟨E,D⟩:=bn Ax.2 E D;refine I ?_;refine bB 10 ?_;refine sf ?_;refine ay (V:=S (nS (10^pl))) (λ_ _ _ _=>?_) ?_;refine clb c7 (hc:=bA (pl:=(pl)) U) (hk:=?_);rintro _ _ As rfl;have kk:=As.2;refine I ?_;exact fs ⟨kk,rfl⟩;refine ay (V:=S (nS (a.1*(10^pl)))) (λ_ _ _ _=>?_) ?_;refine clb fk (hc:=dP Z Z H.1 hS.fi (bC ha.1 hS.lt dc)) (hk:=?_);rintro _ _ A2 rfl;have W:=A2.2;refine I ?_;exact fs ⟨W,rfl⟩;refine ay (V:=.tuple #[S (nS x),.int .i64 0]) (λ_ _ _ _=>?_) ?_;refine clb yG (hc:=wQ (bC ha.1 hS.lt dc) hx) (hk:=?_);rintro _ _ Ar rfl;have Av:=Ar.2;refine I ?_;exact fs ⟨Av,rfl⟩;refine sf ?_;intro _ _ A1 _;have⟨E,G,D⟩:=aP A1.2 E G D;refine I ?_;refine bB 10 ?_;refine sf ?_;refine ay (V:=S (nS (10^pl))) (λ_ _ _ _=>?_) ?_;refine clb c7 (hc:=bA (pl:=(pl)) U) (hk:=?_);rintro _ _ Af rfl;have Ad:=Af.2;refine I ?_;exact fs ⟨Ad,rfl⟩;refine ay (V:=S (nS (a.2*(10^pl)))) (λ_ _ _ _=>?_) ?_;refine clb fk (hc:=dP Z Z H.2 hS.fi (bC ha.2 hS.lt dc)) (hk:=?_);rintro _ _ g rfl;have kd:=g.2;refine I ?_;exact fs ⟨kd,rfl⟩
 refine ay (V:=.tuple #[S (nS y),.int .i64 0]) (λ_ _ _ _=>?_) ?_;refine clb yG (hc:=wQ (bC ha.2 hS.lt dc) hy) (hk:=?_);rintro _ _ Ab rfl;have Ay:=Ab.2;refine I ?_;exact fs ⟨Ay,rfl⟩;refine sf ?_;intro _ _ Aw _;have⟨E,G,D⟩:=aP Aw.2 E G D;refine I ?_;refine cl gx (e9 Z g8 hy1) ?_;rintro _ _ Am rfl;have⟨E,G,D⟩:=aP Am.2 E G D;refine ab (aS (vs:=[(0,S (nS x)),(1,S (nS (y+1)))]) (cells:=#[S (nS x),S (nS (y+1))]) (pl:=[(0,1),(1,1)]) eX bl q0 Z q0 ?_);refine ab (aU (b:=O.heap.size) (o:=0) (vs:=[S (nS x),S (nS (y+1))]) bf Z Z Vb G (qa3 Z) (λ_ Aq Ap=>?_));have⟨E,D,_⟩:=dE Aq E D;refine I ?_;refine aK (v:=.agg #[S (nS x),S (nS (y+1))]) (cn  rfl ?_) D Z;refine ah (t:=4) (cs:=[S (nS x),S (nS (y+1))]) (b:=O.heap.size) (o:=0) eX Z bf ?_ ?_;exact Z;exact aa0 Ap (i:=0) Z
def By {x r:N2}(hp:pl<=90)(he:xN (10^pl) x=some r):
 CL 128 #[.agg #[S (nS x.1),S (nS x.2)],.int .i64 pl] w (aH w λv w'=>v=.agg #[S (nS r.1),S (nS r.2)]):=by
 have hS:=uh hp;obtain⟨p,u,hv,hu,MY,M9,hq⟩:=Bs he;have hS1:Bk 95 (10^pl,10^pl):=⟨hS.lt,hS.lt⟩;refine aC func128 Z (I ?_);refine bx (λAd MD As=>?_);have wr:=MD.2;refine al bl (λMy MP D=>?_);have⟨As,wr⟩:=bn MP.2 As wr;refine I ?_;have ND:=Fs hv;refine cM [(5,5),(12,22)] (λAp e W=>∃f:Nat,∃y:N2,∃h:Nat,(f=Ap)/\(e 5=.int .i64 h)/\(x6 (10^pl) f y h=some p)/\(h+f<=200)/\(My.heap.size<=W.heap.size)/\(a8 w W)/\(ae W Ad.heap.size 94 #[S [],S []])/\(ae W w.heap.size 94 #[S (nS y.1),S (nS y.2)])) (200) ⟨200,x,0,rfl,rfl,hv,U,(qa0 _),wr,D,As⟩ ?_;rintro _ _ _ ⟨f,y,h,rfl,N1,Ao,hb,NA,G,D,E⟩;have N5:=bz G;have hy:=Fs Ao;by_cases hl:(10^pl)/4<y.2;obtain⟨g,rfl,hy,MG⟩:=LL Ao hl;refine I ?_;refine bB 5 ?_;refine sf ?_;refine ay (V:=S (nS (10^pl))) (λ_ _ _ _=>?_) ?_;refine clb c7 (hc:=bA (pl:=(pl)) U) (hk:=?_);rintro _ _ MK rfl;have MN:=MK.2;refine I ?_;exact fs ⟨MN,rfl⟩;refine ay (V:=S (nS ((10^pl)/4))) (λ_ _ _ _=>?_) ?_;refine clb fo (hc:=iW Z G9 hS.fi Mg dc) (hk:=?_);rintro _ _ E4 rfl;have MQ:=E4.2;refine I ?_;exact fs ⟨MQ,rfl⟩;refine sf ?_;intro _ _ MB _;have⟨D,E,G⟩:=aP MB.2 D E G
 refine clb jE (hc:=ku Z Z (hy.fi dc).2 (Nat.lt_of_le_of_lt (Nat.div_le_self _ _) hS.fi)) (hk:=?_);rintro _ _ E7 rfl;have⟨D,E,G⟩:=aP E7.2 D E G;have N0:=tV hl;refine I ?_;refine clb kI (hc:=jo (n:=1) (d:=2) ((hy).mono dc) U U U) (hk:=?_);rintro _ _ MI rfl;have⟨D,E,G⟩:=aP MI.2 D E G;refine ab (aU (b:=w.heap.size) (o:=0) (vs:=[S (nS ((ba y 1 2).1)),S (nS ((ba y 1 2).2))]) bf Z Z Vb E (qa3 Z) (λ_ M7 M2=>?_));have⟨D,G,_⟩:=dE M7 D G;refine I ?_;refine ab (bb (a:=(h:Int)) (b:=1) (c:=((h+1:Nat):Int)) Z Z JT U ?_);refine I ?_;exact bQ ⟨g,ba y 1 2,h+1,rfl,rfl,MG,U,U,G,D,M2⟩;obtain⟨Aw,hy⟩:=LM Ao hl;have MV:p.1=y:=by rw[Aw]
 have MJ:p.2=h:=by rw[Aw]
 rw[MV]at hu;rw[MJ]at hq;refine I ?_;refine bB 5 ?_;refine sf ?_;refine ay (V:=S (nS (10^pl))) (λ_ _ _ _=>?_) ?_;refine clb c7 (hc:=bA (pl:=(pl)) U) (hk:=?_);rintro _ _ MS rfl;have M1:=MS.2;refine I ?_;exact fs ⟨M1,rfl⟩;refine ay (V:=S (nS ((10^pl)/4))) (λ_ _ _ _=>?_) ?_;refine clb fo (hc:=iW Z G9 hS.fi Mg dc) (hk:=?_);rintro _ _ L2 rfl;have MU:=L2.2;refine I ?_;exact fs ⟨MU,rfl⟩;refine sf ?_;intro _ _ M0 _;have⟨D,E,G⟩:=aP M0.2 D E G;refine clb jE (hc:=ku Z Z (hy.fi dc).2 (Nat.lt_of_le_of_lt (Nat.div_le_self _ _) hS.fi)) (hk:=?_);rintro _ _ MA rfl;have⟨D,E,G⟩:=aP MA.2 D E G;have N6:=tW hl;refine I ?_;refine cl rf (lZ hp) ?_;rintro _ Af M5 rfl;have⟨D,E,G⟩:=aP M5.2 D E G;refine al bl (λ_ M3 E1=>?_);have⟨D,E,G⟩:=aP M3.2 D E G;refine ab (aU (b:=Af.heap.size) (o:=0) (vs:=[S (nS (((10^pl),(10^pl)).1)),S (nS (((10^pl),(10^pl)).2))]) bf Z Z Vb E1 (qa3 Z) (λ_ M4 A1=>?_));have⟨D,E,G,_⟩:=fq M4 D E G;refine I ?_;refine cl rf (lZ hp) ?_;rintro _ Aq Ix rfl;have⟨D,E,A1,G⟩:=br Ix.2 D E A1 G;refine al bl (λ_ Jx MH=>?_);have⟨D,E,A1,G⟩:=br Jx.2 D E A1 G
 refine ab (aU (b:=Aq.heap.size) (o:=0) (vs:=[S (nS (((10^pl),(10^pl)).1)),S (nS (((10^pl),(10^pl)).2))]) bf Z Z Vb MH (qa3 Z) (λM8 K2 Mz=>?_));have⟨D,E,A1,G,_⟩:=fL K2 D E A1 G;refine I ?_;refine cM [(8,10),(27,45)] (λAp e W=>∃f:Nat,∃n:Nat,∃t:N2,∃s:N2,(f=Ap)/\(e 8=.int .i64 n)/\(Fq (10^pl) y f n t s=some u)/\(n+f=200)/\(1<=n)/\(M8.heap.size<=W.heap.size)/\(a8 w W)/\(ae W Ad.heap.size 94 #[S [],S []])/\(ae W w.heap.size 94 #[S (nS y.1),S (nS y.2)])/\(ae W Af.heap.size 94 #[S (nS s.1),S (nS s.2)])/\(ae W Aq.heap.size 94 #[S (nS t.1),S (nS t.2)])) (199) ⟨199,1,((10^pl),(10^pl)),((10^pl),(10^pl)),rfl,rfl,hu,U,U,(qa0 _),G,D,E,A1,Mz⟩ ?_;rintro _ _ _ ⟨f,n,t,s,rfl,N7,Ao,NB,NF,N4,O,D,E,kd,Am⟩;have N3:=bz O;obtain⟨g,rfl,B2,Av,hT,hF⟩:=HT Ao;have N9:n<200:=J
 have Ax:Bk 190 (a7 (10^pl) t y):=jW hS.pos B2 hy;have Ar:Bk 190 (ba (a7 (10^pl) t y) 1 n):=wR Ax;refine I ?_;refine cl oE (hO hp B2 hy) ?_;rintro _ _ M6 rfl;have⟨D,E,kd,Am,O⟩:=dL M6.2 D E kd Am O;refine I ?_;refine clb kI (hc:=jo (n:=1) (d:=(n)) Ax U U U) (hk:=?_);rintro _ _ Kp rfl;have⟨D,E,kd,Am,O⟩:=dL Kp.2 D E kd Am O;refine ab (aU (b:=Aq.heap.size) (o:=0) (vs:=[S (nS ((ba (a7 (10^pl) t y) 1 n).1)),S (nS ((ba (a7 (10^pl) t y) 1 n).2))]) bf Z Z Vb Am (qa3 Z) (λ_ MC H=>?_));have⟨D,E,kd,O,_⟩:=fL MC D E kd O;refine I ?_;refine clb rh (hc:=kv (kG ((Av).mono dc) Ar).1 (kG ((Av).mono dc) Ar).2) (hk:=?_);rintro _ _ MZ rfl;have⟨D,E,kd,H,O⟩:=dL MZ.2 D E kd H O;refine ab (aU (b:=Af.heap.size) (o:=0) (vs:=[S (nS ((dA s (ba (a7 (10^pl) t y) 1 n)).1)),S (nS ((dA s (ba (a7 (10^pl) t y) 1 n)).2))]) bf Z Z Vb kd (qa3 Z) (λ_ MM A2=>?_));have⟨D,E,H,O,_⟩:=fL MM D E H O;refine I ?_;refine clb ux (hc:=kY (Ar.fi dc).2) (hk:=?_);rintro _ _ MO rfl;have⟨D,E,A2,H,O⟩:=dL MO.2 D E A2 H O;refine I ?_
 by_cases sc:aw ((((ba (a7 (10^pl) t y) 1 n).2):Nat):Int) ((2:Nat):Int)<=0;have EW:=hT (vj sc);subst EW;refine I ?_;refine clb gx (hc:=e9 Z Z (kG (MY.mono dc) (M9.mono dc)).2) (hk:=?_);rintro _ _ MX rfl;have⟨D,E,A2,H,O⟩:=dL MX.2 D E A2 H O;refine I ?_;refine SO A2 (λD2 ML MR=>?_);have⟨D,E,H,O,_⟩:=fL ML D E H O;refine I ?_;refine cM [(11,11),(52,60)] (λAp e W=>∃i:Nat,∃a:N2,(h-i=Ap)/\(e 11=.int .i64 i)/\(i<=h)/\(u0 (10^pl) (h-i) a=some r)/\(D2.heap.size<=W.heap.size)/\(a8 w W)/\(ae W Ad.heap.size 94 #[S [],S []])/\(ae W w.heap.size 94 #[S (nS y.1),S (nS y.2)])/\(ae W Aq.heap.size 94 #[S (nS ((ba (a7 (10^pl) t y) 1 n).1)),S (nS ((ba (a7 (10^pl) t y) 1 n).2))])/\(ae W Af.heap.size 94 #[S (nS a.1),S (nS a.2)])) (h-0) ⟨0,((dA s (ba (a7 (10^pl) t y) 1 n)).1,((dA s (ba (a7 (10^pl) t y) 1 n)).2)+((ba (a7 (10^pl) t y) 1 n).2)),rfl,rfl,(qa7 _),hq,(qa0 _),O,D,E,H,MR⟩ ?_;rintro _ _ _ ⟨i,a,rfl,NC,hi,Ay,NE,kk,D,E,H,Ab⟩;have N8:=bz kk;by_cases hl2:i<h;obtain⟨B1,ME⟩:=Jq Ay hl2;refine I ?_;refine cl oE (hO hp B1 B1) ?_;rintro _ _ MW rfl;have⟨D,E,H,Ab,kk⟩:=dL MW.2 D E H Ab kk
 refine ab (aU (b:=Af.heap.size) (o:=0) (vs:=[S (nS ((a7 (10^pl) a a).1)),S (nS ((a7 (10^pl) a a).2))]) bf Z Z Vb Ab (qa3 Z) (λ_ ny E9=>?_));have⟨D,E,H,kk,_⟩:=fL ny D E H kk;refine I ?_;refine ab (bb (a:=(i:Int)) (b:=1) (c:=((i+1:Nat):Int)) Z Z JT U ?_);refine I ?_;exact bQ ⟨i+1,a7 (10^pl) a a,rfl,rfl,U,ME,U,kk,D,E,H,E9⟩;obtain⟨rfl,_⟩:=Jr Ay hl2;refine I ?_;refine ab (aU (b:=Ad.heap.size) (o:=0) (vs:=[S (nS a.1),S (nS a.2)]) bf Z Z Vb D (qa3 Z) (λ_ od D1=>?_));have⟨E,H,Ab,kk,_⟩:=fL od E H Ab kk;refine I ?_;refine aK (v:=.agg #[S (nS a.1),S (nS a.2)]) (cn  rfl ?_) kk Z;refine ah (t:=4) (cs:=[S (nS a.1),S (nS a.2)]) (b:=Ad.heap.size) (o:=0) eX Z bf ?_ ?_;exact Z;exact aa0 D1 (i:=0) Z;have MF:=hF (vk sc);refine I ?_;refine ab (bb (a:=(n:Int)) (b:=1) (c:=((n+1:Nat):Int)) Z Z JT U ?_);refine I ?_;exact bQ ⟨g,n+1,ba (a7 (10^pl) t y) 1 n,dA s (ba (a7 (10^pl) t y) 1 n),rfl,rfl,MF,U,U,U,O,D,E,A2,H⟩
def Bz {a b:N2}(ha:Bk 95 a)(hb:Bk 95 b):Bk 190 (a.1,a.2+b.2):=by
 obtain⟨h1,_⟩:=ha;obtain⟨_,_⟩:=hb
 have:(10:Nat)^95+10^95<=10^190:=by decide
 exact⟨dF h1 dc,by simp only;omega⟩
def wS {a b:N2}(ha:Bk 95 a)(hb:Bk 95 b):Fi (a.2+(b.2+2))/\Fi (b.2+2):=by
 obtain⟨_,_⟩:=ha;obtain⟨_,_⟩:=hb
 have:(10:Nat)^95+(10^95+2)<=10^200:=by decide
 unfold Fi
 exact⟨by omega,by omega⟩
def Mw {a:N2}(hd:0<d)(ha:Bk 95 a)(hn:n<10^95):Bk 190 (ba a n d):=pq (k:=95) (m:=95) hd ha hn
def HW {S:Nat}{p:N2}(h:Kf S=some p):Bk 190 p:=by
 obtain⟨u,_,h1,D,rfl⟩:=wO h
 have O:=Bz h1 D
 obtain⟨⟨E,G⟩,kk,H⟩:=And.intro h1 D
 have:(10:Nat)^95+10^95<10^96:=by decide
 exact(pq (k:=96) (m:=1) dc (⟨dF E dc,by simp only;omega⟩:Bk 96 (u.1.1,u.1.2+u.2.2)) dc).mono dc
def BA (h:aw (a:Int) (b:Int)<=0):a<=b:=by rw[bw]at h;omega
def BB (h:¬aw (a:Int) (b:Int)<=0):¬a<=b:=λD=>by rw[bw]at h;omega
def DY {p:N2}(hp:pl<=90)(hpi:Kf (10^pl)=some p):
 CL 177 #[.int .i64 pl] w (aH w λv w'=>v=.agg #[S (nS p.1),S (nS p.2)]):=by
 have hS:=uh hp;obtain⟨u,hu,Ap,Aq,rfl⟩:=wO hpi;have hS1:Bk 95 (10^pl,10^pl):=⟨hS.lt,hS.lt⟩;have Jx:=Bz Ap Aq;refine aC func177 Z (I ?_);refine al bl (λ_ Ax D=>?_);have H:=Ax.2;refine I ?_;refine cl rf (lZ hp) ?_;rintro _ Af Ix rfl;have⟨D,H⟩:=bn Ix.2 D H;refine al bl (λ_ wr D2=>?_);have⟨D,H⟩:=bn wr.2 D H;refine ab (aU (b:=Af.heap.size) (o:=0) (vs:=[S (nS (((10^pl),(10^pl)).1)),S (nS (((10^pl),(10^pl)).2))]) bf Z Z Vb D2 (qa3 Z) (λ_ E7 kk=>?_));have⟨D,H,_⟩:=dE E7 D H;refine I ?_;refine cl rf (lZ hp) ?_;rintro _ Ad E4 rfl;have⟨D,kk,H⟩:=aP E4.2 D kk H;refine al bl (λ_ M0 Ay=>?_);have⟨D,kk,H⟩:=aP M0.2 D kk H;refine ab (aU (b:=Ad.heap.size) (o:=0) (vs:=[S (nS (((10^pl),(10^pl)).1)),S (nS (((10^pl),(10^pl)).2))]) bf Z Z Vb Ay (qa3 Z) (λAr Kp B1=>?_));have⟨D,kk,H,_⟩:=fq Kp D kk H;refine I ?_
 refine cM [(5,7),(12,30)] (λD1 e W=>∃f:Nat,∃n:Nat,∃t:N2,∃s:N2,(f=D1)/\(e 5=.int .i64 n)/\(tU f n t s=some u)/\(n+f=400)/\(1<=n)/\(Ar.heap.size<=W.heap.size)/\(a8 w W)/\(ae W w.heap.size 94 #[S [],S []])/\(ae W Af.heap.size 94 #[S (nS s.1),S (nS s.2)])/\(ae W Ad.heap.size 94 #[S (nS t.1),S (nS t.2)])) (399) ⟨399,1,((10^pl),(10^pl)),((10^pl),(10^pl)),rfl,rfl,hu,U,U,(qa0 _),H,D,kk,B1⟩ ?_;rintro _ _ _ ⟨f,n,t,s,rfl,M4,B2,M5,M8,M7,E,D,O,Ab⟩;have M3:=bz E;obtain⟨g,rfl,Am,Ao,hT,hF⟩:=DV B2;have M6:n<400:=J
 have A2:Bk 190 (ba t n (2*n+1)):=Mw U Am (qb0 (show n<400 by omega) dc);refine I ?_;refine ab (jp (a:=2) (b:=(n:Int)) (c:=((2*n:Nat):Int)) Z Z JT U ?_);refine ab (bb (a:=((2*n:Nat):Int)) (b:=1) (c:=((2*n+1:Nat):Int)) Z Z JT U ?_);refine clb kI (hc:=jo (n:=(n)) (d:=(2*n+1)) ((Am).mono dc) U U U) (hk:=?_);rintro _ _ As rfl;have⟨D,O,Ab,E⟩:=br As.2 D O Ab E;refine ab (aU (b:=Ad.heap.size) (o:=0) (vs:=[S (nS ((ba t n (2*n+1)).1)),S (nS ((ba t n (2*n+1)).2))]) bf Z Z Vb Ab (qa3 Z) (λ_ M2 G=>?_));have⟨D,O,E,_⟩:=fq M2 D O E;refine I ?_;refine clb rh (hc:=kv (kG ((Ao).mono dc) A2).1 (kG ((Ao).mono dc) A2).2) (hk:=?_);rintro _ _ E9 rfl;have⟨D,O,G,E⟩:=br E9.2 D O G E;refine ab (aU (b:=Af.heap.size) (o:=0) (vs:=[S (nS ((dA s (ba t n (2*n+1))).1)),S (nS ((dA s (ba t n (2*n+1))).2))]) bf Z Z Vb O (qa3 Z) (λ_ K2 kd=>?_));have⟨D,G,E,_⟩:=fq K2 D G E;refine I ?_;refine clb ux (hc:=kY (A2.fi dc).2) (hk:=?_);rintro _ _ M1 rfl;have⟨D,kd,G,E⟩:=br M1.2 D kd G E;refine I ?_
 by_cases ns:aw ((((ba t n (2*n+1)).2):Nat):Int) ((2:Nat):Int)<=0;have E1:=hT (vj ns);subst E1;refine I ?_;refine clb gx (hc:=e9 Z Z (kG (Ap.mono dc) (Aq.mono dc)).2) (hk:=?_);rintro _ _ L2 rfl;have⟨D,kd,G,E⟩:=br L2.2 D kd G E;refine I ?_;refine SO kd (λ_ ny A1=>?_);have⟨D,G,E,_⟩:=fq ny D G E;refine I ?_;refine clb kI (hc:=jo (n:=2) (d:=1) Jx U U U) (hk:=?_);rintro _ _ od rfl;have⟨D,A1,G,E⟩:=br od.2 D A1 G E;refine ab (aU (b:=w.heap.size) (o:=0) (vs:=[S (nS ((ba ((dA s (ba t n (2*n+1))).1,((dA s (ba t n (2*n+1))).2)+((ba t n (2*n+1)).2)) 2 1).1)),S (nS ((ba ((dA s (ba t n (2*n+1))).1,((dA s (ba t n (2*n+1))).2)+((ba t n (2*n+1)).2)) 2 1).2))]) bf Z Z Vb D (qa3 Z) (λ_ EW Aw=>?_));have⟨A1,G,E,_⟩:=fq EW A1 G E;refine I ?_;refine aK (v:=.agg #[S (nS ((ba ((dA s (ba t n (2*n+1))).1,((dA s (ba t n (2*n+1))).2)+((ba t n (2*n+1)).2)) 2 1).1)),S (nS ((ba ((dA s (ba t n (2*n+1))).1,((dA s (ba t n (2*n+1))).2)+((ba t n (2*n+1)).2)) 2 1).2))]) (cn  rfl ?_) E Z
 refine ah (t:=2) (cs:=[S (nS ((ba ((dA s (ba t n (2*n+1))).1,((dA s (ba t n (2*n+1))).2)+((ba t n (2*n+1)).2)) 2 1).1)),S (nS ((ba ((dA s (ba t n (2*n+1))).1,((dA s (ba t n (2*n+1))).2)+((ba t n (2*n+1)).2)) 2 1).2))]) (b:=w.heap.size) (o:=0) eX Z bf ?_ ?_;exact Z;exact aa0 Aw (i:=0) Z;have Av:=hF (vk ns);refine I ?_;refine ab (bb (a:=(n:Int)) (b:=1) (c:=((n+1:Nat):Int)) Z Z JT U ?_);refine I ?_;exact bQ ⟨g,n+1,ba t n (2*n+1),dA s (ba t n (2*n+1)),rfl,rfl,Av,U,U,U,E,D,kd,G⟩
def qP {c r:N2}(hp:pl<=90)(hn:n<10^95)(hd:d<10^95)(hd0:0<d)(hc:pU (10^pl) c)(hh:DW (10^pl) c n d=some r):
 CL 132 #[.agg #[S (nS n),S (nS d)],.int .i64 pl] w (aH w λv w'=>v=.agg #[S (nS r.1),S (nS r.2)]):=by
 have hS:=uh hp;obtain⟨hv,hq,p,e,MJ,MS,MD,M4,hpsum,M2,M7,MW,MK,rfl⟩:=Bt hh;obtain⟨_,Ao,Am,E1,NE,NI,MQ,My,rfl⟩:=hc;have NJ:=bm NE;have MX:Fi (Am+1):=((bm My).fi dc).2;have N1:=HW E1;refine aC func132 Z (I ?_);refine bx (λAs MZ D=>?_);have A1:=MZ.2;refine al bl (λ_ MH E=>?_);have⟨D,A1⟩:=bn MH.2 D A1;refine I ?_;refine clb re (hc:=nT hp (bT hn dc) (bT hd dc) hd0 (bC hn hS.lt dc)) (hk:=?_);rintro _ E7 NH rfl;have⟨D,E,A1⟩:=aP NH.2 D E A1;refine al bl (λ_ MO Mz=>?_);have⟨D,E,A1⟩:=aP MO.2 D E A1;refine ab (aU (b:=E7.heap.size) (o:=0) (vs:=[S (nS ((aM (10^pl) n d).1)),S (nS ((aM (10^pl) n d).2))]) bf Z Z Vb Mz (qa3 Z) (λ_ MV G=>?_));have⟨D,E,A1,_⟩:=fq MV D E A1;refine I ?_;refine cl oE (hO hp hv hv) ?_;rintro _ MC MM rfl;have⟨D,E,G,A1⟩:=br MM.2 D E G A1;refine al bl (λ_ N6 N9=>?_);have⟨D,E,G,A1⟩:=br N6.2 D E G A1
 refine ab (aU (b:=MC.heap.size) (o:=0) (vs:=[S (nS ((a7 (10^pl) (aM (10^pl) n d) (aM (10^pl) n d)).1)),S (nS ((a7 (10^pl) (aM (10^pl) n d) (aM (10^pl) n d)).2))]) bf Z Z Vb N9 (qa3 Z) (λAv N4 H=>?_));have⟨D,E,G,A1,_⟩:=fL N4 D E G A1;refine I ?_;refine al bl (λ_ NK MR=>?_);have⟨D,E,G,H,A1⟩:=dL NK.2 D E G H A1;refine ab (aU (b:=Av.heap.size) (o:=0) (vs:=[S (nS ((aM (10^pl) n d).1)),S (nS ((aM (10^pl) n d).2))]) bf Z Z Vb MR (qa3 Z) (λAw MI Aq=>?_));have⟨D,E,G,H,A1,_⟩:=ka MI D E G H A1;refine I ?_;refine al bl (λ_ ML ND=>?_);have⟨D,E,G,H,Aq,A1⟩:=lk ML.2 D E G H Aq A1;refine ab (aU (b:=Aw.heap.size) (o:=0) (vs:=[S (nS ((aM (10^pl) n d).1)),S (nS ((aM (10^pl) n d).2))]) bf Z Z Vb ND (qa3 Z) (λMN MU N0=>?_));have⟨D,E,G,H,Aq,A1,_⟩:=xV MU D E G H Aq A1;refine I ?_
 refine cM [(9,13),(24,53)] (λN7 e W=>∃f:Nat,∃m:Nat,∃t:N2,∃s:N2,(f=N7)/\(e 9=.int .i64 m)/\(Ft (10^pl) (a7 (10^pl) (aM (10^pl) n d) (aM (10^pl) n d)) f m t s=some p)/\(m+2*f=801)/\(1<=m)/\(MN.heap.size<=W.heap.size)/\(a8 w W)/\(ae W w.heap.size 23 #[S (nS n),S (nS d)])/\(ae W As.heap.size 94 #[S [],S []])/\(ae W E7.heap.size 94 #[S (nS ((aM (10^pl) n d).1)),S (nS ((aM (10^pl) n d).2))])/\(ae W MC.heap.size 94 #[S (nS ((a7 (10^pl) (aM (10^pl) n d) (aM (10^pl) n d)).1)),S (nS ((a7 (10^pl) (aM (10^pl) n d) (aM (10^pl) n d)).2))])/\(ae W Aw.heap.size 94 #[S (nS s.1),S (nS s.2)])/\(ae W Av.heap.size 94 #[S (nS t.1),S (nS t.2)])) (399) ⟨399,3,aM (10^pl) n d,aM (10^pl) n d,rfl,rfl,MJ,U,U,(qa0 _),A1,D,E,G,H,N0,Aq⟩ ?_;rintro _ _ _ ⟨f,m,t,s,rfl,NM,N5,NO,NQ,NP,O,D,E,G,H,Af,Ab⟩;have NN:=bz O;obtain⟨g,rfl,Ax,B2,hT,hF⟩:=HU N5;have NL:m<800:=J
 have Ix:Bk 190 (a7 (10^pl) t (a7 (10^pl) (aM (10^pl) n d) (aM (10^pl) n d))):=jW hS.pos Ax hq;have Ap:Bk 190 (ba (a7 (10^pl) t (a7 (10^pl) (aM (10^pl) n d) (aM (10^pl) n d))) 1 m):=wR Ix;refine I ?_;refine cl oE (hO hp Ax hq) ?_;rintro _ _ Jx rfl;have⟨D,E,G,H,Af⟩:=dC Jx.2 D E G H Af;have⟨Ab,O⟩:=bn Jx.2 Ab O;refine I ?_;refine clb kI (hc:=jo (n:=1) (d:=(m)) Ix U U U) (hk:=?_);rintro _ NG L2 rfl;have⟨D,E,G,H,Af⟩:=dC L2.2 D E G H Af;have⟨Ab,O⟩:=bn L2.2 Ab O;refine al bl (λ_ Kp N8=>?_);have⟨D,E,G,H,Af⟩:=dC Kp.2 D E G H Af;have⟨Ab,O⟩:=bn Kp.2 Ab O;refine ab (aU (b:=NG.heap.size) (o:=0) (vs:=[S (nS ((ba (a7 (10^pl) t (a7 (10^pl) (aM (10^pl) n d) (aM (10^pl) n d))) 1 m).1)),S (nS ((ba (a7 (10^pl) t (a7 (10^pl) (aM (10^pl) n d) (aM (10^pl) n d))) 1 m).2))]) bf Z Z Vb N8 (qa3 Z) (λ_ MF kk=>?_));have⟨D,E,G,H,Af⟩:=jx MF D E G H Af;have⟨Ab,O,_⟩:=dE MF Ab O;refine I ?_;refine clb rh (hc:=kv (kG ((B2).mono dc) Ap).1 (kG ((B2).mono dc) Ap).2) (hk:=?_);rintro _ _ M6 rfl;have⟨D,E,G,H,Af⟩:=dC M6.2 D E G H Af;have⟨Ab,kk,O⟩:=aP M6.2 Ab kk O
 refine ab (aU (b:=Aw.heap.size) (o:=0) (vs:=[S (nS ((dA s (ba (a7 (10^pl) t (a7 (10^pl) (aM (10^pl) n d) (aM (10^pl) n d))) 1 m)).1)),S (nS ((dA s (ba (a7 (10^pl) t (a7 (10^pl) (aM (10^pl) n d) (aM (10^pl) n d))) 1 m)).2))]) bf Z Z Vb Af (qa3 Z) (λ_ ME Ad=>?_));have⟨D,E,G,H,Ab⟩:=jx ME D E G H Ab;have⟨kk,O,_⟩:=dE ME kk O;refine I ?_;refine bB 5 ?_;refine sf ?_;refine ay (V:=S (nS (((ba (a7 (10^pl) t (a7 (10^pl) (aM (10^pl) n d) (aM (10^pl) n d))) 1 m).2)*2))) (λ_ _ _ _=>?_) ?_;refine clb fk (hc:=dP Z jl (Ap.fi dc).2 LN (bC Ap.2 (show 2<10^1 by decide) dc)) (hk:=?_);rintro _ _ ny rfl;have NB:=ny.2;refine I ?_;exact fs ⟨NB,rfl⟩;refine sf ?_;intro _ _ od _;have⟨D,E,G,H,Ad⟩:=dC od.2 D E G H Ad;have⟨Ab,kk,O⟩:=aP od.2 Ab kk O;refine clb jE (hc:=ku Z Z (bC Ap.2 (show 2<10^1 by decide) dc) (Ax.fi dc).2) (hk:=?_);rintro _ _ K2 rfl;have⟨D,E,G,H,Ad⟩:=dC K2.2 D E G H Ad;have⟨Ab,kk,O⟩:=aP K2.2 Ab kk O;refine I ?_
 refine ab (aU (b:=Av.heap.size) (o:=0) (vs:=[S (nS ((ba (a7 (10^pl) t (a7 (10^pl) (aM (10^pl) n d) (aM (10^pl) n d))) 1 m).1)),S (nS ((ba (a7 (10^pl) t (a7 (10^pl) (aM (10^pl) n d) (aM (10^pl) n d))) 1 m).2))]) bf Z Z Vb Ab (qa3 Z) (λ_ EW kd=>?_));have⟨D,E,G,H,Ad⟩:=jx EW D E G H Ad;have⟨kk,O,_⟩:=dE EW kk O;refine I ?_;refine clb ux (hc:=kY (Ap.fi dc).2) (hk:=?_);rintro _ _ E9 rfl;have⟨D,E,G,H,Ad⟩:=dC E9.2 D E G H Ad;have⟨kd,kk,O⟩:=aP E9.2 kd kk O;refine I ?_;by_cases ao4:aw ((((ba (a7 (10^pl) t (a7 (10^pl) (aM (10^pl) n d) (aM (10^pl) n d))) 1 m).2):Nat):Int) ((2:Nat):Int)<=0;refine I ?_;by_cases apf:(aw ((((ba (a7 (10^pl) t (a7 (10^pl) (aM (10^pl) n d) (aM (10^pl) n d))) 1 m).2)*2:Nat):Int) ((t.2:Nat):Int))<=0;have MP:=hT ⟨vj ao4,BA apf⟩;subst MP;refine I ?_;refine bB 5 ?_;refine sf ?_;refine ay (V:=S (nS (((ba (a7 (10^pl) t (a7 (10^pl) (aM (10^pl) n d) (aM (10^pl) n d))) 1 m).2)+2))) (λ_ _ _ _=>?_) ?_;refine cl gx (e9 Z jl (wS MD M4).2) ?_;rintro _ _ MY rfl;have N3:=MY.2;refine I ?_;exact fs ⟨N3,rfl⟩;refine sf ?_;intro _ _ M9 _;have⟨D,E,G,H,Ad⟩:=dC M9.2 D E G H Ad;have⟨kd,kk,O⟩:=aP M9.2 kd kk O
 refine cl gx (e9 Z Z (wS MD M4).1) ?_;rintro _ _ wr rfl;have⟨D,E,G,H,Ad⟩:=dC wr.2 D E G H Ad;have⟨kd,kk,O⟩:=aP wr.2 kd kk O;refine I ?_;refine SO Ad (λ_ D1 A2=>?_);have⟨D,E,G,H,kd⟩:=jx D1 D E G H kd;have⟨kk,O,_⟩:=dE D1 kk O;refine I ?_;refine clb kI (hc:=jo (n:=1) (d:=2) ((hq).mono dc) U U U) (hk:=?_);rintro _ _ M5 rfl;have⟨D,E,G,H,A2⟩:=dC M5.2 D E G H A2;have⟨kd,kk,O⟩:=aP M5.2 kd kk O;refine I ?_;refine cl Gc (By hp MS) ?_;rintro _ _ D2 rfl;have⟨D,E,G,H,A2⟩:=dC D2.2 D E G H A2;have⟨kd,kk,O⟩:=aP D2.2 kd kk O;refine I ?_;refine cl Gh (DY hp E1) ?_;rintro _ _ M1 rfl;have⟨D,E,G,H,A2⟩:=dC M1.2 D E G H A2;have⟨kd,kk,O⟩:=aP M1.2 kd kk O;refine clb kI (hc:=jo (n:=2) (d:=1) N1 U U U) (hk:=?_);rintro _ _ E4 rfl;have⟨D,E,G,H,A2⟩:=dC E4.2 D E G H A2;have⟨kd,kk,O⟩:=aP E4.2 kd kk O;refine I ?_;refine cl Gg (xQ hp NJ NI MQ MX) ?_;rintro _ _ M3 rfl;have⟨D,E,G,H,A2⟩:=dC M3.2 D E G H A2;have⟨kd,kk,O⟩:=aP M3.2 kd kk O;refine I ?_;refine cl oE (hO hp M2 M7) ?_;rintro _ NF MG rfl;have⟨D,E,G,H,A2⟩:=dC MG.2 D E G H A2;have⟨kd,kk,O⟩:=aP MG.2 kd kk O;refine al bl (λ_ MB NC=>?_);have⟨D,E,G,H,A2⟩:=dC MB.2 D E G H A2;have⟨kd,kk,O⟩:=aP MB.2 kd kk O
 refine ab (aU (b:=NF.heap.size) (o:=0) (vs:=[S (nS ((a7 (10^pl) e (Ao,Am+1)).1)),S (nS ((a7 (10^pl) e (Ao,Am+1)).2))]) bf Z Z Vb NC (qa3 Z) (λ_ M0 Ar=>?_));have⟨D,E,G,H,A2⟩:=jx M0 D E G H A2;have⟨kd,kk,O,_⟩:=fq M0 kd kk O;refine I ?_;refine cl Gd (xM hp hpsum (jW hS.pos M2 M7) MW MK) ?_;rintro _ _ M8 rfl;have⟨D,E,G,H,A2⟩:=dC M8.2 D E G H A2;have⟨kd,kk,Ar,O⟩:=br M8.2 kd kk Ar O;refine ab (aU (b:=As.heap.size) (o:=0) (vs:=[S (nS ((iD (10^pl) ((dA s (ba (a7 (10^pl) t (a7 (10^pl) (aM (10^pl) n d) (aM (10^pl) n d))) 1 m)).1,((dA s (ba (a7 (10^pl) t (a7 (10^pl) (aM (10^pl) n d) (aM (10^pl) n d))) 1 m)).2)+(((ba (a7 (10^pl) t (a7 (10^pl) (aM (10^pl) n d) (aM (10^pl) n d))) 1 m).2)+2)) (a7 (10^pl) e (Ao,Am+1))).1)),S (nS ((iD (10^pl) ((dA s (ba (a7 (10^pl) t (a7 (10^pl) (aM (10^pl) n d) (aM (10^pl) n d))) 1 m)).1,((dA s (ba (a7 (10^pl) t (a7 (10^pl) (aM (10^pl) n d) (aM (10^pl) n d))) 1 m)).2)+(((ba (a7 (10^pl) t (a7 (10^pl) (aM (10^pl) n d) (aM (10^pl) n d))) 1 m).2)+2)) (a7 (10^pl) e (Ao,Am+1))).2))]) bf Z Z Vb E (qa3 Z) (λ_ MA NA=>?_))
 have⟨D,G,H,A2,kd⟩:=jx MA D G H A2 kd;have⟨kk,Ar,O,_⟩:=fq MA kk Ar O;refine I ?_;refine aK (v:=.agg #[S (nS ((iD (10^pl) ((dA s (ba (a7 (10^pl) t (a7 (10^pl) (aM (10^pl) n d) (aM (10^pl) n d))) 1 m)).1,((dA s (ba (a7 (10^pl) t (a7 (10^pl) (aM (10^pl) n d) (aM (10^pl) n d))) 1 m)).2)+(((ba (a7 (10^pl) t (a7 (10^pl) (aM (10^pl) n d) (aM (10^pl) n d))) 1 m).2)+2)) (a7 (10^pl) e (Ao,Am+1))).1)),S (nS ((iD (10^pl) ((dA s (ba (a7 (10^pl) t (a7 (10^pl) (aM (10^pl) n d) (aM (10^pl) n d))) 1 m)).1,((dA s (ba (a7 (10^pl) t (a7 (10^pl) (aM (10^pl) n d) (aM (10^pl) n d))) 1 m)).2)+(((ba (a7 (10^pl) t (a7 (10^pl) (aM (10^pl) n d) (aM (10^pl) n d))) 1 m).2)+2)) (a7 (10^pl) e (Ao,Am+1))).2))]) (cn  rfl ?_) O Z
 refine ah (t:=4) (cs:=[S (nS ((iD (10^pl) ((dA s (ba (a7 (10^pl) t (a7 (10^pl) (aM (10^pl) n d) (aM (10^pl) n d))) 1 m)).1,((dA s (ba (a7 (10^pl) t (a7 (10^pl) (aM (10^pl) n d) (aM (10^pl) n d))) 1 m)).2)+(((ba (a7 (10^pl) t (a7 (10^pl) (aM (10^pl) n d) (aM (10^pl) n d))) 1 m).2)+2)) (a7 (10^pl) e (Ao,Am+1))).1)),S (nS ((iD (10^pl) ((dA s (ba (a7 (10^pl) t (a7 (10^pl) (aM (10^pl) n d) (aM (10^pl) n d))) 1 m)).1,((dA s (ba (a7 (10^pl) t (a7 (10^pl) (aM (10^pl) n d) (aM (10^pl) n d))) 1 m)).2)+(((ba (a7 (10^pl) t (a7 (10^pl) (aM (10^pl) n d) (aM (10^pl) n d))) 1 m).2)+2)) (a7 (10^pl) e (Ao,Am+1))).2))]) (b:=As.heap.size) (o:=0) eX Z bf ?_ ?_;exact Z;exact aa0 NA (i:=0) Z;have Ay:=hF (λB1=>(BB apf) B1.2);refine I ?_;refine ab (bb (a:=(m:Int)) (b:=2) (c:=((m+2:Nat):Int)) Z Z JT U ?_);refine I ?_;exact bQ ⟨g,m+2,ba (a7 (10^pl) t (a7 (10^pl) (aM (10^pl) n d) (aM (10^pl) n d))) 1 m,dA s (ba (a7 (10^pl) t (a7 (10^pl) (aM (10^pl) n d) (aM (10^pl) n d))) 1 m),rfl,rfl,Ay,U,U,U,O,D,E,G,H,Ad,kd⟩;have Ay:=hF (λB1=>(vk ao4) B1.1);refine I ?_;refine ab (bb (a:=(m:Int)) (b:=2) (c:=((m+2:Nat):Int)) Z Z JT U ?_);refine I ?_
 exact bQ ⟨g,m+2,ba (a7 (10^pl) t (a7 (10^pl) (aM (10^pl) n d) (aM (10^pl) n d))) 1 m,dA s (ba (a7 (10^pl) t (a7 (10^pl) (aM (10^pl) n d) (aM (10^pl) n d))) 1 m),rfl,rfl,Ay,U,U,U,O,D,E,G,H,Ad,kd⟩
def H9 (S:Nat)(c:N2)(N:Int)(d:Nat):Option (Int×Int):=(DW S c N.natAbs d).map λn=>if N<0 then l9 (aM S 1 2) n else zP (dA (aM S 1 2) n)
def pG (F:Nat->Option (Int×Int))(a b:Nat):Nat->Nat->Option Bool
 |0,_=>none
 |f+1,m=>(F m).bind λr=>if r.2<((aM (10^m) a b).1:Int)then some true else if((aM (10^m) a b).2:Int)<r.1 then some false else pG F a b f (m+35)
def BC {F:Nat->Option (Int×Int)}{m:Nat}{u:Bool}(h:pG F a b f m=some u):∃g r,f=g+1/\F m=some r/\
 (r.2<((aM (10^m) a b).1:Int)->u=true)/\(¬r.2<((aM (10^m) a b).1:Int)->((aM (10^m) a b).2:Int)<r.1->u=false)/\(¬r.2<((aM (10^m) a b).1:Int)->¬((aM (10^m) a b).2:Int)<r.1->pG F a b g (m+35)=some u):=by
 cases f with
 |zero=>cases h
 | succ g=>
   unfold pG at h
   cases hr:F m with
   |none=>rw[hr]at h;cases h
   | some r=>
     rw[hr,Option.bind_some]at h
     refine⟨g,r,rfl,rfl,λh1=>?_,λh1 D=>?_,λh1 D=>?_⟩
     · rw[if_pos h1]at h;cases h;rfl
     · rw[if_neg h1,if_pos D]at h;cases h;rfl
     · rw[if_neg h1,if_neg D]at h;exact h
def sl (u:Int->Option Bool):Nat->Int->Int->Option (Int×Int)
 |0,_,_=>none
 |f+1,lo,hi=>if 1<hi-lo then(u ((lo+hi)/2)).bind λx=>if x=true then sl u f ((lo+hi)/2) hi else sl u f lo ((lo+hi)/2)else some (lo,hi)
def HX {u:Int->Option Bool}{lo hi:Int}{r:Int×Int}(h:sl u f lo hi=some r)(hl:1<hi-lo):∃g,f=g+1/\∃x,u ((lo+hi)/2)=some x/\(x=true->sl u g ((lo+hi)/2) hi=some r)/\(x=false->sl u g lo ((lo+hi)/2)=some r):=by
 cases f with
 |zero=>cases h
 | succ g=>
   unfold sl at h
   rw[if_pos hl]at h
   cases hx:u ((lo+hi)/2)with
   |none=>rw[hx]at h;cases h
   | some x=>
     rw[hx,Option.bind_some]at h
     exact⟨g,rfl,x,rfl,λe=>by rw[if_pos e]at h;exact h,λe=>by rw[if_neg (by rw[e];simp)]at h;exact h⟩
def HY {u:Int->Option Bool}{lo hi:Int}{r:Int×Int}(h:sl u f lo hi=some r)(hl:¬1<hi-lo):r=(lo,hi):=by
 cases f with
 |zero=>cases h
 |succ g=>unfold sl at h;rw[if_neg hl]at h;cases h;rfl
def BD {S:Nat}{c:N2}{r:Int×Int}(h:H9 S c N d=some r):∃n,DW S c N.natAbs d=some n/\r=if N<0 then l9 (aM S 1 2) n else zP (dA (aM S 1 2) n):=by
 unfold H9 at h
 cases hn:DW S c N.natAbs d with
 |none=>rw[hn]at h;cases h
 |some n=>rw[hn]at h;cases h;exact⟨n,rfl,rfl⟩
def BE {S:Nat}{c r:N2}(hS:Sc S)(h:DW S c n d=some r):Bk 190 r:=by
 obtain⟨_,_,p,e,_,_,_,_,h1,_,_,D,_,rfl⟩:=Bt h
 exact rK hS D h1
def r4 {S:Nat}(hS:Sc S):Bk 190 (aM S 1 2):=by
 have h:=hS.lt
 have h1:(10:Nat)^95<=10^190:=by decide
 refine⟨Nat.lt_of_le_of_lt (Nat.div_le_self _ _) U,Nat.lt_of_le_of_lt (iE dc) U⟩
def Kg {S:Nat}{c:N2}{r:Int×Int}(hS:Sc S)(h:H9 S c N d=some r):Fz r.1/\Fz r.2:=by
 obtain⟨n,D,rfl⟩:=BD h
 obtain⟨_,_⟩:=BE hS D
 obtain⟨_,_⟩:=r4 hS
 have h1:(10:Nat)^190+10^190<=10^200:=by decide
 split
 · unfold l9 Fz;exact⟨by simp only;omega,by simp only;omega⟩
 · unfold dA zP Fz;exact⟨by simp only;omega,by simp only;omega⟩
def BF {S:Nat}(hS:Sc S)(ha:a<10^100)(hb:0<b):Fz ((aM S a b).1:Int)/\Fz ((aM S a b).2:Int):=by
 have h1:a*S<10^(100+95):=dl ha hS.lt
 have G:10^(100+95)<10^200:=by decide
 have D:(aM S a b).1<=a*S:=Nat.div_le_self _ _
 have E:(aM S a b).2<=a*S:=iE hb
 unfold Fz
 exact⟨by omega,by omega⟩
def wT (ha:a<10^190)(hb:b<10^190):Fz ((a:Int)-(b:Int)):=by
 have:(10:Nat)^190+10^190<=10^200:=by decide
 unfold Fz;omega
def DZ (h:0<n):aa (-(n:Int))=45::nS n:=by
 unfold nS aa
 rw[if_pos U,if_neg U,Int.natAbs_neg,Int.natAbs_natCast]
def gU {a b:Int}(ha:Fz a)(hb:Fz b):CL 32 #[S (aa a),S (aa b)] w (aH w λv _=>v=.int .i64 (aw a b)):=
 gT (lM _ _ _ (cI ha) (cI hb)) (qb1 (Value.int .i64) (pp ha hb))
def HZ (l:List UInt8):((((45::l).getD 0 0).toNat:Nat):Int)=45:=rfl
def xR {c r:N2}(hp:pl<=90)(hn:n<10^95)(hd:d<10^95)(hd0:0<d)(hc:pU (10^pl) c)(hh:DW (10^pl) c n d=some r):
 CL 76 #[.int .i64 2,.agg #[S (nS n),S (nS d)],.int .i64 0,.int .i64 pl] w (aH w λv w'=>v=.tuple #[.agg #[S (aa (zP (dA (aM (10^pl) 1 2) r)).1),S (aa (zP (dA (aM (10^pl) 1 2) r)).2)],.bool false]):=by
 have hS:=uh hp;have W:=BE hS hh;have kd:=r4 hS;have D1:=nU (bT hn dc);refine aC func76 Z (I ?_);refine bx (λg od E=>?_);have D:=od.2;refine al bl (λ_ Ax G=>?_);have⟨E,D⟩:=bn Ax.2 E D;refine I ?_;refine ab (bF (l:=nS n) U9 Z ?_);refine I ?_;have Af:=cj (l:=nS n) (i:=0) U;refine ab (dZ (l:=nS n) (i:=0) (c:=((nS n).getD 0 0)) U9 Z Z Af ?_);have D2:=Fu (bT hn dc);refine I ?_;refine al bi (λ_ Ad As=>?_);have⟨E,G,D⟩:=aP Ad.2 E G D;refine SA As (λ_ B2 H=>?_);have⟨E,G,D,_⟩:=fq B2 E G D;refine I ?_;refine cl yF (qP hp hn hd hd0 hc hh) ?_;rintro _ Ar Ab rfl;have⟨E,G,H,D⟩:=br Ab.2 E G H D;refine al bl (λ_ B1 Av=>?_);have⟨E,G,H,D⟩:=br B1.2 E G H D;refine ab (aU (b:=Ar.heap.size) (o:=0) (vs:=[S (nS r.1),S (nS r.2)]) bf Z Z Vb Av (qa3 Z) (λ_ A1 O=>?_));have⟨E,G,H,D,_⟩:=fL A1 E G H D;refine I ?_;refine clb re (hc:=nT hp Jv LN dc Vr) (hk:=?_);rintro _ ny Am rfl;have⟨E,G,H,O,D⟩:=dL Am.2 E G H O D;refine al bl (λ_ Ay Aq=>?_);have⟨E,G,H,O,D⟩:=dL Ay.2 E G H O D
 refine ab (aU (b:=ny.heap.size) (o:=0) (vs:=[S (nS ((aM (10^pl) 1 2).1)),S (nS ((aM (10^pl) 1 2).2))]) bf Z Z Vb Aq (qa3 Z) (λ_ Aw kk=>?_));have⟨E,G,H,O,D,_⟩:=ka Aw E G H O D;refine I ?_;refine cl rh (kv (kG kd W).1 (kG kd W).2) ?_;rintro _ _ A2 rfl;have⟨E,G,H,O,kk,D⟩:=lk A2.2 E G H O kk D;refine ab (aU (b:=g.heap.size) (o:=0) (vs:=[S (nS ((dA (aM (10^pl) 1 2) r).1)),S (nS ((dA (aM (10^pl) 1 2) r).2))]) bf Z Z Vb G (qa3 Z) (λ_ Ap Ao=>?_));have⟨E,H,O,kk,D,_⟩:=ka Ap E H O kk D;refine I ?_;refine aK (v:=.tuple #[.agg #[S (nS ((dA (aM (10^pl) 1 2) r).1)),S (nS ((dA (aM (10^pl) 1 2) r).2))],.bool false]) (cJ (r1:=.cell 8 94) (r2:=.tmp 9) Z ?_ ?_) D Z;refine ah (t:=8) (cs:=[S (nS ((dA (aM (10^pl) 1 2) r).1)),S (nS ((dA (aM (10^pl) 1 2) r).2))]) (b:=g.heap.size) (o:=0) eX Z bf ?_ ?_;exact Z;exact aa0 Ao (i:=0) Z;exact aE (t:=9) Ve _
def xS {c r:N2}(hp:pl<=90)(hn:n<10^95)(hd:d<10^95)(hd0:0<d)(hc:pU (10^pl) c)(hh:DW (10^pl) c n d=some r):
 CL 76 #[.int .i64 2,.agg #[S (45::nS n),S (nS d)],.int .i64 0,.int .i64 pl] w (aH w λv w'=>v=.tuple #[.agg #[S (aa (l9 (aM (10^pl) 1 2) r).1),S (aa (l9 (aM (10^pl) 1 2) r).2)],.bool false]):=by
 have hS:=uh hp;have W:=BE hS hh;have kd:=r4 hS;have EW:=nU (bT hn dc);refine aC func76 Z (I ?_);refine bx (λg Av E=>?_);have D:=Av.2;refine al bl (λ_ B1 G=>?_);have⟨E,D⟩:=bn B1.2 E D;refine I ?_;refine ab (bF (l:=45::nS n) U9 Z ?_);refine ab (Eh (k:=.i64) (a:=(((45::nS n).length:Nat):Int)) (b:=0) (q:=true) Z Z (qa1 (by simp only[List.length_cons];omega)) ?_);refine I ?_;have E7:=cj (l:=45::nS n) (i:=0) (by simp only[List.length_cons];omega);refine ab (dZ (l:=45::nS n) (i:=0) (c:=((45::nS n).getD 0 0)) U9 Z Z E7 ?_);have Ix:=HZ (nS n);refine I ?_;refine al bi (λ_ Ay B2=>?_);have⟨E,G,D⟩:=aP Ay.2 E G D;refine SA B2 (λ_ Aq Ab=>?_);have⟨E,G,D,_⟩:=fq Aq E G D;refine I ?_;refine ab (eF (l:=45::nS n) (i:=1) (j:=(45::nS n).length) U9 Z (.inr ⟨_,qb1 some Z⟩) (.inl ⟨rfl,rfl⟩) Vk (Nat.le_refl _) ?_);rw[show((45::nS n).take (45::nS n).length).drop 1=nS n by rw[List.take_length];rfl];refine I ?_;refine SO Ab (λ_ wr H=>?_);have⟨E,G,D,_⟩:=fq wr E G D;refine I ?_;refine cl yF (qP hp hn hd hd0 hc hh) ?_;rintro _ As Aw rfl;have⟨E,G,H,D⟩:=br Aw.2 E G H D;refine al bl (λ_ D1 Ad=>?_);have⟨E,G,H,D⟩:=br D1.2 E G H D
 refine ab (aU (b:=As.heap.size) (o:=0) (vs:=[S (nS r.1),S (nS r.2)]) bf Z Z Vb Ad (qa3 Z) (λ_ D2 O=>?_));have⟨E,G,H,D,_⟩:=fL D2 E G H D;refine I ?_;refine clb re (hc:=nT hp Jv LN dc Vr) (hk:=?_);rintro _ A2 E9 rfl;have⟨E,G,H,O,D⟩:=dL E9.2 E G H O D;refine al bl (λ_ Af E1=>?_);have⟨E,G,H,O,D⟩:=dL Af.2 E G H O D;refine ab (aU (b:=A2.heap.size) (o:=0) (vs:=[S (nS ((aM (10^pl) 1 2).1)),S (nS ((aM (10^pl) 1 2).2))]) bf Z Z Vb E1 (qa3 Z) (λ_ Am kk=>?_));have⟨E,G,H,O,D,_⟩:=ka Am E G H O D;refine I ?_;refine bB 9 ?_;refine sf ?_;refine ay (V:=S (aa ((((aM (10^pl) 1 2).1:Nat):Int)-((r.2:Nat):Int)))) (λ_ _ _ _=>?_) ?_;refine clb jJ (hc:=gp Z Z (kd.fi dc).1.z (W.fi dc).2.z (wT kd.1 W.2)) (hk:=?_);rintro _ _ Ar rfl;have Ap:=Ar.2;refine I ?_;exact fs ⟨Ap,rfl⟩;refine sf ?_;intro _ _ A1 _;have⟨E,G,H,O,kk,D⟩:=lk A1.2 E G H O kk D;refine clb jJ (hc:=gp Z Z (kd.fi dc).2.z (W.fi dc).1.z (wT kd.2 W.1)) (hk:=?_);rintro _ _ Ao rfl;have⟨E,G,H,O,kk,D⟩:=lk Ao.2 E G H O kk D
 refine ab (aS (vs:=[(0,S (aa ((((aM (10^pl) 1 2).1:Nat):Int)-((r.2:Nat):Int)))),(1,S (aa ((((aM (10^pl) 1 2).2:Nat):Int)-((r.1:Nat):Int))))]) (cells:=#[S (aa ((((aM (10^pl) 1 2).1:Nat):Int)-((r.2:Nat):Int))),S (aa ((((aM (10^pl) 1 2).2:Nat):Int)-((r.1:Nat):Int)))]) (pl:=[(0,1),(1,1)]) eX bl q0 Z q0 ?_);refine ab (aU (b:=g.heap.size) (o:=0) (vs:=[S (aa ((((aM (10^pl) 1 2).1:Nat):Int)-((r.2:Nat):Int))),S (aa ((((aM (10^pl) 1 2).2:Nat):Int)-((r.1:Nat):Int)))]) bf Z Z Vb G (qa3 Z) (λ_ E4 Ax=>?_));have⟨E,H,O,kk,D,_⟩:=ka E4 E H O kk D;refine I ?_;refine aK (v:=.tuple #[.agg #[S (aa ((((aM (10^pl) 1 2).1:Nat):Int)-((r.2:Nat):Int))),S (aa ((((aM (10^pl) 1 2).2:Nat):Int)-((r.1:Nat):Int)))],.bool false]) (cJ (r1:=.cell 8 94) (r2:=.tmp 9) Z ?_ ?_) D Z;refine ah (t:=8) (cs:=[S (aa ((((aM (10^pl) 1 2).1:Nat):Int)-((r.2:Nat):Int))),S (aa ((((aM (10^pl) 1 2).2:Nat):Int)-((r.1:Nat):Int)))]) (b:=g.heap.size) (o:=0) eX Z bf ?_ ?_;exact Z;exact aa0 Ax (i:=0) Z;exact aE (t:=9) Ve _
def BG {c:N2}{r:Int×Int}(hp:pl<=90)(hN:N.natAbs<10^95)(hd:d<10^95)(hd0:0<d)(hc:pU (10^pl) c)(hh:H9 (10^pl) c N d=some r):
 CL 76 #[.int .i64 2,.agg #[S (aa N),S (nS d)],.int .i64 0,.int .i64 pl] w (aH w λv _=>v=.tuple #[.agg #[S (aa r.1),S (aa r.2)],.bool false]):=by
 obtain⟨n,D,rfl⟩:=BD hh
 by_cases h0:N<0
 · obtain⟨k,rfl⟩:∃k:Nat,N=-(k:Int):=⟨N.natAbs,by omega⟩
   rw[if_pos h0,DZ U]
   rw[Int.natAbs_neg,Int.natAbs_natCast]at D hN
   exact xS hp hN hd hd0 hc D
 · obtain⟨k,rfl⟩:∃k:Nat,N=(k:Int):=⟨N.natAbs,by omega⟩
   rw[if_neg h0]
   rw[Int.natAbs_natCast]at D hN
   exact xR hp hN hd hd0 hc D
def tX (h:aw x y<0):x<y:=fC.1 h
def qQ (h:¬aw x y<0):¬x<y:=λc=>h (fC.2 c)
def tY (h:0<aw x y):y<x:=by
 by_cases hc:y<x
 · exact hc
 · have:=(bw (x:=x) (y:=y)).2 U;omega
def qS (h:¬0<aw x y):¬y<x:=λc=>h (by rw[bM c];decide)
set_option maxRecDepth 100000 in
def vl {c:Nat->N2}{F:Nat->Option (Int×Int)}{u:Bool}(hFn:∀m,F m=H9 (10^m) (c m) N d)(hN:N.natAbs<10^95)(hd:d<10^95)(hd0:0<d)(ha:a<10^100)(hb:b<10^100)(hb0:0<b)(hc:∀m,m=15\/m=50->pU (10^m) (c m))(hu:pG F a b 2 15=some u):
 CL 37 #[.agg #[S (aa N),S (nS d)],.agg #[S (nS a),S (nS b)]] w (aH w λv w'=>v=.tuple #[.bool u,.int .i64 0]):=by
 refine aC func37 Z (I ?_);refine bx (λE7 od D=>?_);have kk:=od.2;refine bx (λE1 ny G=>?_);have⟨D,kk⟩:=bn ny.2 D kk;refine I ?_;refine cM [(4,34)] (λAs e W=>∃f:Nat,∃m:Nat,(f=As)/\(e 6=.int .i64 m)/\(pG F a b f m=some u)/\((f=2/\m=15)\/(f=1/\m=50)\/(f=0/\m=85))/\(E1.heap.size<=W.heap.size)/\(a8 w W)/\(ae W w.heap.size 23 #[S (aa N),S (nS d)])/\(ae W E7.heap.size 23 #[S (nS a),S (nS b)])) (2) ⟨2,15,rfl,rfl,hu,U,(qa0 _),kk,D,G⟩ ?_;rintro _ _ _ ⟨f,m,rfl,Jx,Ar,hm,EW,E,D,G⟩;have Ix:=bz E;obtain⟨g,r,rfl,B1,hT,hF,hG⟩:=BC Ar;have hr:=(hFn m).symm.trans B1;have Ap:m=15\/m=50:=J
 have O:m<=90:=J
 have A1:=Kg (uh O) hr;have Ab:=BF (uh O) ha hb0;refine I ?_;refine cl Gb (BG O hN hd hd0 (hc m Ap) hr) ?_;rintro _ Ax E9 rfl;have⟨D,G,E⟩:=aP E9.2 D G E;refine I ?_;refine al bl (λ_ Ay Av=>?_);have⟨D,G,E⟩:=aP Ay.2 D G E;refine ab (aU (b:=Ax.heap.size) (o:=0) (vs:=[S (aa r.1),S (aa r.2)]) bf Z Z Vb Av (qa3 Z) (λ_ E4 H=>?_));have⟨D,G,E,_⟩:=fq E4 D G E;refine I ?_;refine clb re (hc:=nT O (bT ha dc) (bT hb dc) hb0 (bC ha (uh O).lt dc)) (hk:=?_);rintro _ D2 B2 rfl;have⟨D,G,H,E⟩:=br B2.2 D G H E;refine al bl (λ_ Af Aw=>?_);have⟨D,G,H,E⟩:=br Af.2 D G H E;refine ab (aU (b:=D2.heap.size) (o:=0) (vs:=[S (nS ((aM (10^m) a b).1)),S (nS ((aM (10^m) a b).2))]) bf Z Z Vb Aw (qa3 Z) (λ_ Aq A2=>?_));have⟨D,G,H,E,_⟩:=fL Aq D G H E;refine I ?_;refine cl jE (gU A1.2 Ab.1) ?_;rintro _ _ D1 rfl;have⟨D,G,H,A2,E⟩:=dL D1.2 D G H A2 E;refine I ?_;by_cases mq:(aw r.2 ((aM (10^m) a b).1:Int))<0;have kd:=hT (tX mq);subst kd;refine I ?_;exact aW (t:=4) (u:=5) (v1:=.bool true) (v2:=.int .i64 0) Z E Z Z Z;have Ad:=qQ mq;refine I ?_
 refine cl jE (gU A1.1 Ab.2) ?_;rintro _ _ Ao rfl;have⟨D,G,E⟩:=aP Ao.2 D G E;refine I ?_;by_cases nm:0<(aw r.1 ((aM (10^m) a b).2:Int));have kd:=hF Ad (tY nm);subst kd;refine I ?_;exact aW (t:=4) (u:=5) (v1:=.bool false) (v2:=.int .i64 0) Z E Z Z Z;have Am:=hG Ad (qS nm);refine I ?_;refine ab (bb (a:=(m:Int)) (b:=35) (c:=((m+35:Nat):Int)) Z Z JT U ?_);refine I ?_;exact bQ ⟨g,m+35,rfl,rfl,Am,U,U,E,D,G⟩
end
end Go.Proofs.YtgcfffdpcefifaaGreatDoor
