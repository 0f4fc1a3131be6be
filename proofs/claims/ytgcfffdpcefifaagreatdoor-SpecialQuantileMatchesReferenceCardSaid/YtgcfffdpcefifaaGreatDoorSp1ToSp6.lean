/- Part of the proof of a statement about special functions. -/
import Derived.Test.YtgcfffdpcefifaaGreatDoorRef3ToSp0
set_option linter.all false
namespace Go.Proofs.YtgcfffdpcefifaaGreatDoor
variable {lb lbn:Array Value}{f:FuncId}{bs ps:List Nat}{k a b pl sO n d m N M gf b1 b2 gn t lo c x y:Nat}{w A B C W W' w0:World}
section
set_option maxRecDepth 100000
open Go Go.Eng Go.RowKit Tryz
attribute [local irreducible] wpListIn Code.wpIn Oper.wpIn Exit.then Exit.inBlock Exit.noGoto
set_option maxHeartbeats 40000000
def Sc.fi {S:Nat}(h:Sc S):Fi S:=bT h.lt dc
def Ac (k:Nat):dy (49::List.replicate k 48)=List.replicate k 0++[1]:=by simp[dy]
def Ae (k:Nat):bg 10 (List.replicate k 0++[1])=10^k:=by
 induction k with
 |zero=>rfl
 |succ k ih=>rw[List.replicate_succ,List.cons_append];show 0+10*bg 10 (List.replicate k 0++[1])=_;rw[ih,Nat.pow_succ];omega
def wt (h:k<200):(49::List.replicate k 48:List UInt8)=nS (10^k):=by
 have h1:dh (49::List.replicate k 48)=true:=by
  simp only[dh,Bool.and_eq_true,Bool.or_eq_true,decide_eq_true_eq]
  refine⟨⟨⟨by simp,by simp;omega⟩,?_⟩,Or.inr Vk⟩
  rw[List.all_cons,List.all_eq_true.2]
  · decide
  · intro x hx;rw[List.eq_of_mem_replicate hx];decide
 have D:=oX h1
 have E:au (49::List.replicate k 48)=10^k:=by unfold au;rw[Ac,Ae]
 rw[E]at D
 rw[<-D];unfold nS aa
 rw[if_neg U,Int.natAbs_natCast]
def mA (k:Nat):Lib.repeatL [48] k=List.replicate k 48:=by
 induction k with
 |zero=>rfl
 |succ k ih=>simp[Lib.repeatL,List.replicate_succ]at ih ⊢;exact ih
def lU (h:k<200):([49]:List UInt8)++Lib.repeatL [48] k=nS (10^k):=by rw[mA,<-wt h];rfl
def Ag (ha:a<10^199)(hb:b<10^199):Fz ((a:Int)-(b:Int)):=by unfold Fz;omega
def dr (hp:pl<200)(ht:Tb w):
 CL 18 #[.int .i64 pl] w (aH w λv w'=>v=.agg #[.int .i64 pl,S (nS (10^pl))]):=by
 refine aC func18 Z (I ?_);refine al hP (λ_ kk E=>?_);have D:=kk.2;refine I ?_;refine clb ym (hc:=mr [48] pl _ U dc) (hk:=?_);rintro _ _ H rfl;have⟨E,D⟩:=bn H.2 E D;refine ab (me (a:=[49]) (b:=Lib.repeatL [48] pl) Z Z (by rw[mA];simp;omega) ?_);refine I ?_;refine SA E (λ_ G O=>?_);have D:=eK G D;have kd:=dX G;refine I ?_;refine aK (v:=.agg #[.int .i64 pl,S (([49])++(Lib.repeatL [48] pl))]) (cn  rfl ?_) D (by rw[lU hp]);refine ah (t:=2) (cs:=[.int .i64 pl,S (([49])++(Lib.repeatL [48] pl))]) (b:=w.heap.size) (o:=0) jD Z yf ?_ ?_;exact Z;exact aa0 O (i:=0) Z
def aJ {a b:List UInt8}:
 CL 16 #[S a,S b] w (aH w λv w'=>v=.agg #[S a,S b]):=by
 refine aC func16 Z (I ?_);refine al bi (λ_ G O=>?_);have D:=G.2;refine I ?_;refine SA O (λ_ E H=>?_);have D:=eK E D;have kk:=dX E;refine I ?_;refine aK (v:=.agg #[S a,S b]) (cn  rfl ?_) D Z;refine ah (t:=4) (cs:=[S a,S b]) (b:=w.heap.size) (o:=0) j8 Z dv ?_ ?_;exact Z;exact aa0 H (i:=0) Z
def wu (hS:Sc sO)(hn:Fi n)(hd:Fi d)(h0:0<d)(hm:Fi (n*sO))(ht:Tb w):
 CL 43 #[.agg #[.int .i64 pl,S (nS sO)],.agg #[S (nS n),S (nS d)]] w (aH w λv w'=>v=.agg #[S (nS ((aM sO n d).1)),S (nS ((aM sO n d).2))]):=by
 refine aC func43 Z (I ?_);refine bx (λ_ ny E=>?_);have D:=ny.2;refine bx (λA2 kd G=>?_);have⟨E,D⟩:=bn kd.2 E D;refine al aI (λ_ Am H=>?_);have⟨E,G,D⟩:=aP Am.2 E G D;refine I ?_;refine cl k6 (ez Z Z hn hS.fi hm (ht.ext D)) ?_;rintro _ _ g rfl;have⟨E,G,H,D⟩:=br g.2 E G H D;refine I ?_;refine bB 7 ?_;refine sf ?_;refine ay (V:=S (nS ((n*sO)/d))) (λ_ _ kk _=>?_) ?_;refine cl jH (lT Z Z hm hd h0 (ht.ext (xt D kk))) ?_;rintro _ _ Ab rfl;have od:=Ab.2;refine I ?_;exact fs ⟨od,rfl⟩;refine sf ?_;intro _ _ O _;have⟨E,G,H,D⟩:=br O.2 E G H D;refine cl q9 (rO Z Z hm hd h0 (ht.ext D)) ?_;rintro _ _ A1 rfl;have⟨E,G,H,D⟩:=br A1.2 E G H D;refine I ?_;refine SA H (λ_ Ad Af=>?_);have⟨E,G,D,_⟩:=fq Ad E G D;refine I ?_;refine aK (v:=.agg #[S (nS ((n*sO)/d)),S (nS (gF (n*sO) d))]) (cn  rfl ?_) D Z;refine ah (t:=4) (cs:=[S (nS ((n*sO)/d)),S (nS (gF (n*sO) d))]) (b:=A2.heap.size) (o:=0) dw Z cD ?_ ?_;exact Z;exact aa0 Af (i:=0) Z
def eV (hS:Sc sO)(h9:n<10^9)(hm:Fi (n*sO))(ht:Tb w):
 CL 41 #[.agg #[.int .i64 pl,S (nS sO)],.int .i64 n] w (aH w λv w'=>v=.agg #[S (nS ((n*sO,n*sO).1)),S (nS ((n*sO,n*sO).2))]):=by
 have Ad:Fi n:=bT (k:=9) h9 dc;refine aC func41 Z (I ?_);refine bx (λH kd E=>?_);have D:=kd.2;refine al aI (λ_ A2 G=>?_);have⟨E,D⟩:=bn A2.2 E D;refine I ?_;refine bB 4 ?_;refine sf ?_;refine ay (V:=S (nS n)) (λ_ _ Ab _=>?_) ?_;refine cl oA (pr h9 (ht.ext (xt D Ab))) ?_;rintro _ _ A1 rfl;have Am:=A1.2;refine I ?_;exact fs ⟨Am,rfl⟩;refine sf ?_;intro _ _ g _;have⟨E,G,D⟩:=aP g.2 E G D;refine cl k6 (ez Z Z Ad hS.fi hm (ht.ext D)) ?_;rintro _ _ O rfl;have⟨E,G,D⟩:=aP O.2 E G D;refine I ?_;refine SA G (λ_ Af kk=>?_);have⟨E,D,_⟩:=dE Af E D;refine I ?_;refine aK (v:=.agg #[S (nS (n*sO)),S (nS (n*sO))]) (cn  rfl ?_) D Z;refine ah (t:=4) (cs:=[S (nS (n*sO)),S (nS (n*sO))]) (b:=H.heap.size) (o:=0) dw Z cD ?_ ?_;exact Z;exact aa0 kk (i:=0) Z
def mB {a b:N2}(h1:Fi (a.1+b.1))(h2:Fi (a.2+b.2))(ht:Tb w):
 CL 90 #[.agg #[.int .i64 pl,S (nS sO)],.agg #[S (nS a.1),S (nS a.2)],.agg #[S (nS b.1),S (nS b.2)]] w (aH w λv w'=>v=.agg #[S (nS ((dA a b).1)),S (nS ((dA a b).2))]):=by
 refine aC func90 Z (I ?_);refine bx (λ_ A1 E=>?_);have D:=A1.2;refine bx (λ_ Ad G=>?_);have⟨E,D⟩:=bn Ad.2 E D;refine bx (λA2 od H=>?_);have⟨E,G,D⟩:=aP od.2 E G D;refine al aI (λ_ Ap O=>?_);have⟨E,G,H,D⟩:=br Ap.2 E G H D;refine I ?_;refine bB 9 ?_;refine sf ?_;refine ay (V:=S (nS (a.1+b.1))) (λ_ _ Ab _=>?_) ?_;refine cl gv (ik Z Z h1 (ht.ext (xt D Ab))) ?_;rintro _ _ kd rfl;have g:=kd.2;refine I ?_;exact fs ⟨g,rfl⟩;refine sf ?_;intro _ _ Am _;have⟨E,G,H,O,D⟩:=dL Am.2 E G H O D;refine cl gv (ik Z Z h2 (ht.ext D)) ?_;rintro _ _ kk rfl;have⟨E,G,H,O,D⟩:=dL kk.2 E G H O D;refine I ?_;refine SA O (λ_ Ao Af=>?_);have⟨E,G,H,D,_⟩:=fL Ao E G H D;refine I ?_;refine aK (v:=.agg #[S (nS (a.1+b.1)),S (nS (a.2+b.2))]) (cn  rfl ?_) D Z;refine ah (t:=6) (cs:=[S (nS (a.1+b.1)),S (nS (a.2+b.2))]) (b:=A2.heap.size) (o:=0) dw Z cD ?_ ?_;exact Z;exact aa0 Af (i:=0) Z
def kW {a b:N2}(ha:Bk 199 a)(hb:Bk 199 b)(ht:Tb w):
 CL 91 #[.agg #[.int .i64 pl,S (nS sO)],.agg #[S (nS a.1),S (nS a.2)],.agg #[S (nS b.1),S (nS b.2)]] w (aH w λv w'=>v=.agg #[S (aa ((l9 a b).1)),S (aa ((l9 a b).2))]):=by
 have kk:=ha.fi dc;have kd:=hb.fi dc;refine aC func91 Z (I ?_);refine bx (λ_ Ao E=>?_);have D:=Ao.2;refine bx (λ_ A2 G=>?_);have⟨E,D⟩:=bn A2.2 E D;refine bx (λAp od H=>?_);have⟨E,G,D⟩:=aP od.2 E G D;refine al aI (λ_ Ar O=>?_);have⟨E,G,H,D⟩:=br Ar.2 E G H D;refine I ?_;refine bB 9 ?_;refine sf ?_;refine ay (V:=S (aa (((a.1:Nat):Int)-((b.2:Nat):Int)))) (λ_ _ Aq _=>?_) ?_;refine cl iu (fZ Z Z kk.1.z kd.2.z (Ag ha.1 hb.2) (ht.ext (xt D Aq))) ?_;rintro _ _ A1 rfl;have Am:=A1.2;refine I ?_;exact fs ⟨Am,rfl⟩;refine sf ?_;intro _ _ Af _;have⟨E,G,H,O,D⟩:=dL Af.2 E G H O D;refine cl iu (fZ Z Z kk.2.z kd.1.z (Ag ha.2 hb.1) (ht.ext D)) ?_;rintro _ _ g rfl;have⟨E,G,H,O,D⟩:=dL g.2 E G H O D;refine I ?_;refine SA O (λ_ Ab Ad=>?_);have⟨E,G,H,D,_⟩:=fL Ab E G H D;refine I ?_;refine aK (v:=.agg #[S (aa (((a.1:Nat):Int)-((b.2:Nat):Int))),S (aa (((a.2:Nat):Int)-((b.1:Nat):Int)))]) (cn  rfl ?_) D Z;refine ah (t:=6) (cs:=[S (aa (((a.1:Nat):Int)-((b.2:Nat):Int))),S (aa (((a.2:Nat):Int)-((b.1:Nat):Int)))]) (b:=Ap.heap.size) (o:=0) dw Z cD ?_ ?_;exact Z;exact aa0 Ad (i:=0) Z
def cS {a b:N2}(hS:Sc sO)(ha:Bk 95 a)(hb:Bk 95 b)(ht:Tb w):
 CL 84 #[.agg #[.int .i64 pl,S (nS sO)],.agg #[S (nS a.1),S (nS a.2)],.agg #[S (nS b.1),S (nS b.2)]] w (aH w λv w'=>v=.agg #[S (nS ((a7 sO a b).1)),S (nS ((a7 sO a b).2))]):=by
 have kk:=ha.fi dc;have kd:=hb.fi dc;refine aC func84 Z (I ?_);refine bx (λ_ As E=>?_);have D:=As.2;refine bx (λ_ Ar G=>?_);have⟨E,D⟩:=bn Ar.2 E D;refine bx (λA2 Aw H=>?_);have⟨E,G,D⟩:=aP Aw.2 E G D;refine al aI (λ_ Ao O=>?_);have⟨E,G,H,D⟩:=br Ao.2 E G H D;refine I ?_;refine bB 15 ?_;refine sf ?_;refine ay (V:=S (nS (a.1*b.1))) (λ_ _ Ax _=>?_) ?_;refine clb k6 (hc:=ez Z Z kk.1 kd.1 (bC ha.1 hb.1 dc) (ht.ext (xt D Ax))) (hk:=?_);rintro _ _ A1 rfl;have Aq:=A1.2;refine I ?_;exact fs ⟨Aq,rfl⟩;refine sf ?_;refine ay (V:=S (nS ((a.1*b.1)/sO))) (λ_ _ Am _=>?_) ?_;refine clb jH (hc:=lT Z Z (bC ha.1 hb.1 dc) hS.fi hS.pos (ht.ext (xt D Am))) (hk:=?_);rintro _ _ g rfl;have B1:=g.2;refine I ?_;exact fs ⟨B1,rfl⟩;refine sf ?_;refine ay (V:=S (nS (a.2*b.2))) (λ_ _ Af _=>?_) ?_;refine clb k6 (hc:=ez Z Z kk.2 kd.2 (bC ha.2 hb.2 dc) (ht.ext (xt D Af))) (hk:=?_);rintro _ _ Ay rfl;have Av:=Ay.2;refine I ?_;exact fs ⟨Av,rfl⟩;refine sf ?_;intro _ _ Ap _;have⟨E,G,H,O,D⟩:=dL Ap.2 E G H O D;refine clb q9 (hc:=rO Z Z (bC ha.2 hb.2 dc) hS.fi hS.pos (ht.ext D)) (hk:=?_);rintro _ _ B2 rfl;have⟨E,G,H,O,D⟩:=dL B2.2 E G H O D;refine I ?_;refine SA O (λ_ Ad Ab=>?_);have⟨E,G,H,D,_⟩:=fL Ad E G H D
 refine I ?_;refine aK (v:=.agg #[S (nS ((a.1*b.1)/sO)),S (nS (gF (a.2*b.2) sO))]) (cn  rfl ?_) D Z;refine ah (t:=6) (cs:=[S (nS ((a.1*b.1)/sO)),S (nS (gF (a.2*b.2) sO))]) (b:=A2.heap.size) (o:=0) dw Z cD ?_ ?_;exact Z;exact aa0 Ab (i:=0) Z
def kp {a b:N2}(hS:Sc sO)(ha:Bk 95 a)(hb:Bk 190 b)(h1:0<b.1)(h2:0<b.2)(ht:Tb w):
 CL 40 #[.agg #[.int .i64 pl,S (nS sO)],.agg #[S (nS a.1),S (nS a.2)],.agg #[S (nS b.1),S (nS b.2)]] w (aH w λv w'=>v=.agg #[S (nS ((iD sO a b).1)),S (nS ((iD sO a b).2))]):=by
 have kk:=ha.fi dc;have kd:=hb.fi dc;refine aC func40 Z (I ?_);refine bx (λ_ As E=>?_);have D:=As.2;refine bx (λ_ Ar G=>?_);have⟨E,D⟩:=bn Ar.2 E D;refine bx (λA2 Aw H=>?_);have⟨E,G,D⟩:=aP Aw.2 E G D;refine al aI (λ_ Ao O=>?_);have⟨E,G,H,D⟩:=br Ao.2 E G H D;refine I ?_;refine bB 15 ?_;refine sf ?_;refine ay (V:=S (nS (a.1*sO))) (λ_ _ Ax _=>?_) ?_;refine clb k6 (hc:=ez Z Z kk.1 hS.fi (bC ha.1 hS.lt dc) (ht.ext (xt D Ax))) (hk:=?_);rintro _ _ A1 rfl;have Aq:=A1.2;refine I ?_;exact fs ⟨Aq,rfl⟩;refine sf ?_;refine ay (V:=S (nS ((a.1*sO)/b.2))) (λ_ _ Am _=>?_) ?_;refine clb jH (hc:=lT Z Z (bC ha.1 hS.lt dc) kd.2 h2 (ht.ext (xt D Am))) (hk:=?_);rintro _ _ g rfl;have B1:=g.2;refine I ?_;exact fs ⟨B1,rfl⟩;refine sf ?_;refine ay (V:=S (nS (a.2*sO))) (λ_ _ Af _=>?_) ?_;refine clb k6 (hc:=ez Z Z kk.2 hS.fi (bC ha.2 hS.lt dc) (ht.ext (xt D Af))) (hk:=?_);rintro _ _ Ay rfl;have Av:=Ay.2;refine I ?_;exact fs ⟨Av,rfl⟩;refine sf ?_;intro _ _ Ap _;have⟨E,G,H,O,D⟩:=dL Ap.2 E G H O D;refine clb q9 (hc:=rO Z Z (bC ha.2 hS.lt dc) kd.1 h1 (ht.ext D)) (hk:=?_);rintro _ _ B2 rfl;have⟨E,G,H,O,D⟩:=dL B2.2 E G H O D;refine I ?_;refine SA O (λ_ Ad Ab=>?_);have⟨E,G,H,D,_⟩:=fL Ad E G H D
 refine I ?_;refine aK (v:=.agg #[S (nS ((a.1*sO)/b.2)),S (nS (gF (a.2*sO) b.1))]) (cn  rfl ?_) D Z;refine ah (t:=6) (cs:=[S (nS ((a.1*sO)/b.2)),S (nS (gF (a.2*sO) b.1))]) (b:=A2.heap.size) (o:=0) dw Z cD ?_ ?_;exact Z;exact aa0 Ab (i:=0) Z
def eA {a:N2}(ha:Bk 190 a)(hn:n<10^9)(hd:d<10^9)(h0:0<d)(ht:Tb w):
 CL 80 #[.agg #[.int .i64 pl,S (nS sO)],.agg #[S (nS a.1),S (nS a.2)],.int .i64 n,.int .i64 d] w (aH w λv w'=>v=.agg #[S (nS ((ba a n d).1)),S (nS ((ba a n d).2))]):=by
 have O:=ha.fi dc;refine aC func80 Z (I ?_);refine bx (λ_ wr E=>?_);have D:=wr.2;refine bx (λAs Ad G=>?_);have⟨E,D⟩:=bn Ad.2 E D;refine al aI (λ_ Am H=>?_);have⟨E,G,D⟩:=aP Am.2 E G D;refine I ?_;refine cl oA (pr hn (ht.ext D)) ?_;rintro _ _ Av rfl;have⟨E,G,H,D⟩:=br Av.2 E G H D;refine I ?_;refine cl oA (pr hd (ht.ext D)) ?_;rintro _ _ kd rfl;have⟨E,G,H,D⟩:=br kd.2 E G H D;refine I ?_;refine bB 11 ?_;refine sf ?_;refine ay (V:=S (nS (a.1*n))) (λ_ _ Af _=>?_) ?_;refine clb k6 (hc:=ez Z Z O.1 (bT hn dc) (bC ha.1 hn dc) (ht.ext (xt D Af))) (hk:=?_);rintro _ _ kk rfl;have Ap:=kk.2;refine I ?_;exact fs ⟨Ap,rfl⟩;refine sf ?_;refine ay (V:=S (nS ((a.1*n)/d))) (λ_ _ Ab _=>?_) ?_;refine clb jH (hc:=lT Z Z (bC ha.1 hn dc) (bT hd dc) h0 (ht.ext (xt D Ab))) (hk:=?_);rintro _ _ Aw rfl;have Ar:=Aw.2;refine I ?_;exact fs ⟨Ar,rfl⟩;refine sf ?_;refine ay (V:=S (nS (a.2*n))) (λ_ _ Ao _=>?_) ?_;refine clb k6 (hc:=ez Z Z O.2 (bT hn dc) (bC ha.2 hn dc) (ht.ext (xt D Ao))) (hk:=?_);rintro _ _ Ay rfl;have Aq:=Ay.2;refine I ?_;exact fs ⟨Aq,rfl⟩;refine sf ?_;intro _ _ g _;have⟨E,G,H,D⟩:=br g.2 E G H D;refine clb q9 (hc:=rO Z Z (bC ha.2 hn dc) (bT hd dc) h0 (ht.ext D)) (hk:=?_)
 rintro _ _ Ax rfl;have⟨E,G,H,D⟩:=br Ax.2 E G H D;refine I ?_;refine SA H (λ_ A2 A1=>?_);have⟨E,G,D,_⟩:=fq A2 E G D;refine I ?_;refine aK (v:=.agg #[S (nS ((a.1*n)/d)),S (nS (gF (a.2*n) d))]) (cn  rfl ?_) D Z;refine ah (t:=8) (cs:=[S (nS ((a.1*n)/d)),S (nS (gF (a.2*n) d))]) (b:=As.heap.size) (o:=0) dw Z cD ?_ ?_;exact Z;exact aa0 A1 (i:=0) Z
end
section
open Go Go.Eng Go.RowKit Tryz
structure jY (n:Nat)(kx:World->Prop):Prop where
 ext:∀{A B:World},a8 A B->kx A->kx B
 put:∀{A B:World} {b:Nat},fe A B b->n<=b->kx A->kx B
structure wv (bs:List Nat)(W W':World):Prop where
 size:W.heap.size<=W'.heap.size
 blk:∀{b:Nat} {t:TypeId} {cs:Array Value},b∉bs->ae W b t cs->ae W' b t cs
def wv.trans (h:wv bs A B)(k:wv bs B C):wv bs A C:=⟨qa8 h.size k.size,λD hb=>k.blk D (h.blk D hb)⟩
def wv.of (h:dD bs A B):wv bs A B:=⟨h.size,λD hb=>h.blk D hb⟩
def wv.putObj {r r':Loop}(h:A.heap[b]?=some (.loop r)):wv bs A (A.putObj b (.loop r')):=
 ⟨by simp,fun{c t cs} _ hb=>(World.putObj_heap_other (λe=>by subst e;unfold ae at hb;rw[h]at hb;cases hb)).trans hb⟩
def eW (W:World)(b:Nat)(o:Obj):fe W (W.putObj b o) b:=⟨rfl,rfl,rfl,by simp,λk hk=>World.putObj_heap_other hk⟩
def ES (P:Program)(gf:Nat)(lb:List Value)(enc:Nat->List Value)(bs:List Nat)(Kq:World->Prop)(M:Nat)(w:World):Prop:=
 ∀ (l:Nat) (k3 Jx:Nat->World->Prop) (W:World),Below w.heap.size w W->(∀k,jY W.heap.size (k3 k))->(∀k,jY W.heap.size (Jx k))->(∀k W1,k3 k W1->k<M)->
  (∀k W1,k3 k W1->YieldAt Fence.wide 7 P l (enc k).toArray W1 λe W'=>(e=.returned (.bool true)/\k3 (k+1) W'/\wv bs W1 W'/\(Kq W1->Kq W'))\/(e=.returned (.bool false)/\Jx (k+1) W'))->
  k3 0 W->CallsIn Fence.wide 8 P gf (#[.func (.yield l) #[] #[]]++lb.toArray) W λe W'=>(∃v,e=.returned v)/\∃k,Jx k W'
def Li (bs:List Nat)(Kq:World->Prop)(kx:Nat->World->Prop)(Ix:Code->Nat->World->Prop)(k:Nat)(W:World):Exit->Act->World->Prop
 | .normal,_,W'=>KeepsOthers W W'/\wv bs W W'/\(Kq W->Kq W')/\kx k W'
 | .ret,_,W'=>KeepsOthers W W'/\Ix .ret k W'
 | .exit id,_,W'=>KeepsOthers W W'/\Ix (.exit id) k W'
 |_,_,_=>False
def u3 (W:World)(b:Nat)(r:Loop):Prop:=W.heap[b+1]?=some (.loop r)/\W.heap[b]?=some (.deferred (some []))
def u3.put {r:Loop}(h:u3 W b r)(r':Loop):u3 (W.putObj (b+1) (.loop r')) b r':=
 ⟨World.putObj_heap_same (Array.getElem?_eq_some_iff.1 h.1).1,(World.putObj_heap_other J).trans h.2⟩
def u3.kept {r:Loop}(h:u3 W b r)(k:KeepsOthers W W'):u3 W' b r:=⟨k.same _ _ h.1 Z,k.same _ _ h.2 Z⟩
def u3.stab {r:Loop}(h:b+1<n):jY n λW=>u3 W b r:=
 ⟨λk h=>⟨k.heap h.1,k.heap h.2⟩,λk hb h=>⟨(k.block _ J).trans h.1,(k.block _ J).trans h.2⟩⟩
def jY.and {kx k3:World->Prop}(h:jY n kx)(k:jY n k3):jY n λW=>kx W/\k3 W:=⟨λe x=>⟨h.ext e x.1,k.ext e x.2⟩,λe l x=>⟨h.put e l x.1,k.put e l x.2⟩⟩
def jY.ex {α:Type}{kx:α->World->Prop}(h:∀a,jY n (kx a)):jY n λW=>∃a,kx a W:=⟨λe ⟨a,x⟩=>⟨a,(h a).ext e x⟩,λe l ⟨a,x⟩=>⟨a,(h a).put e l x⟩⟩
def jY.mono {kx:World->Prop}(h:jY n kx)(hl:n<=m):jY m kx:=⟨h.ext,λk hb=>h.put k (qa8 hl hb)⟩
def Ah {P:Program}{e:Nat->Value}{ds:List Deferred}{Q:Exit->Act->World->Prop}{enc:Nat->List Value}{Kq:World->Prop}{lb:List Value}{g:Operand}{assign body:Code}(hg:ev N e g=.func (.func gf) #[] lb.toArray)(eg:Enters P gf)(hit:ES P gf lb enc bs Kq M w)(hKq:jY w.heap.size Kq)(hps:∀i,(enc i).length=ps.length)(kx:Nat->World->Prop)(Ix:Code->Nat->World->Prop)(hI:∀k,jY w.heap.size (kx k))(hIx:∀c k,jY w.heap.size (Ix c k))(hM:∀k W,kx k W->k<M)(h0:kx 0 w)(A:(Nat->Value)->Nat->(Nat->Value)->World->Prop)(hA:∀k e' W b r r',w.heap.size<=b->W.heap[b]?=some (.loop r)->A e k e' W->A e k e' (W.putObj b (.loop r')))(hassign:∀l k W K,kx k W->(∀e' W',a8 W W'->A e k e' W'->K (act N e' []) W')->assign.wpIn (Fw (some l)) 7 P (Exit.then K (λ_ _ _=>False)) (act N (iJ e ps (enc k)) []) W)(hbody:∀l k e' W,A e k e' W->body.wpIn (Fw (some l)) 7 P (Li bs Kq kx Ix (k+1) W) (act N e' []) W)(hstop:∀D c k W,w.heap.size<=D->Ix c k W->j9 W D->c.wpIn (Fw none) 9 P Q (act N e (⟨.collected D,#[]⟩::ds)) W):
 (Code.rangeFunc g ps.toArray assign body).wpIn (Fw none) 9 P Q (act N e ds) w:=by
 refine wpIn_rangeFunc (F:=Fence.wide) (n:=9) λfn Am=>?_
 obtain⟨R,hR⟩:∃R:LoopState->Option Code->Loop,R=λAd Ap=>{state:=Ad,pending:=Ap,fn,tmps:=(act N e ds).tmps,params:=ps.toArray,assign,body,defers:=w.heap.size}:=⟨_,rfl⟩
 obtain⟨V,hV⟩:∃V,(w.alloc (.deferred (some []))).alloc (.loop (R .ready none))=V:=⟨_,rfl⟩
 have hB:u3 V w.heap.size (R .ready none):=by
  refine⟨?_,?_⟩ <;>rw[<-hV]
  · have h:=World.alloc_heap_new (w.alloc (.deferred (some []))) (.loop (R .ready none));rwa [World.size_alloc]at h
  · exact(Below.heap_alloc _ _ _ Vk).trans (World.alloc_heap_new w _)
 have A2:w.heap.size+1<V.heap.size:=by rw[<-hV];simp
 have A1:Below w.heap.size w V:=by rw[<-hV];exact((Below.refl _ w).alloc (qa0 _) _).alloc Vk _
 have hI0:kx 0 V:=(hI 0).ext A1 h0
 refine⟨w.heap.size+1,[⟨.collected w.heap.size,#[]⟩],V,⟨.fn (.func gf) lb.toArray,#[.func (.yield (w.heap.size+1)) #[] #[]]⟩,V,gf,#[.func (.yield (w.heap.size+1)) #[] #[]]++lb.toArray,V,?_,?_,?_,?_,λ_=>by omega,?_⟩
 · rw[<-hV,hR];exact run_enterLoop_outer _ _ _ _ _
 · have hg':(act N e ds).eval g=.func (.func gf) #[] lb.toArray:=by rw[c6];exact hg
   simp only[resolve,hg'];simp[go_sem]
 · intro As _;trivial
 · simp[invoke,go_sem];exact eg _ _
 refine(hit (w.heap.size+1) (λk W=>kx k W/\u3 W w.heap.size (R .ready none)) (λk W=>∃c,Ix c k W/\u3 W w.heap.size (R .done (some c))) V A1
  (λk=>((hI k).mono J).and (u3.stab A2)) (λk=>jY.ex λc=>((hIx c k).mono J).and (u3.stab A2)) (λk W h=>hM k W h.1) ?_ ⟨hI0,hB⟩).mono ?_
 ·
  rintro k W ⟨hi,hk⟩
  have hy:=run_yield (P:=P) (args:=(enc k).toArray) hk.1 (by rw[hR];simpa using hps k)
  rw[hR]at hy
  refine⟨fn,_,assign,body,hy,roundIn_of_wpIn Am ?_⟩
  have hfold:(⟨(ps.toArray.zip (enc k).toArray).foldl (λt (p,v)=>t.setIfInBounds p v) (act N e ds).tmps,[]⟩:Act)=act N (iJ e ps (enc k)) []:=by
   have h:=oI N ps (enc k) e
   have kk:act N (iJ e ps (enc k)) []=⟨(act N (iJ e ps (enc k)) []).tmps,[]⟩:=rfl
   rw[kk,<-h]
   simp only[List.zip_toArray,List.foldl_toArray]
   rfl
  rw[hfold]
  refine hassign (w.heap.size+1) k W _ hi λe' W' hx Ab=>?_
  have hk:u3 W' w.heap.size (R .ready none):=⟨hx.heap hk.1,hx.heap hk.2⟩
  refine⟨_,run_beginRound hk.1 (by rw[hR]),?_⟩
  have Af:=hk.put {R .ready none with state:=.busy}
  refine wpIn_mono (hbody (w.heap.size+1) k e' _ (hA k e' _ _ _ _ J hk.1 Ab)) ?_
  have Ao:wv bs W W':=⟨hx.size,λ_ h=>h.ext hx⟩
  have kd:∀(j:Option Code) (W3:World),KeepsOthers (W'.putObj (w.heap.size+1) (.loop {R .ready none with state:=.busy})) W3->
   u3 W3 w.heap.size {R .ready none with state:=.busy}/\(Instr.endRound (w.heap.size+1) j).run P W3=.ok (.bool j.isNone) (W3.putObj (w.heap.size+1) (.loop (R (if j.isNone then .ready else .done) j))):=λj W3 H=>by
   have E:=Af.kept H
   refine⟨E,?_⟩
   have G:=run_endRound (P:=P) j E.1
   rw[hR]at G ⊢
   exact G
  rintro x Ar W3 O
  cases x with
  | normal=>
    obtain⟨h1,Aq,kk,H⟩:=O
    obtain⟨E,G⟩:=kd none W3 h1
    exact⟨_,_,G,.inl ⟨rfl,⟨(hI _).put (eW _ _ _) J H,E.put _⟩,Ao.trans (((wv.putObj hk.1).trans Aq).trans (wv.putObj E.1)),λh=>hKq.put (eW _ _ _) J (kk (hKq.put (eW _ _ _) J (hKq.ext hx h)))⟩⟩
  | ret=>
    obtain⟨h1,H⟩:=O
    obtain⟨E,G⟩:=kd (some .ret) W3 h1
    exact⟨_,_,G,.inr ⟨rfl,.ret,(hIx _ _).put (eW _ _ _) J H,E.put _⟩⟩
  | exit id=>
    obtain⟨h1,H⟩:=O
    obtain⟨E,G⟩:=kd (some (.exit id)) W3 h1
    exact⟨_,_,G,.inr ⟨rfl,.exit id,(hIx _ _).put (eW _ _ _) J H,E.put _⟩⟩
  |goto t=>exact O.elim
  |panic c=>exact O.elim
  |outgrown=>exact O.elim
 · rintro x W2 ⟨⟨v,rfl⟩,k,c,hi,hk⟩
   have h:=run_endLoop (P:=P) hk.1 (by rw[hR];simp)
   rw[hR]at h
   refine⟨some c,_,h,hstop _ c k _ (qa0 _) ((hIx c k).put (eW _ _ _) J hi) (hk.put _).2⟩
end
section
set_option maxRecDepth 100000
open Go Go.Eng Go.RowKit Tryz
attribute [local irreducible] wpListIn Code.wpIn Oper.wpIn Exit.then Exit.inBlock Exit.noGoto
set_option maxHeartbeats 40000000
def vN (p:N2):Value:=.agg #[S (nS p.1),S (nS p.2)]
def fv (g:Nat)(lb:Array Value):Value:=.func (.func g) #[] lb
def rP (t0:N2)(f:Value)(W:World)(v:Value):Prop:=∃b1 b2,v=.func (.func 136) #[] #[pT b1,pT b2]/\ae W b1 59 #[S (nS t0.1),S (nS t0.2)]/\ae W b2 103 #[f]
def rP.ext {t0:N2}{f v:Value}(k:a8 A B)(h:rP t0 f A v):rP t0 f B v:=by
 obtain⟨b1,b2,e,h1,D⟩:=h
 exact⟨b1,b2,e,h1.ext k,D.ext k⟩
def mX (q:Bool)(t l:N2):Bool:=q&&(decide (t.2<=2)&&decide (t.2*2<=l.2+2))
section
variable {q:Bool}{t l:N2}
def Lj (h:q=false):Value.bool q=.bool (mX q t l):=by subst h;rfl
def Lk (h:q=true)(h1:¬aw ((t.2:Nat):Int) ((2:Nat):Int)<=0):Value.bool false=.bool (mX q t l):=by
 rw[bw]at h1;subst h;unfold mX;rw[decide_eq_false U];rfl
def Ll (h:q=true)(h1:aw ((t.2:Nat):Int) ((2:Nat):Int)<=0):Value.bool (decide (aw ((t.2*2:Nat):Int) ((l.2+2:Nat):Int)<=0))=.bool (mX q t l):=by
 rw[bw]at h1;subst h;unfold mX;rw[decide_eq_true (show t.2<=2 by omega),Bool.true_and,Bool.true_and]
 congr 1;rw[decide_eq_decide,bw];omega
end
def pQ (T:Nat->N2):Nat->N2
 |0=>(0,0)
 |k+1=>T k
def pO.last {T:Nat->N2}(h:pO T m)(hk:k<=m):mX (decide (k≠0)) (T k) (pQ T k)=decide (k=m):=by
 unfold mX
 by_cases e:k=m
 · subst e
   have D:=h.pos
   obtain⟨p,rfl⟩:∃p,k=p+1:=⟨k-1,by omega⟩
   have:=h.stop
   rw[decide_eq_true U,decide_eq_true this.1,decide_eq_true (show(T (p+1)).2*2<=(pQ T (p+1)).2+2 from this.2),decide_eq_true Z];rfl
 · rw [decide_eq_false e]
   rcases h.go k U with h0|h0
   · rw[decide_eq_false U];rfl
   · cases k with
     |zero=>rfl
     | succ p=>
       have h1:¬((T (p+1)).2<=2/\(T (p+1)).2*2<=(pQ T (p+1)).2+2):=h0
       by_cases h2:(T (p+1)).2<=2
       · rw[decide_eq_false (λe=>h1 ⟨h2,e⟩)];simp
       · rw[decide_eq_false h2];simp
def Ai {l m:List UInt8}(hl:l=nS a)(hm:m=nS b)(ha:Fi a)(hb:Fi b):CL 21 #[S l,S m] w (aH w λv _=>v=.int .i64 (aw (a:Int) (b:Int))):=by
 subst hl hm
 exact gT (lH _ _ _) (qb1 (Value.int .i64) (pp ha.z hb.z))
def mY (hS:Sc sO)(ht:Tb w):CL 41 #[.agg #[.int .i64 pl,S (nS sO)],.int .i64 0] w (aH w λv _=>v=.agg #[S (nS 0),S (nS 0)]):=by
 have h:=eV (n:=0) (pl:=pl) hS dc (by rw[Nat.zero_mul];unfold Fi;decide) ht
 simp only[Nat.zero_mul]at h
 exact h
def jZ {t0:N2}{g:Nat}:
 CL 82 #[.agg #[S (nS t0.1),S (nS t0.2)],.func (.func g) #[] lb] w (aH w λv w'=>rP t0 (fv g lb) w' v):=by
 refine aC func82 Z (I ?_);refine bx (λH kk D=>?_);have E:=kk.2;refine bx (v:=.func (.func g) #[] lb) (hx:=rfl) (λ_ G O=>?_);have D:=be G.2 D;have E:=xt E G.2;refine ab (bJ (v:=.nilFunc) Z ?_);refine I ?_;refine ab (bE (vf:=[]) (vc:=[pT w.heap.size,pT H.heap.size]) Z Z ?_);refine I ?_;exact an (t:=4) (v:=.func (.func 136) #[] #[pT w.heap.size,pT H.heap.size]) Z E ⟨_,_,rfl,D,O⟩ Z
def C4 {q:Bool}{t l:N2}(h1:ae w b1 4 #[.bool q])(h2:ae w b2 59 #[S (nS l.1),S (nS l.2)])(ht2:Bk 99 t)(hl:Bk 99 l)(ht:Tb w):
 CL 135 #[.agg #[S (nS t.1),S (nS t.2)],pT b1,pT b2] w (aH w λv w'=>v=.bool (mX q t l)):=by
 have G:=(ht2.fi dc).2;have O:Fi (t.2*2):=by have:=ht2.2;unfold Fi;omega
 have H:Fi (l.2+2):=by have:=hl.2;unfold Fi;omega
 refine aC func135 Z (I ?_);refine bx (λ_ E _=>?_);have h1:=be E.2 h1;have h2:=be E.2 h2;have D:=E.2;refine I ?_;rcases qa4 q with cm|cm;by_cases cr:(aw ((t.2:Nat):Int) ((2:Nat):Int))<=0;refine bB 13 ?_;refine sf ?_;refine ay (V:=.int .i64 (aw ((t.2:Nat):Int) ((2:Nat):Int))) (λ_ _ _ _=>?_) ?_;refine I ?_;refine clb i8 (hc:=Ai Z jl G (bT (k:=1) dc dc)) (hk:=?_);rintro _ _ A1 rfl;have Ao:=A1.2;refine I ?_;exact fs ⟨Ao,rfl⟩;refine sf ?_;refine ay (V:=S (nS (t.2*2))) (λ_ _ Af _=>?_) ?_;refine I ?_;refine clb k6 (hc:=ez Z jl G (bT (k:=1) dc dc) O (ht.ext (xt D Af))) (hk:=?_);rintro _ _ kd rfl;have g:=kd.2;refine I ?_;exact fs ⟨g,rfl⟩;refine sf ?_;intro _ _ Ab _;have D:=xt D Ab.2;with_reducible refine ml Z ?_
 refine I ?_;refine cl gv (ik Z jl H (ht.ext D)) ?_;rintro _ _ kk rfl;have D:=xt D kk.2;refine I ?_;refine cl i8 (Ai Z Z O H) ?_;rintro _ _ A2 rfl;have D:=xt D A2.2;refine I ?_;exact an (t:=4) (v:=.bool (decide ((aw ((t.2*2:Nat):Int) ((l.2+2:Nat):Int))<=0))) Z D (Ll cm cr) Z;refine bB 13 ?_;refine sf ?_;refine ay (V:=.int .i64 (aw ((t.2:Nat):Int) ((2:Nat):Int))) (λ_ _ _ _=>?_) ?_;refine I ?_;refine clb i8 (hc:=Ai Z jl G (bT (k:=1) dc dc)) (hk:=?_);rintro _ _ Am rfl;have Ap:=Am.2;refine I ?_;exact fs ⟨Ap,rfl⟩;refine sf ?_;intro _ _ Ad _;have D:=xt D Ad.2;with_reducible refine ml Z ?_
 refine I ?_;exact an (t:=4) (v:=.bool false) Z D (Lk cm cr) Z;refine bB 13 ?_;refine sf ?_;intro _ _ Aq _;have D:=xt D Aq.2;with_reducible refine ml Z ?_
 refine I ?_;exact an (t:=4) (v:=.bool false) Z D ((qb1 Value.bool cm).symm.trans (Lj cm)) Z
def C5 {P:Program}{vs:List Value}{R:Ending->World->Prop}(h:Calls P f (vs.toArray++lb) w R):Calls P f (vs++lb.toList).toArray w R:=by rw[show(vs++lb.toList).toArray=vs.toArray++lb from Array.toList_inj.1 Vk];exact h
def u4 {T:Nat->N2}(E:a8 w0 w)(h1:ae w0 b1 59 #[S (nS (T 0).1),S (nS (T 0).2)])(h2:ae w0 b2 103 #[fv gn lbn])(hbs:∀b∈bs,w0.heap.size<=b/\b<w.heap.size)(hen:Enters prog gn)(hm:m<100000)(hn:∀k<m,∀W,a8 w0 W->CL gn (#[vN (T k),.int .i64 ((k+1:Nat):Int)]++lbn) W (aH W λv _=>v=vN (T (k+1)))):
 ES prog 136 [pT b1,pT b2] (λk=>[vN (T k)]) bs (λW=>a8 w0 W) (m+1) w:=by
 intro l k3 Jx W hW hJ0 hJx0 hM hY G;have E:=xt E hW;have zE:=bz E;have M5:=bt h1;have Kp:=bt h2;have h1:=be E h1;have h2:ae W b2 103 #[.func (.func gn) #[] lbn]:=be E h2;have M1:=bz hW;obtain⟨hW0,_⟩:∃n,n=W.heap.size:=⟨_,rfl⟩;refine qe ?_;have zW:=bz hW;refine EC func136 Z (I ?_);have M6:=bt h1;have wr:=bt h2;refine bB 3 ?_;refine bj (λ_ _ Af _=>by have h1:=be Af h1;have G:=(hJ0 _).ext Af G;refine I ?_;exact bY) ?_;refine da (λv Av=>∃b:Nat,v=pT b/\W.heap.size<=b/\ae Av b 59 #[S [],S []]) (hs:=λ_ _ _ k ⟨b,e,l,h⟩=>⟨b,e,l,h.ext k⟩) (λ_ _ Ao _=>?_) ?_;have G:=(hJ0 _).ext Ao G;refine al aI (λ_ Ap E9=>?_);have G:=(hJ0 _).ext Ap.2 G;have ny:=Ap.2;refine I ?_;exact fs ⟨ny,⟨_,rfl,(by have:=bz Ao;omega),E9⟩⟩;refine bj (λ_ _ Ay _=>by have G:=(hJ0 _).ext Ay G;refine I ?_;exact bY) ?_;refine sf ?_;intro _ _ A2 od;have h1:=be A2.2 h1;have h2:=be A2.2 h2;have G:=(hJ0 _).ext A2.2 G;have E:=xt E A2.2;obtain⟨D2,EW,_,Aq⟩:=(od 1 5 Z Z);have M8:=bt Aq;refine SA Aq (λ_ kk B1=>?_);have h1:=pb kk h1;have h2:=pb kk h2;have G:=(hJ0 _).put kk U G;have E:=eK kk E;have M0:=dX kk;refine I ?_;refine cM [(4,5),(7,16)] (λE1 e W=>∃k:Nat,∃Ad:Nat,(m+1-k=E1)/\(e 4=.int .i64 ((k+1:Nat):Int))/\(e 5=pT Ad)/\(hW0<=Ad)/\(a8 w0 W)/\(ae W b1 59 #[S (nS ((T 0).1)),S (nS ((T 0).2))])/\(ae W b2 103 #[.func (.func gn) #[] lbn])/\(ae W Ad 59 #[S (nS ((T k).1)),S (nS ((T k).2))])/\(k3 k W)) (m+1-0) ⟨0,D2,rfl,rfl,EW,U,E,h1,h2,B1,G⟩ ?_
 rintro _ _ Aw ⟨k,Ad,rfl,M7,K2,M3,D,h1,h2,H,Am⟩;have L2:=bz D;have hkM:=hM _ _ Am;have M2:=bt H;refine I ?_;refine ab (vD (l:=l) (vs:=[vN (T k)]) Z (aA Z Z) (hY k Aw Am) ?_);rintro _ _ B2;obtain⟨q,rfl,E4,As⟩:=mR B2;show wpListIn _ _ _ _ _ _ _ _;refine I ?_;refine qX (q:=q) Z (λAr=>?_) (λAr=>?_);obtain⟨hJ,hC,hK⟩:=E4 Ar;have h1:=hC.blk (λh=>by have:=hbs _ h;omega) h1;have h2:=hC.blk (λh=>by have:=hbs _ h;omega) h2;have H:=hC.blk (λh=>by have:=hbs _ h;omega) H;have D:=hK D;have zC:=hC.size;have M9:=hM _ _ hJ;have M4:=bz D;refine I ?_;refine ab (vS (vs:=[.agg #[S (nS ((T k).1)),S (nS ((T k).2))],.int .i64 ((k+1:Nat):Int)]) (lb:=lbn.toList) hen Z Z (C5 (hn k U _ D)) ?_);rintro _ _ A1 rfl;have h1:=be A1.2 h1;have h2:=be A1.2 h2;have H:=be A1.2 H;have hJ:=(hJ0 _).ext A1.2 hJ;have D:=xt D A1.2;refine SA H (λE7 g Ab=>?_);have h1:=pb g h1;have h2:=pb g h2;have hJ:=(hJ0 _).put g U hJ;have D:=eK g D;have Ix:=dX g;refine I ?_;refine al aI (λ_ kd Ax=>?_);have h1:=be kd.2 h1;have h2:=be kd.2 h2;have Ab:=be kd.2 Ab;have hJ:=(hJ0 _).ext kd.2 hJ;have D:=xt D kd.2;refine SA Ax (λ_ O D1=>?_);have h1:=pb O h1
 have h2:=pb O h2;have Ab:=pb O Ab;have hJ:=(hJ0 _).put O U hJ;have D:=eK O D;have MA:=dX O;refine I ?_;refine xl (I ?_);exact bQ ⟨k+1,E7.heap.size,rfl,rfl,rfl,U,D,h1,h2,D1,hJ⟩;refine I ?_;exact vE Z λv=>⟨⟨v,rfl⟩,_,As VB⟩
def C6 {T:Nat->N2}(h:pO T m)(hk:k<=m):Bk 99 (pQ T k):=by
 cases k with
 |zero=>exact⟨by simp[pQ],by simp[pQ]⟩
 |succ p=>exact(h.bd p U).mono dc
set_option maxRecDepth 100000 in
def pt {T:Nat->N2}(hR:pO T m)(hS:Sc sO)(hB1:ae w b1 59 #[S (nS (T 0).1),S (nS (T 0).2)])(hB2:ae w b2 103 #[fv gn lbn])(hen:Enters prog gn)(hn:∀k<m,∀W,a8 w W->CL gn (#[vN (T k),.int .i64 ((k+1:Nat):Int)]++lbn) W (aH W λv _=>v=vN (T (k+1))))(ht:Tb w):
 CL 81 #[.agg #[.int .i64 pl,S (nS sO)],.func (.func 136) #[] #[pT b1,pT b2]] w (aH w λv w'=>v=.agg #[S (nS ((nn T m).1)),S (nS ((nn T m).2))]):=by
 refine qd func81 Z (I ?_);refine bx (λIx OE N3=>?_);have G:=OE.2;refine al aI (λMJ Oe OU=>?_);have⟨N3,G⟩:=bn Oe.2 N3 G;refine I ?_;have MN:=ab1 MJ
 refine kA mj 7 (λe0 ls e W=>∃Ad:Nat,∃A2:Nat,∃A1:Nat,(∀t,pY [5,6,7,10,11,12,13] t=false->e t=e0 t)/\(a8 w W)/\(MJ.heap.size<=W.heap.size)/\(ls 0=true->e 10=.agg #[.int .i64 pl,S (nS sO)])/\(ls 1=true->e 11=.agg #[S (nS 0),S (nS 0)])/\(ls 2=true->e 12=.agg #[.int .i64 pl,S (nS sO)])/\(ls 3=true->e 13=.agg #[S (nS 0),S (nS 0)])/\(ls 4=true->e 5=pT Ad)/\(ls 5=true->e 6=pT A2)/\(ls 6=true->e 7=pT A1)/\(ls 4=true->MJ.heap.size<=Ad)/\(ls 5=true->MJ.heap.size<=A2)/\(ls 6=true->MJ.heap.size<=A1)/\(ls 4=true->ls 5=true->Ad≠A2)/\(ls 4=true->ls 6=true->Ad≠A1)/\(ls 5=true->ls 6=true->A2≠A1)/\(ae W w.heap.size 45 #[.int .i64 pl,S (nS sO)])/\(ae W Ix.heap.size 59 #[S [],S []])/\(ls 4=true->ae W Ad 59 #[S [],S []])/\(ls 5=true->ae W A2 59 #[S [],S []])/\(ls 6=true->ae W A1 4 #[.bool false])) ⟨0,0,0,(λ_ _=>rfl),(xt G MN),(bz MN),(ff Z),(ff Z),(ff Z),(ff Z),(ff Z),(ff Z),(ff Z),(ff Z),(ff Z),(ff Z),(λh _=>ff Z h),(λh _=>ff Z h),(λh _=>ff Z h),(be MN N3),(be MN OU),(λh=>ff Z h),(λh=>ff Z h),(λh=>ff Z h)⟩ q0 q0 ?_ ?_;refine⟨λOP Nb NO OV NS OX _=>?_,?_⟩;obtain⟨Ad,A2,A1,NW,G,MC,Av,Aw,B2,Ax,Ay,D2,D1,B1,ny,od,K2,Jx,E1,Ar,As,Ao,Ap,Aq⟩:=OV
 obtain⟨OP,rfl⟩:=cz NW;have Om:NO 1=false:=(bK NS (i:=0) (j:=1) Z OX);have Pd:NO 3=false:=(bK NS (i:=1) (j:=3) Z Om);have PV:=bz G;have NL:ae Nb w.heap.size 45 #[.int .i64 pl,S (nS sO)]:=Ar;have PL:=bt NL;have NF:ae Nb Ix.heap.size 59 #[S [],S []]:=As;have Pe:=bt NF;refine I ?_;exact⟨rfl,_,(ai _ _ _ _ _).symm,Ad,A2,A1,(ap Z NW),G,U,(λ_=>rfl),Aw,B2,Ax,Ay,D2,D1,B1,ny,od,K2,Jx,E1,(NL),(NF),(λOo=>Ao Oo),(λOS=>Ap OS),(λOf=>Aq Of)⟩;refine⟨λNP NC NG Ny Oa Nm O6=>?_,?_⟩;obtain⟨Ad,A2,A1,NM,G,MC,Av,Aw,B2,Ax,Ay,D2,D1,B1,ny,od,K2,Jx,E1,Ar,As,Ao,Ap,Aq⟩:=Ny;obtain⟨NP,rfl⟩:=cz NM;have Nk:NG 0=true:=(O6 0 Z);have Oy:NG 3=false:=(bK Oa (i:=1) (j:=3) Z Nm);have OO:NP 10=.agg #[.int .i64 pl,S (nS sO)]:=Av Nk;have PC:=bz G;have MU:ae NC w.heap.size 45 #[.int .i64 pl,S (nS sO)]:=Ar;have P9:=bt MU;have MW:ae NC Ix.heap.size 59 #[S [],S []]:=As;have PM:=bt MW;refine cl jG (mY hS (ht.ext G)) ?_ (aA OO (aA Z Z));rintro _ _ MZ rfl;have⟨MU,MW,G⟩:=aP MZ.2 MU MW G;refine I ?_
 exact⟨rfl,_,(ai _ _ _ _ _).symm,Ad,A2,A1,(ap Z NM),G,U,Av,(λ_=>rfl),B2,Ax,Ay,D2,D1,B1,ny,od,K2,Jx,E1,(MU),(MW),(λOW=>(be MZ.2 (Ao OW))),(λOj=>(be MZ.2 (Ap Oj))),(λOh=>(be MZ.2 (Aq Oh)))⟩;refine⟨λOG NQ Nq OQ OM OF _=>?_,?_⟩;obtain⟨Ad,A2,A1,NZ,G,MC,Av,Aw,B2,Ax,Ay,D2,D1,B1,ny,od,K2,Jx,E1,Ar,As,Ao,Ap,Aq⟩:=OQ;obtain⟨OG,rfl⟩:=cz NZ;have PK:Nq 3=false:=(bK OM (i:=2) (j:=3) Z OF);have P2:=bz G;have NN:ae NQ w.heap.size 45 #[.int .i64 pl,S (nS sO)]:=Ar;have PT:=bt NN;have NJ:ae NQ Ix.heap.size 59 #[S [],S []]:=As;have PS:=bt NJ;refine I ?_;exact⟨rfl,_,(ai _ _ _ _ _).symm,Ad,A2,A1,(ap Z NZ),G,U,Av,Aw,(λ_=>rfl),Ax,Ay,D2,D1,B1,ny,od,K2,Jx,E1,(NN),(NJ),(λOL=>Ao OL),(λOC=>Ap OC),(λOg=>Aq Og)⟩;refine⟨λNH NR N6 O2 OJ _ NE=>?_,?_⟩;obtain⟨Ad,A2,A1,NK,G,MC,Av,Aw,B2,Ax,Ay,D2,D1,B1,ny,od,K2,Jx,E1,Ar,As,Ao,Ap,Aq⟩:=O2;obtain⟨NH,rfl⟩:=cz NK;have Nx:N6 1=true:=(NE 1 Z);have Ov:N6 0=true:=(OJ 1 0 Z Nx);have Nv:N6 2=true:=(NE 2 Z);have Nj:NH 12=.agg #[.int .i64 pl,S (nS sO)]:=B2 Nv;have PU:=bz G;have MS:ae NR w.heap.size 45 #[.int .i64 pl,S (nS sO)]:=Ar;have PI:=bt MS;have MM:ae NR Ix.heap.size 59 #[S [],S []]:=As
 have PX:=bt MM;refine cl jG (mY hS (ht.ext G)) ?_ (aA Nj (aA Z Z));rintro _ _ MQ rfl;have⟨MS,MM,G⟩:=aP MQ.2 MS MM G;refine I ?_;exact⟨rfl,_,(ai _ _ _ _ _).symm,Ad,A2,A1,(ap Z NK),G,U,Av,Aw,B2,(λ_=>rfl),Ay,D2,D1,B1,ny,od,K2,Jx,E1,(MS),(MM),(λNi=>(be MQ.2 (Ao Ni))),(λO7=>(be MQ.2 (Ap O7))),(λNh=>(be MQ.2 (Aq Nh)))⟩;refine⟨λOq NA _ OB _ _ _=>?_,?_⟩;obtain⟨Ad,A2,A1,NV,G,MC,Av,Aw,B2,Ax,Ay,D2,D1,B1,ny,od,K2,Jx,E1,Ar,As,Ao,Ap,Aq⟩:=OB;obtain⟨Oq,rfl⟩:=cz NV;have P7:=bz G;have MV:ae NA w.heap.size 45 #[.int .i64 pl,S (nS sO)]:=Ar;have PG:=bt MV;have Mz:ae NA Ix.heap.size 59 #[S [],S []]:=As;have PO:=bt Mz;refine al aI (λ_ N1 Nt=>?_);have⟨MV,Mz,G⟩:=aP N1.2 MV Mz G;refine I ?_;exact⟨rfl,_,(ai _ _ _ _ _).symm,NA.heap.size,A2,A1,(ap Z NV),G,U,Av,Aw,B2,Ax,(λ_=>rfl),D2,D1,(λ_=>U),ny,od,(λ_ Nl=>(by have:=bt (Ap Nl);omega)),(λ_ Ns=>(by have:=bt (Aq Ns);omega)),E1,(MV),(Mz),(λ_=>Nt),(λarr=>(be N1.2 (Ap arr))),(λOn=>(be N1.2 (Aq On)))⟩;refine⟨λO1 N9 _ OT _ _ _=>?_,?_⟩;obtain⟨Ad,A2,A1,NY,G,MC,Av,Aw,B2,Ax,Ay,D2,D1,B1,ny,od,K2,Jx,E1,Ar,As,Ao,Ap,Aq⟩:=OT;obtain⟨O1,rfl⟩:=cz NY;have Pk:=bz G
 have My:ae N9 w.heap.size 45 #[.int .i64 pl,S (nS sO)]:=Ar;have Po:=bt My;have MO:ae N9 Ix.heap.size 59 #[S [],S []]:=As;have P3:=bt MO;refine al aI (λ_ N0 O3=>?_);have⟨My,MO,G⟩:=aP N0.2 My MO G;refine I ?_;exact⟨rfl,_,(ai _ _ _ _ _).symm,Ad,N9.heap.size,A1,(ap Z NY),G,U,Av,Aw,B2,Ax,Ay,(λ_=>rfl),D1,B1,(λ_=>U),od,(λO9 _=>(by have:=bt (Ao O9);omega)),Jx,(λ_ Ob=>(by have:=bt (Aq Ob);omega)),(My),(MO),(λOi=>(be N0.2 (Ao Oi))),(λ_=>O3),(λOA=>(be N0.2 (Aq OA)))⟩;refine⟨λOd N8 _ O8 _ _ _=>?_,?_⟩;obtain⟨Ad,A2,A1,NI,G,MC,Av,Aw,B2,Ax,Ay,D2,D1,B1,ny,od,K2,Jx,E1,Ar,As,Ao,Ap,Aq⟩:=O8;obtain⟨Od,rfl⟩:=cz NI;have Pq:=bz G;have MP:ae N8 w.heap.size 45 #[.int .i64 pl,S (nS sO)]:=Ar;have Pf:=bt MP;have MY:ae N8 Ix.heap.size 59 #[S [],S []]:=As;have P0:=bt MY;refine al KD (λ_ N4 Nu=>?_);have⟨MP,MY,G⟩:=aP N4.2 MP MY G;refine I ?_;exact⟨rfl,_,(ai _ _ _ _ _).symm,Ad,A2,N8.heap.size,(ap Z NI),G,U,Av,Aw,B2,Ax,Ay,D2,(λ_=>rfl),B1,ny,(λ_=>U),K2,(λOI _=>(by have:=bt (Ao OI);omega)),(λOc _=>(by have:=bt (Ap Oc);omega)),(MP),(MY),(λOY=>(be N4.2 (Ao OY))),(λOH=>(be N4.2 (Ap OH))),(λ_=>Nu)⟩;exact trivial;intro MI MK _ Am Ol
 obtain⟨Ad,A2,A1,O4,G,MC,Av,Aw,B2,Ax,Ay,D2,D1,B1,ny,od,K2,Jx,E1,Ar,As,Ao,Ap,Aq⟩:=Ol;obtain⟨MI,rfl⟩:=cz O4;have Pb:=bz G;have Pi:=B1 (Am 4 Z);have at8:=ny (Am 5 Z);have at9:=od (Am 6 Z);have PR:=K2 (Am 4 Z) (Am 5 Z);have PF:=Jx (Am 4 Z) (Am 6 Z);have Pj:=E1 (Am 5 Z) (Am 6 Z);have E4:ae MK w.heap.size 45 #[.int .i64 pl,S (nS sO)]:=Ar;have PE:=bt E4;have E9:ae MK Ix.heap.size 59 #[S [],S []]:=As;have PH:=bt E9;have NB:ae MK Ad 59 #[S [],S []]:=Ao (Am 4 Z);have Pn:=bt NB;have MR:ae MK A2 59 #[S [],S []]:=Ap (Am 5 Z);have PN:=bt MR;have MF:ae MK A1 4 #[.bool false]:=Aq (Am 6 Z);have Ou:=bt MF;have PP:MI 5=pT Ad:=(Ay (Am 4 Z));have Pm:MI 11=.agg #[S (nS 0),S (nS 0)]:=(Aw (Am 1 Z));refine SA NB (λ_ OK wr=>?_);have⟨E4,E9,MR,MF,G,_⟩:=ka OK E4 E9 MR MF G;have Nc:MI 6=pT A2:=(D2 (Am 5 Z));have PW:MI 13=.agg #[S (nS 0),S (nS 0)]:=(Ax (Am 3 Z));refine SA MR (λ_ Nf MB=>?_);have⟨E4,E9,wr,MF,G,_⟩:=ka Nf E4 E9 wr MF G;have Ne:MI 7=pT A1:=(D1 (Am 6 Z));refine SO MF (λN7 No ME=>?_);have⟨E4,E9,wr,MB,G,_⟩:=ka No E4 E9 wr MB G;refine I ?_;refine ab (bE (vf:=[]) (vc:=[pT A1,pT A2]) Z (aA Ne (aA Nc Z)) ?_);refine al B0 (λ_ Ot Nw=>?_);have⟨E4,E9,wr,MB,ME,G⟩:=lk Ot.2 E4 E9 wr MB ME G
 refine SO Nw (λMX OD NX=>?_);have⟨E4,E9,wr,MB,ME,G,_⟩:=xV OD E4 E9 wr MB ME G;refine I ?_;have PD:=bt wr;have Pg:=bt MB;have PQ:=bt ME;have Oz:=bt E4;have PY:=bt E9;have Ox:=bt NX
 refine Ah (M:=m+1) (enc:=λk=>[vN (T k)]) (bs:=[Ad,A2,A1]) (Kq:=λW=>a8 w W) (gf:=136) (lb:=[pT b1,pT b2]) (ps:=[16]) Z F1 (u4 (T:=T) (m:=m) G hB1 hB2 ?hbs hen VQ hn) ⟨λH E=>xt E H,λH hb E=>eK H E⟩ (λ_=>rfl) (λk W=>k<=m/\MX.heap.size<=W.heap.size/\(a8 w W)/\(ae W Ad 59 #[S (nS ((lQ T k).1)),S (nS ((lQ T k).2))])/\(ae W A2 59 #[S (nS ((pQ T k).1)),S (nS ((pQ T k).2))])/\(ae W A1 4 #[.bool (decide (k≠0))])/\(ae W w.heap.size 45 #[.int .i64 pl,S (nS sO)])/\(ae W Ix.heap.size 59 #[S [],S []])/\(ae W N7.heap.size 145 #[.func (.func 135) #[] #[pT A1,pT A2]])) (λc k W=>c=.exit 0/\MX.heap.size<=W.heap.size/\(a8 w W)/\(ae W Ad 59 #[S (nS ((nn T m).1)),S (nS ((nn T m).2))])/\(ae W w.heap.size 45 #[.int .i64 pl,S (nS sO)])/\(ae W Ix.heap.size 59 #[S [],S []])/\(ae W N7.heap.size 145 #[.func (.func 135) #[] #[pT A1,pT A2]])) (λk=>⟨λH ⟨E7,L2,E,Ab,h1,kk,O,kd,g⟩=>⟨E7,qa8 L2 (bz H),xt E H,be H Ab,be H h1,be H kk,be H O,be H kd,be H g⟩,λH hb ⟨E7,L2,E,Ab,h1,kk,O,kd,g⟩=>⟨E7,(by rw[H.size];exact L2),eK H E,pb H Ab,pb H h1,pb H kk,pb H O,pb H kd,pb H g⟩⟩) (λc k=>⟨λH ⟨E7,L2,E,Ab,h1,kk,O⟩=>⟨E7,qa8 L2 (bz H),xt E H,be H Ab,be H h1,be H kk,be H O⟩,λH hb ⟨E7,L2,E,Ab,h1,kk,O⟩=>⟨E7,(by rw[H.size];exact L2),eK H E,pb H Ab,pb H h1,pb H kk,pb H O⟩⟩) (λk W h=>by have:=h.1;omega) ?Ab (λe k e' W=>∃MH:Nat,e'=upd (iJ e [16] [vN (T k)]) 9 (pT MH)/\MX.heap.size<=MH/\ae W MH 59 #[S (nS (T k).1),S (nS (T k).2)]/\(λk W=>k<=m/\MX.heap.size<=W.heap.size/\(a8 w W)/\(ae W Ad 59 #[S (nS ((lQ T k).1)),S (nS ((lQ T k).2))])/\(ae W A2 59 #[S (nS ((pQ T k).1)),S (nS ((pQ T k).2))])/\(ae W A1 4 #[.bool (decide (k≠0))])/\(ae W w.heap.size 45 #[.int .i64 pl,S (nS sO)])/\(ae W Ix.heap.size 59 #[S [],S []])/\(ae W N7.heap.size 145 #[.func (.func 135) #[] #[pT A1,pT A2]])) k W) ?hA ?asn ?body ?stop
 case hbs=>
  intro b hb;simp only[List.mem_cons,List.not_mem_nil,or_false]at hb;rcases hb with rfl|rfl|rfl <;>constructor <;>omega
 case Ab=>
  exact⟨qa7 _,qa0 _,G,wr,MB,ME,E4,E9,NX⟩
 case hA=>
  rintro k e' W b r O5 hb hl ⟨MH,Np,NU,Af,E7,L2,E,Ab,h1,kk,O,kd,g⟩;have H:=eW W b (.loop O5);have MD:∀{c t cs},ae W c t cs->c≠b:=λh e=>by subst e;unfold ae at h;rw[hl]at h;cases h
  exact⟨MH,Np,NU,aa5 H (MD Af) Af,E7,(by rw[H.size];exact L2),eK H E,aa5 H (MD Ab) Ab,aa5 H (MD h1) h1,aa5 H (MD kk) kk,aa5 H (MD O) O,aa5 H (MD kd) kd,aa5 H (MD g) g⟩
 case asn=>
  rintro l k W K ⟨E7,L2,E,Ab,h1,kk,O,kd,g⟩ hK;have EW:=aa4 W;refine I ?_;refine al aI (λ_ MA ON=>?_);have Ab:=be MA.2 Ab;have h1:=be MA.2 h1;have kk:=be MA.2 kk;have O:=be MA.2 O;have kd:=be MA.2 kd;have g:=be MA.2 g;have E:=xt E MA.2;have EW:=xt EW MA.2;refine SA ON (λ_ M8 Nr=>?_);have Ab:=pb M8 Ab;have h1:=pb M8 h1;have kk:=pb M8 kk;have O:=pb M8 O;have kd:=pb M8 kd;have g:=pb M8 g;have E:=eK M8 E;have P1:=dX M8;have EW:=eK M8 EW;refine I ?_;exact hK _ _ EW ⟨_,rfl,U,Nr,E7,(by have:=bz EW;omega),E,Ab,h1,kk,O,kd,g⟩
 case body=>
  rintro l k e' W ⟨MH,rfl,NU,Af,E7,L2,E,Ab,h1,kk,O,kd,g⟩;have Kp:=dD.refl [Ad,A2,A1] W;have zW:=bz E;have ML:=E7;have P5:=bt Af;have NT:=ab7 Ab;have ND:=ab7 h1;have Na:=ab7 kk;have fT1:Bk 99 (dA (lQ T k) (T k)):=hR.tot (k:=k+1) U;refine I ?_;refine clb uo (hc:=mB (fT1.fi dc).1 (fT1.fi dc).2 (ht.ext E)) (hk:=?_);rintro _ _ M5 rfl;have Ab:=be M5.2 Ab;have h1:=be M5.2 h1;have kk:=be M5.2 kk;have O:=be M5.2 O;have kd:=be M5.2 kd;have g:=be M5.2 g;have Af:=be M5.2 Af;have E:=xt E M5.2;have Kp:=ab5 Kp M5.2;refine SA Ab (λ_ M1 M0=>?_);have h1:=pb M1 h1;have kk:=pb M1 kk;have O:=pb M1 O;have kd:=pb M1 kd;have g:=pb M1 g;have Af:=pb M1 Af;have E:=eK M1 E;have Kp:=ab6 Kp M1 Vg;have P6:=dX M1;refine I ?_;refine ab (vS (vs:=[.agg #[S (nS ((T k).1)),S (nS ((T k).2))]]) (lb:=[pT A1,pT A2]) F0 Z Z (cB (C4 kk h1 ((hR.bd k ML).mono dc) (C6 hR ML) (ht.ext E)) (hR.last ML)) ?_);rintro _ _ M3 rfl;have M0:=be M3.2 M0;have h1:=be M3.2 h1;have kk:=be M3.2 kk;have O:=be M3.2 O
  have kd:=be M3.2 kd;have g:=be M3.2 g;have Af:=be M3.2 Af;have E:=xt E M3.2;have Kp:=ab5 Kp M3.2;refine I ?_;by_cases ap2:k=m;refine I ?_;refine bB 5 ?_;refine sf ?_;refine ay (V:=S (nS (((T k).2)+4))) (λ_ _ OR _=>?_) ?_;refine clb gv (hc:=ik Z G9 VK (ht.ext (xt E OR))) (hk:=?_);rintro _ _ OZ rfl;have O0:=OZ.2;refine I ?_;exact fs ⟨O0,rfl⟩;refine sf ?_;intro _ _ M9 _;have M0:=be M9.2 M0;have h1:=be M9.2 h1;have kk:=be M9.2 kk;have O:=be M9.2 O;have kd:=be M9.2 kd;have g:=be M9.2 g;have Af:=be M9.2 Af;have E:=xt E M9.2;have Kp:=ab5 Kp M9.2;refine clb gv (hc:=ik Z Z VK (ht.ext E)) (hk:=?_);rintro _ _ M4 rfl;have M0:=be M4.2 M0;have h1:=be M4.2 h1;have kk:=be M4.2 kk;have O:=be M4.2 O;have kd:=be M4.2 kd;have g:=be M4.2 g;have Af:=be M4.2 Af;have E:=xt E M4.2;have Kp:=ab5 Kp M4.2;refine I ?_;refine SO M0 (λ_ M7 Nn=>?_);have h1:=pb M7 h1;have kk:=pb M7 kk;have O:=pb M7 O;have kd:=pb M7 kd;have g:=pb M7 g;have Af:=pb M7 Af;have E:=eK M7 E
  have Kp:=ab6 Kp M7 Vg;have P8:=dX M7;refine I ?_;exact⟨Kp.others Vw,rfl,(by have:=Kp.size;omega),E,(by subst ap2;exact Nn),O,kd,g⟩;refine I ?_;refine SA h1 (λ_ M6 N5=>?_);have M0:=pb M6 M0;have kk:=pb M6 kk;have O:=pb M6 O;have kd:=pb M6 kd;have g:=pb M6 g;have Af:=pb M6 Af;have E:=eK M6 E;have Kp:=ab6 Kp M6 Vg;have PZ:=dX M6;refine SO kk (λ_ M2 Ng=>?_);have M0:=pb M2 M0;have N5:=pb M2 N5;have O:=pb M2 O;have kd:=pb M2 kd;have g:=pb M2 g;have Af:=pb M2 Af;have E:=eK M2 E;have Kp:=ab6 Kp M2 Vg;have Pp:=dX M2;refine I ?_;exact⟨Kp.others Vw,wv.of Kp,λ_=>E,U,(by have:=Kp.size;omega),E,M0,N5,(by rw[decide_eq_true U];exact Ng),O,kd,g⟩
 case stop=>
  rintro D c k W hD ⟨rfl,L2,E,Ab,h1,kk,O⟩ hK;have zW:=bz E;refine I ?_;refine SA kk (λ_ MG Nz=>?_);have Ab:=pb MG Ab;have h1:=pb MG h1;have O:=pb MG O;have hK:=j9.put MG (hK.ne kk) hK;have E:=eK MG E;have Ow:=dX MG;refine I ?_;refine gZ (v:=.agg #[S (nS ((nn T m).1)),S (nS ((nn T m).2))]) hK (cn  rfl ?_) ((dU _).low E U) Z;refine ah (t:=4) (cs:=[S (nS ((nn T m).1)),S (nS ((nn T m).2))]) (b:=Ix.heap.size) (o:=0) dw Z cD ?_ ?_;exact Z;exact aa0 (Nz.dfr hK) (i:=0) Z
def mZ {a:Int}(h:In64 a:=by unfold In64;omega):In64 a:=h
def cP {a:Array Value}{p q:N2}(h:CL f a w (aH w λv _=>v=.agg #[S (nS p.1),S (nS p.2)]))(e:p=q):CL f a w (aH w λv _=>v=.agg #[S (nS q.1),S (nS q.2)]):=e▸h
def C7 (h:b<a):0<aw (a:Int) (b:Int):=by rw[bM U];decide
def C8 (h:¬b<a):¬0<aw (a:Int) (b:Int):=by have:=(bw (x:=(a:Int)) (y:=(b:Int))).2 U;omega
def C9 {t x:N2}(hS:Sc sO)(hb1:ae w b1 45 #[.int .i64 pl,S (nS sO)])(hb2:ae w b2 59 #[S (nS x.1),S (nS x.2)])(htb:Bk 95 t)(hx:Bk 95 x)(h0:0<n)(hn:n<100000)(ht:Tb w):
 CL 83 #[.agg #[S (nS t.1),S (nS t.2)],.int .i64 n,pT b1,pT b2] w (aH w λv w'=>v=.agg #[S (nS ((z7 sO x n t).1)),S (nS ((z7 sO x n t).2))]):=by
 have Am:=bt hb1;have Ao:=bt hb2;refine aC func83 Z (I ?_);refine bx (λkd H E=>?_);have⟨hb1,hb2⟩:=iZ H.2 hb1 hb2;have D:=H.2;refine al aI (λ_ O G=>?_);have⟨hb1,hb2,E,D⟩:=br O.2 hb1 hb2 E D;refine I ?_;refine bB 6 ?_;refine sf ?_;refine ay (V:=.agg #[S (nS ((a7 sO t x).1)),S (nS ((a7 sO t x).2))]) (λ_ _ Ab _=>?_) ?_;refine cl gw (cS hS htb hx (ht.ext (xt D Ab))) ?_;rintro _ _ A1 rfl;have Af:=A1.2;refine I ?_;exact fs ⟨Af,rfl⟩;refine sf ?_;intro _ _ g _;have⟨hb1,hb2,E,G,D⟩:=dL g.2 hb1 hb2 E G D;refine clb fJ (hc:=eA (jW hS.pos htb hx) dc U U (ht.ext D)) (hk:=?_);rintro _ _ kk rfl;have⟨hb1,hb2,E,G,D⟩:=dL kk.2 hb1 hb2 E G D;refine SA G (λ_ Ad A2=>?_);have⟨hb1,hb2,E,D,_⟩:=fL Ad hb1 hb2 E D;refine I ?_;refine aK (v:=.agg #[S (nS ((ba (a7 sO t x) 1 n).1)),S (nS ((ba (a7 sO t x) 1 n).2))]) (cn  rfl ?_) D Z;refine ah (t:=6) (cs:=[S (nS ((ba (a7 sO t x) 1 n).1)),S (nS ((ba (a7 sO t x) 1 n).2))]) (b:=kd.heap.size) (o:=0) dw Z cD ?_ ?_;exact Z;exact aa0 A2 (i:=0) Z
def Da {t x:N2}(hS:Sc sO)(hb1:ae w b1 45 #[.int .i64 pl,S (nS sO)])(hb2:ae w b2 59 #[S (nS x.1),S (nS x.2)])(htb:Bk 95 t)(hx:Bk 95 x)(h0:0<n)(hn:n<100000)(ht:Tb w):
 CL 146 #[.agg #[S (nS t.1),S (nS t.2)],.int .i64 n,pT b1,pT b2] w (aH w λv w'=>v=.agg #[S (nS ((z8 sO x n t).1)),S (nS ((z8 sO x n t).2))]):=by
 have Ad:=bt hb1;have Af:=bt hb2;refine aC func146 Z (I ?_);refine bx (λny H E=>?_);have⟨hb1,hb2⟩:=iZ H.2 hb1 hb2;have D:=H.2;refine al aI (λ_ O G=>?_);have⟨hb1,hb2,E,D⟩:=br O.2 hb1 hb2 E D;refine I ?_;refine bB 11 ?_;refine sf ?_;refine ay (V:=.agg #[S (nS ((a7 sO t x).1)),S (nS ((a7 sO t x).2))]) (λ_ _ A2 _=>?_) ?_;refine cl gw (cS hS htb hx (ht.ext (xt D A2))) ?_;rintro _ _ g rfl;have od:=g.2;refine I ?_;exact fs ⟨od,rfl⟩;refine sf ?_;refine bj (λ_ _ _ _=>by refine ab (jp (a:=2) (b:=(n:Int)) (c:=((2*n:Nat):Int)) Z Z mZ U ?_);refine I ?_;exact bY) ?_;refine bj (λ_ _ _ _=>by refine ab (fg (a:=((2*n:Nat):Int)) (b:=1) (c:=((2*n-1:Nat):Int)) Z Z mZ U ?_);refine I ?_;exact bY) ?_;refine sf ?_;refine bj (λ_ _ _ _=>by refine ab (jp (a:=2) (b:=(n:Int)) (c:=((2*n:Nat):Int)) Z Z mZ U ?_);refine I ?_;exact bY) ?_;refine bj (λ_ _ _ _=>by refine ab (bb (a:=((2*n:Nat):Int)) (b:=1) (c:=((2*n+1:Nat):Int)) Z Z mZ U ?_);refine I ?_;exact bY) ?_;refine sf ?_;intro _ _ kd _;have⟨hb1,hb2,E,G,D⟩:=dL kd.2 hb1 hb2 E G D;refine clb fJ (hc:=eA (jW hS.pos htb hx) U U U (ht.ext D)) (hk:=?_)
 rintro _ _ kk rfl;have⟨hb1,hb2,E,G,D⟩:=dL kk.2 hb1 hb2 E G D;refine SA G (λ_ Ab A1=>?_);have⟨hb1,hb2,E,D,_⟩:=fL Ab hb1 hb2 E D;refine I ?_;refine aK (v:=.agg #[S (nS ((ba (a7 sO t x) (2*n-1) (2*n+1)).1)),S (nS ((ba (a7 sO t x) (2*n-1) (2*n+1)).2))]) (cn  rfl ?_) D Z;refine ah (t:=6) (cs:=[S (nS ((ba (a7 sO t x) (2*n-1) (2*n+1)).1)),S (nS ((ba (a7 sO t x) (2*n-1) (2*n+1)).2))]) (b:=ny.heap.size) (o:=0) dw Z cD ?_ ?_;exact Z;exact aa0 A1 (i:=0) Z
def Hg {t x:N2}(hS:Sc sO)(hb1:ae w b1 45 #[.int .i64 pl,S (nS sO)])(hb2:ae w b2 59 #[S (nS x.1),S (nS x.2)])(htb:Bk 95 t)(hx:Bk 95 x)(h0:0<n)(hn:n<100000)(ht:Tb w):
 CL 147 #[.agg #[S (nS t.1),S (nS t.2)],.int .i64 n,pT b1,pT b2] w (aH w λv w'=>v=.agg #[S (nS ((Js sO x n t).1)),S (nS ((Js sO x n t).2))]):=by
 have Am:=bt hb1;have Ao:=bt hb2;refine aC func147 Z (I ?_);refine bx (λAb H E=>?_);have⟨hb1,hb2⟩:=iZ H.2 hb1 hb2;have D:=H.2;refine al aI (λ_ O G=>?_);have⟨hb1,hb2,E,D⟩:=br O.2 hb1 hb2 E D;refine I ?_;refine bB 8 ?_;refine sf ?_;refine ay (V:=.agg #[S (nS ((a7 sO t x).1)),S (nS ((a7 sO t x).2))]) (λ_ _ Ad _=>?_) ?_;refine cl gw (cS hS htb hx (ht.ext (xt D Ad))) ?_;rintro _ _ A1 rfl;have A2:=A1.2;refine I ?_;exact fs ⟨A2,rfl⟩;refine sf ?_;refine bj (λ_ _ _ _=>by refine ab (jp (a:=2) (b:=(n:Int)) (c:=((2*n:Nat):Int)) Z Z mZ U ?_);refine I ?_;exact bY) ?_;refine bj (λ_ _ _ _=>by refine ab (bb (a:=((2*n:Nat):Int)) (b:=1) (c:=((2*n+1:Nat):Int)) Z Z mZ U ?_);refine I ?_;exact bY) ?_;refine sf ?_;intro _ _ g _;have⟨hb1,hb2,E,G,D⟩:=dL g.2 hb1 hb2 E G D;refine clb fJ (hc:=eA (jW hS.pos htb hx) dc U U (ht.ext D)) (hk:=?_);rintro _ _ kk rfl;have⟨hb1,hb2,E,G,D⟩:=dL kk.2 hb1 hb2 E G D;refine SA G (λ_ Af kd=>?_);have⟨hb1,hb2,E,D,_⟩:=fL Af hb1 hb2 E D;refine I ?_;refine aK (v:=.agg #[S (nS ((ba (a7 sO t x) 1 (2*n+1)).1)),S (nS ((ba (a7 sO t x) 1 (2*n+1)).2))]) (cn  rfl ?_) D Z
 refine ah (t:=6) (cs:=[S (nS ((ba (a7 sO t x) 1 (2*n+1)).1)),S (nS ((ba (a7 sO t x) 1 (2*n+1)).2))]) (b:=Ab.heap.size) (o:=0) dw Z cD ?_ ?_;exact Z;exact aa0 kd (i:=0) Z
def Aj {b3 fr:Nat}{t x:N2}(hS:Sc sO)(hb1:ae w b1 45 #[.int .i64 pl,S (nS sO)])(hb2:ae w b2 59 #[S (nS x.1),S (nS x.2)])(hb3:ae w b3 3 #[.int .i64 fr])(htb:Bk 95 t)(hx:Bk 95 x)(h0:0<n)(hn:n<100000)(hf:fr<100000)(ht:Tb w):
 CL 95 #[.agg #[S (nS t.1),S (nS t.2)],.int .i64 n,pT b1,pT b2,pT b3] w (aH w λv w'=>v=.agg #[S (nS ((Hc sO x fr n t).1)),S (nS ((Hc sO x fr n t).2))]):=by
 have Am:=bt hb1;have Ao:=bt hb2;have Af:=bt hb3;refine aC func95 Z (I ?_);refine bx (λAb H E=>?_);have⟨hb1,hb2,hb3⟩:=sk H.2 hb1 hb2 hb3;have D:=H.2;refine al aI (λ_ O G=>?_);have⟨hb1,hb2,hb3,E,D⟩:=dL O.2 hb1 hb2 hb3 E D;refine I ?_;refine bB 9 ?_;refine sf ?_;refine ay (V:=.agg #[S (nS ((a7 sO t x).1)),S (nS ((a7 sO t x).2))]) (λ_ _ Ad _=>?_) ?_;refine cl gw (cS hS htb hx (ht.ext (xt D Ad))) ?_;rintro _ _ kd rfl;have A1:=kd.2;refine I ?_;exact fs ⟨A1,rfl⟩;refine sf ?_;refine bj (λ_ _ _ _=>by refine ab (jp (a:=2) (b:=(n:Int)) (c:=((2*n:Nat):Int)) Z Z mZ U ?_);refine I ?_;exact bY) ?_;refine bj (λ_ _ _ _=>by refine ab (bb (a:=(fr:Int)) (b:=((2*n:Nat):Int)) (c:=((fr+2*n:Nat):Int)) Z Z mZ U ?_);refine I ?_;exact bY) ?_;refine sf ?_;intro _ _ A2 _;have⟨hb1,hb2,hb3,E,G,D⟩:=lk A2.2 hb1 hb2 hb3 E G D;refine clb fJ (hc:=eA (jW hS.pos htb hx) dc U U (ht.ext D)) (hk:=?_);rintro _ _ kk rfl;have⟨hb1,hb2,hb3,E,G,D⟩:=lk kk.2 hb1 hb2 hb3 E G D;refine SA G (λ_ g ny=>?_);have⟨hb1,hb2,hb3,E,D,_⟩:=ka g hb1 hb2 hb3 E D;refine I ?_;refine aK (v:=.agg #[S (nS ((ba (a7 sO t x) 2 (fr+2*n)).1)),S (nS ((ba (a7 sO t x) 2 (fr+2*n)).2))]) (cn  rfl ?_) D Z
 refine ah (t:=7) (cs:=[S (nS ((ba (a7 sO t x) 2 (fr+2*n)).1)),S (nS ((ba (a7 sO t x) 2 (fr+2*n)).2))]) (b:=Ab.heap.size) (o:=0) dw Z cD ?_ ?_;exact Z;exact aa0 ny (i:=0) Z
def ww {S:Nat}:∀{f h:Nat} {x:N2} {p:N2×Nat},g9 S f x h=some p->p.2<=h+f
 |0,_,_,_,e=>by simp[g9]at e
 | f+1,h,x,p,e=>by
   unfold g9 at e
   split at e
   · have:=ww e;omega
   · cases e;simp
set_option maxRecDepth 100000 in
def pu {x r:N2}(hS:Sc sO)(he:kV sO x=some r)(ht:Tb w):
 CL 42 #[.agg #[.int .i64 pl,S (nS sO)],.agg #[S (nS x.1),S (nS x.2)]] w (aH w λv w'=>v=.agg #[S (nS r.1),S (nS r.2)]):=by
 obtain⟨hx,p,s,Ar,hs,hq⟩:=wo he;have MZ:=ww Ar;refine aC func42 Z (I ?_);refine bx (λA1 Ay D=>?_);have kd:=Ay.2;refine bx (λAm MG Ab=>?_);have⟨D,kd⟩:=bn MG.2 D kd;refine al aI (λE9 MA G=>?_);have⟨D,Ab,kd⟩:=aP MA.2 D Ab kd;refine I ?_;refine cM [(5,5),(7,18)] (λAd e W=>∃f:Nat,∃y:N2,∃h:Nat,(f=Ad)/\(e 5=.int .i64 h)/\(g9 sO f y h=some p)/\(Bk 95 y)/\(h+f<=200)/\(E9.heap.size<=W.heap.size)/\(a8 w W)/\(ae W w.heap.size 45 #[.int .i64 pl,S (nS sO)])/\(ae W Am.heap.size 59 #[S [],S []])/\(ae W A1.heap.size 59 #[S (nS y.1),S (nS y.2)])) (200) ⟨200,x,0,rfl,rfl,Ar,hx,U,(qa0 _),kd,D,G,Ab⟩ ?_;rintro _ _ _ ⟨f,y,h,rfl,MV,As,hy,hb,MU,H,D,G,E⟩;have MY:=bz H;by_cases hl:sO<y.2*2;obtain⟨g,rfl,M9⟩:=Ha As hl;refine I ?_;refine bB 5 ?_;refine sf ?_;refine ay (V:=S (nS (y.2*2))) (λ_ _ MF _=>?_) ?_;refine clb k6 (hc:=ez Z jl (hy.fi dc).2 (bT (k:=1) dc dc) VT (ht.ext (xt H MF))) (hk:=?_);rintro _ _ MJ rfl;have M7:=MJ.2;refine I ?_;exact fs ⟨M7,rfl⟩;refine sf ?_;intro _ _ MP _;have⟨D,G,E,H⟩:=br MP.2 D G E H;refine clb i8 (hc:=Ai Z Z VT hS.fi) (hk:=?_);rintro _ _ MC rfl;have⟨D,G,E,H⟩:=br MC.2 D G E H;have MS:=C7 hl
 refine I ?_;refine clb fJ (hc:=eA (hy.mono dc) dc dc dc (ht.ext H)) (hk:=?_);rintro _ _ MN rfl;have⟨D,G,E,H⟩:=br MN.2 D G E H;refine SA E (λ_ ny MQ=>?_);have⟨D,G,H,_⟩:=fq ny D G H;refine I ?_;refine ab (bb (a:=(h:Int)) (b:=1) (c:=((h+1:Nat):Int)) Z Z JT U ?_);refine I ?_;exact bQ ⟨g,ba y 1 2,h+1,rfl,rfl,M9,(C3 hy),U,U,H,D,G,MQ⟩;have B1:=Hb As hl;subst B1;have hm:=iQ hs;obtain⟨m,hR,hr⟩:=hm;refine I ?_;refine bB 5 ?_;refine sf ?_;refine ay (V:=S (nS (y.2*2))) (λ_ _ od _=>?_) ?_;refine clb k6 (hc:=ez Z jl (hy.fi dc).2 (bT (k:=1) dc dc) VT (ht.ext (xt H od))) (hk:=?_);rintro _ _ L2 rfl;have MH:=L2.2;refine I ?_;exact fs ⟨MH,rfl⟩;refine sf ?_;intro _ _ E1 _;have⟨D,G,E,H⟩:=br E1.2 D G E H;refine clb i8 (hc:=Ai Z Z VT hS.fi) (hk:=?_);rintro _ ML D2 rfl;have⟨D,G,E,H⟩:=br D2.2 D G E H;have MW:=C8 hl;refine I ?_;refine bB 7 ?_;refine sf ?_;refine ay (V:=.agg #[S (nS ((1*sO,1*sO).1)),S (nS ((1*sO,1*sO).2))]) (λ_ _ M1 _=>?_) ?_;refine clb jG (hc:=eV (n:=1) hS dc Vr (ht.ext (xt H M1))) (hk:=?_);rintro _ _ MI rfl;have Kp:=MI.2;refine I ?_;exact fs ⟨Kp,rfl⟩
 refine bj (λ_ _ _ _=>by refine ab (bE (vf:=[]) (vc:=[pT w.heap.size,pT A1.heap.size]) Z Z ?_);refine I ?_;exact bY) ?_;refine da (λv A2=>rP (1*sO,1*sO) (.func (.func 83) #[] #[pT w.heap.size,pT A1.heap.size]) A2 v) (hs:=λ_ _ _ k h=>h.ext k) (λ_ _ _ _=>?_) ?_;refine cl oC jZ ?_;rintro _ _ wr MD;have K2:=wr.2;refine I ?_;exact fs ⟨K2,MD⟩;refine ay (V:=.agg #[S (nS s.1),S (nS s.2)]) (λ_ _ Af MO=>?_) ?_;obtain⟨_,_,M3,Ax,Ix⟩:=(MO 4 23 Z Z);have⟨D,E⟩:=iZ Af D E;refine clb oB (hc:=cP (pt hR hS Ax Ix FR (λk hk W e=>C9 hS (D.ext e) (E.ext e) (hR.bd k U) hy U VQ ((ht.ext (xt H Af)).ext e)) (ht.ext (xt H Af))) hr) (hk:=?_) (hv:=aA Z (aA M3 Z));rintro _ _ E4 rfl;have MR:=E4.2;refine I ?_;exact fs ⟨MR,rfl⟩;refine da (λv A2=>∃b:Nat,v=pT b/\ML.heap.size<=b/\ae A2 b 59 #[S [],S []]) (hs:=λ_ _ _ k ⟨b,e,l,h⟩=>⟨b,e,l,h.ext k⟩) (λ_ _ MB _=>?_) ?_;refine al aI (λ_ B2 Aw=>?_);have MM:=B2.2;refine I ?_;exact fs ⟨MM,⟨_,rfl,(by have:=bz MB;omega),Aw⟩⟩;refine sf ?_;intro _ _ M5 D1;have⟨D,G,E,H⟩:=br M5.2 D G E H;obtain⟨Jx,_,_,Ao⟩:=(D1 6 6 Z Z);have My:=bt Ao;refine SA Ao (λAv E7 MK=>?_);have⟨D,G,E,H,_⟩:=fL E7 D G E H;refine I ?_
 refine cM [(26,32)] (λAd e W=>∃i:Nat,∃a:N2,(h-i=Ad)/\(e 26=.int .i64 i)/\(i<=h)/\(u0 sO (h-i) a=some r)/\(Av.heap.size<=W.heap.size)/\(a8 w W)/\(ae W w.heap.size 45 #[.int .i64 pl,S (nS sO)])/\(ae W Am.heap.size 59 #[S [],S []])/\(ae W A1.heap.size 59 #[S (nS y.1),S (nS y.2)])/\(ae W Jx 59 #[S (nS a.1),S (nS a.2)])) (h-0) ⟨0,s,rfl,rfl,(qa7 _),hq,(qa0 _),H,D,G,E,MK⟩ ?_;rintro _ _ _ ⟨i,a,rfl,ME,hi,Ap,MX,O,D,G,E,kk⟩;have Mz:=bz O;by_cases hl2:i<h;obtain⟨Aq,M8⟩:=Jq Ap hl2;refine I ?_;refine cl gw (cS hS Aq Aq (ht.ext O)) ?_;rintro _ _ M0 rfl;have⟨D,G,E,kk,O⟩:=dL M0.2 D G E kk O;refine SA kk (λ_ EW M2=>?_);have⟨D,G,E,O,_⟩:=fL EW D G E O;refine I ?_;refine ab (bb (a:=(i:Int)) (b:=1) (c:=((i+1:Nat):Int)) ME Z JT U ?_);refine I ?_;exact bQ ⟨i+1,a7 sO a a,rfl,rfl,U,M8,U,O,D,G,E,M2⟩;obtain⟨rfl,_⟩:=Jr Ap hl2;refine I ?_;refine SA G (λ_ M6 M4=>?_);have⟨D,E,kk,O,_⟩:=fL M6 D E kk O;refine I ?_;refine aK (v:=.agg #[S (nS a.1),S (nS a.2)]) (cn  rfl ?_) O Z;refine ah (t:=4) (cs:=[S (nS a.1),S (nS a.2)]) (b:=Am.heap.size) (o:=0) dw Z cD ?_ ?_;exact Z;exact aa0 M4 (i:=0) Z
def tA:Nat->Nat->Nat
 |0,_=>0
 |f+1,n=>if n=0 then 0 else tA f (n/10000)+1
def tB:∀{f n:Nat},n<10000^f->(aj 10000 n).length=tA f n
 |0,n,h=>by rw[show n=0 by simpa using h,eH];rfl
 | f +1,n,h=>by
   unfold tA
   split
   · rename_i h0;rw[h0,eH];rfl
   · rename_i h0
     rw[eo 10000 n U U,List.length_cons,tB (f:=f)]
     rw[Nat.pow_succ]at h
     exact Nat.div_lt_of_lt_mul (by rw[Nat.mul_comm];exact h)
def Db:Nat->Nat->Nat->Option Nat
 |0,_,_=>none
 |f+1,n,t=>if t<=(t+n/t)/2 then some t else Db f n ((t+n/t)/2)
def Hh (n:Nat):Option Nat:=Db 1000 n (10000^((tA 60 n+1)/2))
def Lm {f r:Nat}(h:Db f n t=some r)(hl:t<=(t+n/t)/2):r=t:=by
 cases f with
 |zero=>cases h
 |succ g=>unfold Db at h;rw[if_pos hl]at h;cases h;rfl
def Ln {f r:Nat}(h:Db f n t=some r)(hl:¬t<=(t+n/t)/2):∃g,f=g+1/\Db g n ((t+n/t)/2)=some r:=by
 cases f with
 |zero=>cases h
 |succ g=>unfold Db at h;rw[if_neg hl]at h;exact⟨g,rfl,h⟩
def wx (k:Nat):aj 10000 (10000^k)=List.replicate k 0++[1]:=by
 induction k with
 |zero=>decide
 | succ k ih=>
   rw[eo 10000 _ U (Nat.pow_pos U),Nat.pow_succ,Nat.mul_mod_left,Nat.mul_div_cancel _ U,ih,List.replicate_succ,List.cons_append]
def Dc {A:Option Addr}(h:Rw w lo A ((madeCells (Value.int .i64 0).cells (k*1)).toList++[Value.int .i64 1]))(hc:k+1<=c):dm w lo A (k+1) c (10000^k):=by
 refine⟨?_,by rw[wx];simp,hc⟩
 have e:(madeCells (Value.int .i64 0).cells (k*1)).toList++[Value.int .i64 1]=ints (aj 10000 (10000^k)):=by
  show(madeCells #[Value.int .i64 0] (k*1)).toList++_=_
  rw[mn,wx];simp[ints]
 rw[<-e];exact h
def Dd {A:Option Addr}(h:Rw w lo A [Value.int .i64 2]):dm w lo A 1 1 2:=by
 have e:aj 10000 2=[2]:=by decide
 exact⟨by rw[e];exact h,by rw[e];rfl,qa0 _⟩
def wy (n:Nat):body (nS n)=aY n:=by unfold nS;rw[dI];simp
def u5 (n:Nat):neg (nS n)=false:=by unfold nS;rw[gO];exact qa2 U
def Ak (hn:Fi n):CL 59 #[S (nS n),S [48]] w (aH w λv w'=>∃A1 n1 c1 A2 n2 c2,v=.tuple #[.agg #[.bool false,.slice A1 n1 c1],.agg #[.bool false,.slice A2 n2 c2],.bool true]/\dm w' w.heap.size A1 n1 c1 n/\dm w' w.heap.size A2 n2 c2 0):=by
 have h:=jh (nS n) [48] w hn.z.int g6
 rw[wy,u5,ee,show neg [48]=false from rfl,show au (body [48])=0 from mo]at h
 exact h
def xE (h:Fi n):n<10000^50:=qb0 h dc
def Al (hn:n<10000^50)(ht:t<=10000^26):t+n/t<10000^51:=by
 have h1:n/t<=n:=Nat.div_le_self _ _
 have D:(10000:Nat)^50+10000^26<10000^51:=by decide
 omega
def De (ht:t≤10000 ^ 26) : eE (aR (bv false t))=.tuple #[S (nS t),.int .i64 0]:=by
 have h : fits (bv false t) = true := qa1 (by have D:(10000:Nat)^26<10^200:=by decide
                                              simp[bv];omega)
 unfold aR;rw[if_pos h];rfl
def jm {x y:Int}:(0<=aw x y)↔y<=x:=by
 unfold aw;split
 · constructor <;>intro h <;>omega
 · split
   · constructor <;>intro _ <;>omega
   · constructor <;>intro _ <;>omega
def Lo {a:Array Value}{X Y:Value}(h:CL f a w (aH w λv _=>v=X))(e:X=Y):CL f a w (aH w λv _=>v=Y):=e▸h
def Jw (h:(0:Int)<=aw (x:Int) (y:Int)):y<=x:=by
 rw[jm]at h
 omega
def Jy (h:¬(0:Int)<=aw (x:Int) (y:Int)):¬y<=x:=by
 rw[jm]at h
 omega
def Hi (hn:0<n)(ht:0<t):0<(t+n/t)/2:=by
 by_cases h:t=1
 · subst h;rw[Nat.div_one];omega
 · have D:2<=t:=J
   exact Nat.div_pos (qa8 D (Nat.le_add_right _ _)) U
set_option maxRecDepth 100000 in
def wA {r:Nat}(fn:Fi n)(hn0:0<n)(hr:Hh n=some r)(ht:Tb w):
 CL 148 #[S (nS n)] w (aH w λv w'=>v=.tuple #[S (nS r),.int .i64 0]):=by
 have M2:(aj 10000 n).length=tA 60 n:=tB (qb0 (xE fn) (Nat.pow_le_pow_right dc dc));refine aC func148 Z (I ?_);refine cl iI (Ak fn) ?_;rintro _ K2 M5 ⟨A1,O,c1,A2,n2,c2,rfl,hN,MQ⟩;have H:=M5.2;have uhN:=hN.hi;have MJ:=bW hN (xE fn);have MR:0<O:=by rw[<-hN.len,List.length_pos_iff];exact λe=>by have:=bU 10000 U n;rw[e]at this;simp[bg]at this;omega
 refine I ?_;refine al bo (λwr E4 D1=>?_);have hN:=aa1 E4.2 hN;have H:=xt H E4.2;refine al bo (λ_ L2 D2=>?_);have hN:=aa1 L2.2 hN;have⟨D1,H⟩:=bn L2.2 D1 H;refine SA D1 (λ_ E7 D=>?_);have hN:=aa7 E7 (λkd e=>by have:=uhN kd e;omega) hN;have⟨D2,H,_⟩:=dE E7 D2 H;refine SA D2 (λIx E9 E=>?_);have hN:=aa7 E9 (λkd e=>by have:=uhN kd e;omega) hN;have⟨D,H,_⟩:=dE E9 D H;refine I ?_;refine ab (bb (a:=(O:Int)) (b:=1) (c:=((O+1:Nat):Int)) Z Z JT U ?_);refine ab (lf (a:=((O+1:Nat):Int)) (b:=2) (c:=((((O+1)/2):Nat):Int)) Z Z U U JT U ?_);refine ab (oe (m:=((O+1)/2)) fj kH Z Z U Vv (λ_ E1 _ Ao=>?_));have Kp:(.slice (some ⟨Ix.heap.size,0,none⟩) ((O+1)/2) ((O+1)/2):Value).ownBlock≠some (K2.heap.size):=λe=>by(have:=bt D;simp only[Value.ownBlock,Option.map_some,Option.some.injEq]at e;omega)
 have M1:(.slice (some ⟨Ix.heap.size,0,none⟩) ((O+1)/2) ((O+1)/2):Value).ownBlock≠some (wr.heap.size):=λe=>by(have:=bt E;simp only[Value.ownBlock,Option.map_some,Option.some.injEq]at e;omega)
 have hN:=aa1 E1 hN;have⟨D,E,H⟩:=aP E1 D E H;have MM:=bz E1;refine BS (λ_ Am _ M9=>?_);have MN:=bO Ao;have hN:=aa1 Am hN;have⟨D,E⟩:=iZ Am D E;have Ao:=aD Am Ao;have H:=xt H Am;have MV:=bz Am;refine AP Ao (aa3 M9) (λM8 M7 M0 od EW=>?_);have N0:=jc EW Kp (bt D);have MZ:=jc EW M1 (bt E);have hN:=dm.gr od (λkd e=>by have:=uhN kd e;simp[Value.ownBlock];omega) hN;have D:=aa2 od (λe=>Kp e.symm) D;have E:=aa2 od (λe=>M1 e.symm) E;have H:=de Ao U U H od;have My:=od.size;refine ab (bJ (v:=M8) Z ?_);refine I ?_;obtain⟨At,MA,rfl,ME,-,-,-⟩:=dt M0;have hT:=Dc (aa3 M0) ME;have M4:Db 1000 n (10000^((O+1)/2))=some r:=by rw[<-hN.len,M2];exact hr
 refine I ?_;refine cM [(2,3),(7,11),(32,60)] (λMC e W=>∃f:Nat,∃Ax:Option Addr,∃Af:Nat,∃Ad:Nat,∃t:Nat,(f=MC)/\(e 7=.slice Ax Af Ad)/\(Db f n t=some r)/\(t<=10000^26)/\(0<t)/\(M7.heap.size<=W.heap.size)/\(a8 w W)/\(dm W w.heap.size A1 O c1 n)/\(ae W K2.heap.size 78 #[.bool false,.slice A1 O c1])/\(ae W wr.heap.size 78 #[.bool false,.slice A2 n2 c2])/\(dm W w.heap.size Ax Af Ad t)) (1000) ⟨1000,At,((O+1)/2)+1,MA,10000^((O+1)/2),rfl,rfl,M4,(Nat.pow_le_pow_right dc U),(Nat.pow_pos dc),(qa0 _),H,hN,D,E,(hT.mono U)⟩ ?_;rintro _ _ _ ⟨f,Ax,Af,Ad,t,rfl,MS,hf,Av,Jx,MK,G,hN,D,E,hT⟩;have MX:=bz G;have lt:=bW (k:=27) hT (Nat.lt_of_le_of_lt Av dc);have lN:=bW hN (xE fn);refine I ?_;refine clb vt (hc:=nD hN U hT U Jx) (hk:=?_);rintro _ _ Aw ⟨Aq,Mz,N1,Ar,MO,MH,rfl,hQ,hRr⟩;have hN:=aa1 Aw.2 hN;have⟨D,E⟩:=iZ Aw.2 D E;have hT:=aa1 Aw.2 hT;have G:=xt G Aw.2;have MP:=bW hQ (Nat.lt_of_le_of_lt (Nat.div_le_self _ _) (xE fn));refine I ?_;refine clb sw (hc:=ln hT U hQ U) (hk:=?_);rintro _ _ B2 ⟨As,MY,cs,rfl,hS⟩;have hN:=aa1 B2.2 hN;have⟨D,E⟩:=iZ B2.2 D E;have hT:=aa1 B2.2 hT;have G:=xt G B2.2;have ls:=bW hS (Al (xE fn) Av);refine BS (λ_ kk _ MF=>?_);have hN:=aa1 kk hN
 have⟨D,E⟩:=iZ kk D E;have hT:=aa1 kk hT;have hS:=aa1 kk hS;have G:=xt G kk;have MI:=bz kk;have MG:=Dd (aa3 MF);refine clb vt (hc:=nD hS U MG U dc) (hk:=?_);rintro _ _ Ap ⟨Ay,ny,M6,Ar2,ML,MW,rfl,hY,hR2⟩;have hN:=aa1 Ap.2 hN;have⟨D,E⟩:=iZ Ap.2 D E;have hT:=aa1 Ap.2 hT;have G:=xt G Ap.2;have MU:=bW hY (Nat.lt_of_le_of_lt (Nat.div_le_self _ _) (Al (xE fn) Av));refine I ?_;refine clb sx (hc:=g5 hY U hT) (hk:=?_);rintro _ _ Ab rfl;have hN:=aa1 Ab.2 hN;have⟨D,E⟩:=iZ Ab.2 D E;have hT:=aa1 Ab.2 hT;have hY:=aa1 Ab.2 hY;have G:=xt G Ab.2;refine I ?_;by_cases v7:0<=(aw (((t+n/t)/2:Nat):Int) ((t:Nat):Int));have B1:=Jw v7;have MB:=Lm hf B1;refine I ?_;refine ab (aS (vs:=[(1,.slice Ax Af Ad)]) (cells:=#[.bool false,.slice Ax Af Ad]) (pl:=[(0,1),(1,1)]) iH bo q0 Z q0 ?_);refine clb jF (hc:=Lo (eh (ng:=false) hT U (ht.ext G)) (De Av)) (hk:=?_);rintro _ _ M3 rfl;have G:=xt G M3.2;refine I ?_;exact aW (t:=2) (u:=3) (v1:=S (nS t)) (v2:=.int .i64 0) Z G (by rw[MB]) Z Z;have B1:=Jy v7;obtain⟨g,rfl,MD⟩:=Ln hf B1;refine I ?_;exact bQ ⟨g,Ay,ny,M6,(t+n/t)/2,rfl,rfl,MD,(by have:=Nat.not_le.1 B1;omega),(Hi hn0 Jx),U,G,hN,D,E,(hY.mono U)⟩
end
section
open Go Go.Eng Go.RowKit Tryz
def il (S:Nat)(a:N2):Option N2:=if gJ a=true/\0<a.1*S/\0<a.2*S then(Hh (a.1*S)).bind λx=>(Hh (a.2*S)).bind λy=>if gJ (x,y)=true then some (x,y+1)else none else none
def An {S:Nat}{a r:N2}(h:il S a=some r):Bk 95 a/\0<a.1*S/\0<a.2*S/\∃x y,Hh (a.1*S)=some x/\Hh (a.2*S)=some y/\Bk 95 (x,y)/\r=(x,y+1):=by
 unfold il at h
 split at h
 · rename_i h1
   refine⟨bm h1.1,h1.2.1,h1.2.2,?_⟩
   cases hx:Hh (a.1*S)with
   |none=>rw[hx]at h;cases h
   | some x=>
     rw[hx,Option.bind_some]at h
     cases hy:Hh (a.2*S)with
     |none=>rw[hy]at h;cases h
     | some y=>
       rw[hy,Option.bind_some]at h
       split at h
       · rename_i h2;cases h;exact⟨x,y,rfl,rfl,bm h2,rfl⟩
       · cases h
 · cases h
def ET:List UInt8:=[51,49,52,49,53,57,50,54,53,51,53,56,57,55,57,51,50,51,56,52,54,50,54,52,51,51,56,51,50,55,57,53,48,50,56,56,52,49,57,55,49,54,57,51,57,57,51,55,53,49,48,53,56,50,48,57,55,52,57,52,52,53,57,50,51,48,55,56,49,54,52,48,54,50,56,54,50,48,56,57,57]
def js (k:Nat):Nat:=314159265358979323846264338327950288419716939937510582097494459230781640628620899/10^(80-k)
def Au (h:k<81):ET.take (k+1)=nS (js k):=by
 have:∀k:Fin 81,ET.take (k.1+1)=nS (js k.1):=by decide +kernel
 exact this ⟨k,h⟩
def Az :js k<10^81:=Nat.lt_of_le_of_lt (Nat.div_le_self _ _) dc
def Hj (S pl n d:Nat):Option N2:=
 if gJ (n,d)=true/\0<d/\gJ (aM S n d)=true/\gJ (a7 S (aM S n d) (aM S n d))=true then
  (kU (Js S (a7 S (aM S n d) (aM S n d))) (aM S n d)).bind λs=>
  (kV S (ba (a7 S (aM S n d) (aM S n d)) 1 2)).bind λe=>
  (il S (ba (js pl,js pl+1) 2 1)).bind λc=>
  if gJ s=true/\gJ c=true/\0<(a7 S e c).1/\0<(a7 S e c).2 then some (iD S s (a7 S e c))else none
 else none
def AA {S:Nat}{r:N2}(h:Hj S pl n d=some r):Bk 95 (n,d)/\0<d/\Bk 95 (aM S n d)/\Bk 95 (a7 S (aM S n d) (aM S n d))/\∃s e c,
 kU (Js S (a7 S (aM S n d) (aM S n d))) (aM S n d)=some s/\kV S (ba (a7 S (aM S n d) (aM S n d)) 1 2)=some e/\il S (ba (js pl,js pl+1) 2 1)=some c/\Bk 95 s/\Bk 95 c/\0<(a7 S e c).1/\0<(a7 S e c).2/\r=iD S s (a7 S e c):=by
 unfold Hj at h
 split at h
 · rename_i h1
   refine⟨bm h1.1,h1.2.1,bm h1.2.2.1,bm h1.2.2.2,?_⟩
   cases hs:kU (Js S (a7 S (aM S n d) (aM S n d))) (aM S n d)with
   |none=>rw[hs]at h;cases h
   | some s=>
     rw[hs,Option.bind_some]at h
     cases he:kV S (ba (a7 S (aM S n d) (aM S n d)) 1 2)with
     |none=>rw[he]at h;cases h
     | some e=>
       rw[he,Option.bind_some]at h
       cases hc:il S (ba (js pl,js pl+1) 2 1)with
       |none=>rw[hc]at h;cases h
       | some c=>
         rw[hc,Option.bind_some]at h
         split at h
         · rename_i h2;cases h;exact⟨s,e,c,rfl,rfl,rfl,bm h2.1,bm h2.2.1,h2.2.2.1,h2.2.2.2,rfl⟩
         · cases h
 · cases h
end
section
set_option maxRecDepth 100000
open Go Go.Eng Go.RowKit Tryz
attribute [local irreducible] wpListIn Code.wpIn Oper.wpIn Exit.then Exit.inBlock Exit.noGoto
set_option maxHeartbeats 40000000
def Hk:ET.length=81:=by decide +kernel
def iR {l m:List UInt8}(hl:l=nS n)(hm:m=nS d)(hS:Sc sO)(hn:Fi n)(hd:Fi d)(h0:0<d)(hf:Fi (n*sO))(ht:Tb w):
 CL 43 #[.agg #[.int .i64 pl,S (nS sO)],.agg #[S l,S m]] w (aH w λv _=>v=.agg #[S (nS (aM sO n d).1),S (nS (aM sO n d).2)]):=by
 subst hl hm
 exact wu hS hn hd h0 hf ht
def mC {a r:N2}(hS:Sc sO)(hr:il sO a=some r)(ht:Tb w):
 CL 96 #[.agg #[.int .i64 pl,S (nS sO)],.agg #[S (nS a.1),S (nS a.2)]] w (aH w λv w'=>v=.agg #[S (nS r.1),S (nS r.2)]):=by
 obtain⟨O,Am,p2,x,y,As,Ao,hb,Aq⟩:=An hr;have kk:=O.fi dc;refine aC func96 Z (I ?_);refine bx (λ_ Av E=>?_);have D:=Av.2;refine bx (λAw A1 G=>?_);have⟨E,D⟩:=bn A1.2 E D;refine al aI (λ_ Af H=>?_);have⟨E,G,D⟩:=aP Af.2 E G D;refine I ?_;refine clb k6 (hc:=ez Z Z kk.1 hS.fi (bC O.1 hS.lt dc) (ht.ext D)) (hk:=?_);rintro _ _ Ap rfl;have⟨E,G,H,D⟩:=br Ap.2 E G H D;refine clb yy (hc:=wA (bC O.1 hS.lt dc) Am As (ht.ext D)) (hk:=?_);rintro _ _ kd rfl;have⟨E,G,H,D⟩:=br kd.2 E G H D;refine I ?_;refine clb k6 (hc:=ez Z Z kk.2 hS.fi (bC O.2 hS.lt dc) (ht.ext D)) (hk:=?_);rintro _ _ Ad rfl;have⟨E,G,H,D⟩:=br Ad.2 E G H D;refine clb yy (hc:=wA (bC O.2 hS.lt dc) p2 Ao (ht.ext D)) (hk:=?_);rintro _ _ g rfl;have⟨E,G,H,D⟩:=br g.2 E G H D;refine I ?_;refine clb gv (hc:=ik Z g8 (by have:=hb.2;unfold Fi;simp only at this;omega) (ht.ext D)) (hk:=?_);rintro _ _ Ab rfl;have⟨E,G,H,D⟩:=br Ab.2 E G H D;refine I ?_;refine SA H (λ_ Ar A2=>?_);have⟨E,G,D,_⟩:=fq Ar E G D;refine I ?_;refine aK (v:=.agg #[S (nS x),S (nS (y+1))]) (cn  rfl ?_) D (by rw[Aq]);refine ah (t:=4) (cs:=[S (nS x),S (nS (y+1))]) (b:=Aw.heap.size) (o:=0) dw Z cD ?_ ?_;exact Z;exact aa0 A2 (i:=0) Z
def EU (hp:pl<81)(ht:Tb w):
 CL 97 #[.agg #[.int .i64 pl,S (nS sO)]] w (aH w λv w'=>v=.agg #[S (nS ((js pl,js pl+1).1)),S (nS ((js pl,js pl+1).2))]):=by
 refine aC func97 Z (I ?_);refine bx (λkk A1 E=>?_);have D:=A1.2;refine al aI (λ_ O G=>?_);have⟨E,D⟩:=bn O.2 E D;refine I ?_;refine ab (bb (a:=(pl:Int)) (b:=1) (c:=((pl+1:Nat):Int)) Z Z JT U ?_);refine ab (eF (l:=ET) (i:=0) (j:=pl+1) U9 Z (.inl ⟨rfl,rfl⟩) (.inr ⟨_,qb1 some Z⟩) U (by rw[Hk];omega) ?_);rw[show(ET.take (pl+1)).drop 0=ET.take (pl+1)from rfl];refine I ?_;refine clb gv (hc:=ik (Au hp) g8 (by have:=Az (k:=pl);unfold Fi;omega) (ht.ext D)) (hk:=?_);rintro _ _ g rfl;have⟨E,G,D⟩:=aP g.2 E G D;refine I ?_;refine SA G (λ_ kd H=>?_);have⟨E,D,_⟩:=dE kd E D;refine I ?_;refine aK (v:=.agg #[S (ET.take (pl+1)),S (nS (js pl+1))]) (cn  rfl ?_) D (by exact qb1 (λl=>Value.agg #[S l,S (nS (js pl+1))]) (Au hp));refine ah (t:=2) (cs:=[S (ET.take (pl+1)),S (nS (js pl+1))]) (b:=kk.heap.size) (o:=0) dw Z cD ?_ ?_;exact Z;exact aa0 H (i:=0) Z
def qE {u r:N2}(hS:Sc sO)(ha:pP sO u=some r)(ht:Tb w):
 CL 89 #[.agg #[.int .i64 pl,S (nS sO)],.agg #[S (nS u.1),S (nS u.2)]] w (aH w λv w'=>v=.agg #[S (nS r.1),S (nS r.2)]):=by
 obtain⟨hu,hq,s,hs,rfl⟩:=ws ha;obtain⟨m,hR,hr⟩:=iQ hs;refine aC func89 Z (I ?_);refine bx (λ_ Ao E=>?_);have D:=Ao.2;refine bx (λwr Ap G=>?_);have⟨E,D⟩:=bn Ap.2 E D;refine al aI (λ_ Aq H=>?_);have⟨E,G,D⟩:=aP Aq.2 E G D;refine I ?_;refine cl gw (cS hS hu hu (ht.ext D)) ?_;rintro _ A2 Jx rfl;have⟨E,G,H,D⟩:=br Jx.2 E G H D;refine al aI (λ_ As Kp=>?_);have⟨E,G,H,D⟩:=br As.2 E G H D;refine SA Kp (λE9 Av O=>?_);have⟨E,G,H,D,_⟩:=fL Av E G H D;refine I ?_;refine bB 6 ?_;refine sf ?_;refine bj (λ_ _ _ _=>by refine ab (bE (vf:=[]) (vc:=[pT w.heap.size,pT A2.heap.size]) Z Z ?_);refine I ?_;exact bY) ?_;refine da (λv kd=>rP u (.func (.func 146) #[] #[pT w.heap.size,pT A2.heap.size]) kd v) (hs:=λ_ _ _ k h=>h.ext k) (λ_ _ _ _=>?_) ?_;refine cl oC jZ ?_;rintro _ _ E7 Aw;have Ay:=E7.2;refine I ?_;exact fs ⟨Ay,Aw⟩;refine ay (V:=.agg #[S (nS s.1),S (nS s.2)]) (λ_ _ g D1=>?_) ?_;obtain⟨_,_,B1,EW,E1⟩:=(D1 3 14 Z Z);have⟨E,O⟩:=iZ g E O;refine clb oB (hc:=cP (pt hR hS EW E1 Ge (λk hk W e=>Da hS (E.ext e) (O.ext e) (hR.bd k U) hq U VQ ((ht.ext (xt D g)).ext e)) (ht.ext (xt D g))) hr) (hk:=?_) (hv:=aA Z (aA B1 Z));rintro _ _ Ar rfl
 have K2:=Ar.2;refine I ?_;exact fs ⟨K2,rfl⟩;refine da (λv kd=>∃b:Nat,v=pT b/\E9.heap.size<=b/\ae kd b 59 #[S [],S []]) (hs:=λ_ _ _ k ⟨b,e,l,h⟩=>⟨b,e,l,h.ext k⟩) (λ_ _ Ax _=>?_) ?_;refine al aI (λ_ Ab Ix=>?_);have E4:=Ab.2;refine I ?_;exact fs ⟨E4,⟨_,rfl,(by have:=bz Ax;omega),Ix⟩⟩;refine sf ?_;intro _ _ L2 Ad;have⟨E,G,H,O,D⟩:=dL L2.2 E G H O D;obtain⟨_,_,_,A1⟩:=(Ad 5 6 Z Z);have M0:=bt A1;refine SA A1 (λ_ Am kk=>?_);have⟨E,G,H,O,D,_⟩:=ka Am E G H O D;refine I ?_;refine clb fJ (hc:=eA ((show Bk 100 s from hr▸hR.res).mono dc) dc dc dc (ht.ext D)) (hk:=?_);rintro _ _ B2 rfl;have⟨E,G,H,O,kk,D⟩:=lk B2.2 E G H O kk D;refine SA H (λ_ Af D2=>?_);have⟨E,G,O,kk,D,_⟩:=ka Af E G O kk D;refine I ?_;refine aK (v:=.agg #[S (nS ((ba s 2 1).1)),S (nS ((ba s 2 1).2))]) (cn  rfl ?_) D Z;refine ah (t:=4) (cs:=[S (nS ((ba s 2 1).1)),S (nS ((ba s 2 1).2))]) (b:=wr.heap.size) (o:=0) dw Z cD ?_ ?_;exact Z;exact aa0 D2 (i:=0) Z
def kE {r:N2}(hS:Sc sO)(hp:pl<81)(hh:Hj sO pl n d=some r)(ht:Tb w):
 CL 92 #[.agg #[.int .i64 pl,S (nS sO)],.agg #[S (nS n),S (nS d)]] w (aH w λv w'=>v=.agg #[S (nS r.1),S (nS r.2)]):=by
 obtain⟨Ap,MX,hv,Aq,s,kd,c,hs,Ad,hc,MH,Av,L2,B2,rfl⟩:=AA hh;obtain⟨m,hR,hr⟩:=iQ hs;have Ar:=rL Ad;have As:=Ap.fi dc;refine aC func92 Z (I ?_);refine bx (λ_ MP E=>?_);have D:=MP.2;refine bx (λM8 MV G=>?_);have⟨E,D⟩:=bn MV.2 E D;refine al aI (λ_ Ax H=>?_);have⟨E,G,D⟩:=aP Ax.2 E G D;refine I ?_;refine clb gu (hc:=iR (n:=n) (d:=d) Z Z hS As.1 As.2 MX (bC Ap.1 hS.lt dc) (ht.ext D)) (hk:=?_);rintro _ _ MI rfl;have⟨E,G,H,D⟩:=br MI.2 E G H D;refine al aI (λ_ E9 D2=>?_);have⟨E,G,H,D⟩:=br E9.2 E G H D;refine SA D2 (λ_ Kp O=>?_);have⟨E,G,H,D,_⟩:=fL Kp E G H D;refine I ?_;refine cl gw (cS hS hv hv (ht.ext D)) ?_;rintro _ Ao MR rfl;have⟨E,G,H,O,D⟩:=dL MR.2 E G H O D;refine al aI (λ_ MM MA=>?_);have⟨E,G,H,O,D⟩:=dL MM.2 E G H O D;refine SA MA (λM3 M1 kk=>?_);have⟨E,G,H,O,D,_⟩:=ka M1 E G H O D;refine I ?_;refine bB 6 ?_;refine sf ?_;refine bj (λ_ _ _ _=>by refine ab (bE (vf:=[]) (vc:=[pT w.heap.size,pT Ao.heap.size]) Z Z ?_);refine I ?_;exact bY) ?_;refine da (λv A1=>rP (aM sO n d) (.func (.func 147) #[] #[pT w.heap.size,pT Ao.heap.size]) A1 v) (hs:=λ_ _ _ k h=>h.ext k) (λ_ _ _ _=>?_) ?_;refine cl oC jZ ?_
 rintro _ _ MK ME;have MW:=MK.2;refine I ?_;exact fs ⟨MW,ME⟩;refine ay (V:=.agg #[S (nS s.1),S (nS s.2)]) (λ_ _ A2 Ay=>?_) ?_;obtain⟨_,_,Aw,D1,Jx⟩:=(Ay 3 18 Z Z);have⟨E,kk⟩:=iZ A2 E kk;refine clb oB (hc:=cP (pt hR hS D1 Jx Gf (λk hk W e=>Hg hS (E.ext e) (kk.ext e) (hR.bd k U) Aq U VQ ((ht.ext (xt D A2)).ext e)) (ht.ext (xt D A2))) hr) (hk:=?_) (hv:=aA Z (aA Aw Z));rintro _ _ M9 rfl;have MO:=M9.2;refine I ?_;exact fs ⟨MO,rfl⟩;refine da (λv A1=>∃b:Nat,v=pT b/\M3.heap.size<=b/\ae A1 b 59 #[S [],S []]) (hs:=λ_ _ _ k ⟨b,e,l,h⟩=>⟨b,e,l,h.ext k⟩) (λ_ _ wr _=>?_) ?_;refine al aI (λ_ MC M2=>?_);have M5:=MC.2;refine I ?_;exact fs ⟨M5,⟨_,rfl,(by have:=bz wr;omega),M2⟩⟩;refine sf ?_;intro _ _ E1 MF;have⟨E,G,H,O,kk,D⟩:=lk E1.2 E G H O kk D;obtain⟨_,_,_,Af⟩:=(MF 5 7 Z Z);have MY:=bt Af;refine SA Af (λ_ B1 g=>?_);have⟨E,G,H,O,kk,D,_⟩:=xV B1 E G H O kk D;refine I ?_;refine bB 15 ?_;refine sf ?_;refine ay (V:=.agg #[S (nS ((ba (a7 sO (aM sO n d) (aM sO n d)) 1 2).1)),S (nS ((ba (a7 sO (aM sO n d) (aM sO n d)) 1 2).2))]) (λ_ _ Ix _=>?_) ?_;refine clb fJ (hc:=eA (Aq.mono dc) dc dc dc (ht.ext (xt D Ix))) (hk:=?_);rintro _ _ M0 rfl;have E7:=M0.2;refine I ?_;exact fs ⟨E7,rfl⟩
 refine ay (V:=.agg #[S (nS kd.1),S (nS kd.2)]) (λ_ _ K2 _=>?_) ?_;refine cl oz (pu hS Ad (ht.ext (xt D K2))) ?_;rintro _ _ M7 rfl;have ML:=M7.2;refine I ?_;exact fs ⟨ML,rfl⟩;refine sf ?_;refine ay (V:=.agg #[S (nS ((js pl,js pl+1).1)),S (nS ((js pl,js pl+1).2))]) (λ_ _ MU _=>?_) ?_;refine cl yw (EU hp (ht.ext (xt D MU))) ?_;rintro _ _ MG rfl;have E4:=MG.2;refine I ?_;exact fs ⟨E4,rfl⟩;refine ay (V:=.agg #[S (nS ((ba (js pl,js pl+1) 2 1).1)),S (nS ((ba (js pl,js pl+1) 2 1).2))]) (λ_ _ MN _=>?_) ?_;refine clb fJ (hc:=eA (⟨dF Az dc,by have:=Az (k:=pl);simp only;omega⟩:Bk 190 (js pl,js pl+1)) dc dc dc (ht.ext (xt D MN))) (hk:=?_);rintro _ _ MS rfl;have M4:=MS.2;refine I ?_;exact fs ⟨M4,rfl⟩;refine ay (V:=.agg #[S (nS c.1),S (nS c.2)]) (λ_ _ MD _=>?_) ?_;refine cl uv (mC hS hc (ht.ext (xt D MD))) ?_;rintro _ _ MQ rfl;have MB:=MQ.2;refine I ?_;exact fs ⟨MB,rfl⟩;refine ay (V:=.agg #[S (nS ((a7 sO kd c).1)),S (nS ((a7 sO kd c).2))]) (λ_ _ ny _=>?_) ?_;refine cl gw (cS hS Ar Av (ht.ext (xt D ny))) ?_;rintro _ _ od rfl;have MJ:=od.2;refine I ?_;exact fs ⟨MJ,rfl⟩;refine sf ?_;intro _ _ Am _;have⟨E,G,H,O,kk⟩:=dC Am.2 E G H O kk;have⟨g,D⟩:=bn Am.2 g D
 refine cl qZ (kp hS MH (jW hS.pos Ar Av) L2 B2 (ht.ext D)) ?_;rintro _ _ Ab rfl;have⟨E,G,H,O,kk⟩:=dC Ab.2 E G H O kk;have⟨g,D⟩:=bn Ab.2 g D;refine SA H (λ_ EW M6=>?_);have⟨E,G,O,kk,g,D,_⟩:=xV EW E G O kk g D;refine I ?_;refine aK (v:=.agg #[S (nS ((iD sO s (a7 sO kd c)).1)),S (nS ((iD sO s (a7 sO kd c)).2))]) (cn  rfl ?_) D Z;refine ah (t:=4) (cs:=[S (nS ((iD sO s (a7 sO kd c)).1)),S (nS ((iD sO s (a7 sO kd c)).2))]) (b:=M8.heap.size) (o:=0) dw Z cD ?_ ?_;exact Z;exact aa0 M6 (i:=0) Z
end
end Go.Proofs.YtgcfffdpcefifaaGreatDoor
