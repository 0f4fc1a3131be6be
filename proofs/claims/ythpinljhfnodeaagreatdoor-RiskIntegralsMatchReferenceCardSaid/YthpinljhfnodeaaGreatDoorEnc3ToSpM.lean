/- Part of the proof of a statement about risks. -/
import Derived.Test.YthpinljhfnodeaaGreatDoorInt15ToEnc2
set_option linter.all false
namespace Go.Proofs.YthpinljhfnodeaaGreatDoor
variable {a t c d la ha f T lb0 va vb x y er f1 c1 f2 c2 f' c':Int}{l m l1 m1 l2 m2 l3 m3 l4 m4 y1 y2 y3 y4:List UInt8}{lb cs:List Value}{pl b1 b2 n k off ft g S1 u:Nat}{w:World}
section
set_option maxRecDepth 100000
open Go Go.Eng Go.RowKit Tryz
attribute [local irreducible] wpListIn Code.wpIn Oper.wpIn Exit.then Exit.inBlock Exit.noGoto
set_option maxHeartbeats 40000000
def dp (a b t:Int):Int:=a*t/b
def dz (a b t:Int):Int:=if a*t%b=0 then a*t/b else a*t/b+1
def s7 {b:Int}(hb:0<b):cG a b*t/bK a b=a*t/b/\(cG a b*t%bK a b=0↔a*t%b=0):=by
 have h1:=vT (n:=a) hb
 have h2:=yp (n:=a) hb
 have O:=jx (n:=a) hb
 generalize cG a b=p at *
 generalize bK a b=q at *
 generalize ((Int.gcd a b:Nat):Int)=g at *
 subst h1 h2
 rw[show p*g*t=p*t*g by grind]
 refine⟨(Int.mul_ediv_mul_of_pos_left _ _ O).symm,?_⟩
 rw[Int.mul_comm (p*t) g,Int.mul_comm q g,Int.mul_emod_mul_of_pos _ _ O]
 constructor
 · intro h;rw[h,Int.mul_zero]
 · intro h;rcases Int.mul_eq_zero.1 h with h|h;omega;exact h
def Vu {b:Int}(hb:0<b):uN (cG a b) (bK a b) t false=dp a b t:=by
 unfold uN dp;rw[if_neg (λe=>absurd e.1 dc),(s7 hb).1]
def Vv {b:Int}(hb:0<b):uN (cG a b) (bK a b) t true=dz a b t:=by
 unfold uN dz
 rw[(s7 hb).1]
 by_cases h:a*t%b=0
 · rw[if_pos h,if_neg (λe=>e.2 (cJ.2 ((s7 hb).2.2 h)))]
 · rw[if_neg h,if_pos ⟨rfl,λe=>h ((s7 hb).2.1 (cJ.1 e))⟩]
def aa (pl:Nat):Int:=((10^pl:Nat):Int)
def aZ (pl:Nat):0<aa pl:=by unfold aa;have:=Nat.pow_pos (n:=pl) (show 0<10 by decide);omega
def R5 (h:pl<=30):aa pl<=10^30:=by
 unfold aa
 have h1:(10:Nat)^pl<=10^30:=Nat.pow_le_pow_right dc h
 have h2:(((10:Nat)^30:Nat):Int)=(10:Int)^30:=by decide
 omega
def Ai {b:Int}(h:Q9 a b)(hp:pl<=30):(cG a b*aa pl).natAbs<10^199:=by
 have h1:=h.red.1
 have h2:(aa pl).natAbs<=10^30:=by have:=R5 hp;have:=aZ pl;omega
 rw[Int.natAbs_mul]
 have h3:(cG a b).natAbs*(aa pl).natAbs<=10^90*10^30:=qb7 U h2
 have h4:10^90*10^30<10^199:=by decide
 omega
def Aj {b:Int}(e:(l,m)=qR a b)(h:Q9 a b)(hp:pl<=30)(ht:Tb w):CL 71 #[.agg #[S l,S m],.int .i64 pl] w (aC w λv _=>v=Qv (dp a b (aa pl)) (aa pl)):=by
 rw[show l=(qR a b).1 from congrArg Prod.fst e,show m=(qR a b).2 from congrArg Prod.snd e]
 exact fM (Jf h.ok (nR h.2.1 h.fz.1) (nT h.2.1 h.fz.2) hp (Ai h hp) ht) (qb1 (λz=>Qv z (aa pl)) (Vu h.2.1))
def Jv {b:Int}(e:(l,m)=qR a b)(h:Q9 a b)(hp:pl<=30)(ht:Tb w):CL 72 #[.agg #[S l,S m],.int .i64 pl] w (aC w λv _=>v=Qv (dz a b (aa pl)) (aa pl)):=by
 rw[show l=(qR a b).1 from congrArg Prod.fst e,show m=(qR a b).2 from congrArg Prod.snd e]
 exact fM (R3 h.ok (nR h.2.1 h.fz.1) (nT h.2.1 h.fz.2) hp (Ai h hp) ht) (qb1 (λz=>Qv z (aa pl)) (Vv h.2.1))
def FR {b:Int}{x:R×R}(e1:x.1=qR a b)(e2:x.2=qR c d)(q1:Q9 a b)(q2:Q9 c d)(hb1:au w b1 33 #[S x.1.1,S x.1.2,S x.2.1,S x.2.2])(hb2:au w b2 3 #[.int .i64 pl])(hp:pl<=30)(ht:Tb w):
 CL 102 #[pT b1,pT b2] w (aC w λv w'=>v=IV (dp a b (aa pl)) (aa pl) (dz c d (aa pl)) (aa pl)):=by
 have Aw:=bt hb1;have Av:=bt hb2;refine aE func102 Z (I ?_);refine al ap (λ_ qn qr=>?_);have⟨hb1,hb2⟩:=jk qn.2 hb1 hb2;have O:=qn.2;refine I ?_;refine bY 13 ?_;refine sf ?_;refine aF (V:=.tuple #[QV (dp a b (aa pl)) (aa pl),.int .i64 0]) (λ_ _ Af _=>?_) ?_;refine cl Hr (Aj e1 q1 hp (ht.ext (xt O Af))) ?_;rintro _ _ Ab rfl;have Ad:=Ab.2;refine I ?_;exact fs ⟨Ad,rfl⟩;refine sf ?_;refine aF (V:=QV (dp a b (aa pl)) (aa pl)) (λ_ _ _ _=>?_) ?_;refine cl tS pz ?_;rintro _ _ Ar rfl;have A2:=Ar.2;refine I ?_;exact fs ⟨A2,rfl⟩;refine sf ?_;refine aF (V:=.tuple #[QV (dz c d (aa pl)) (aa pl),.int .i64 0]) (λ_ _ Ao _=>?_) ?_;refine cl Hs (Jv e2 q2 hp (ht.ext (xt O Ao))) ?_;rintro _ _ Aq rfl;have Ap:=Aq.2;refine I ?_;exact fs ⟨Ap,rfl⟩;refine sf ?_;intro _ _ As _;have⟨hb1,hb2,qr,O⟩:=bW As.2 hb1 hb2 qr O;refine cl tS pz ?_;rintro _ _ A1 rfl;have⟨hb1,hb2,qr,O⟩:=bW A1.2 hb1 hb2 qr O;refine ac (aV (vs:=[(0,QV (dp a b (aa pl)) (aa pl)),(1,QV (dz c d (aa pl)) (aa pl))]) (cells:=#[S ((qR (dp a b (aa pl)) (aa pl)).1),S ((qR (dp a b (aa pl)) (aa pl)).2),S ((qR (dz c d (aa pl)) (aa pl)).1),S ((qR (dz c d (aa pl)) (aa pl)).2)]) (pl:=[(0,2),(2,2)]) aJ ap GS Z GS ?_);refine SA qr (λ_ W Am=>?_)
 have⟨hb1,hb2⟩:=eR W hb1 hb2;have O:=bB W O;refine I ?_;refine aI (v:=IV (dp a b (aa pl)) (aa pl) (dz c d (aa pl)) (aa pl)) (cF  rfl ?_) O Z;refine ag (t:=2) (cs:=[S ((qR (dp a b (aa pl)) (aa pl)).1),S ((qR (dp a b (aa pl)) (aa pl)).2),S ((qR (dz c d (aa pl)) (aa pl)).1),S ((qR (dz c d (aa pl)) (aa pl)).2)]) (b:=w.heap.size) (o:=0) aJ Z ay ?_ ?_;exact Z;exact aa1 Am (i:=0) Z
def mO {b:Int}{x:R×R}(e1:x.1=qR a b)(e2:x.2=qR c d)(q1:Q9 a b)(q2:Q9 c d)(hle:a*d<=c*b)(hp:pl<=30)(ht:Tb w):
 CL 54 #[.agg #[S x.1.1,S x.1.2,S x.2.1,S x.2.2],.int .i64 pl] w (aC w λv w'=>v=.tuple #[IV (dp a b (aa pl)) (aa pl) (dz c d (aa pl)) (aa pl),.int .i64 0]):=by
 refine aE func54 Z (I ?_);refine bx (λAb Ad qr=>?_);have O:=Ad.2;refine bx (λAm Ao qn=>?_);have⟨qr,O⟩:=bD Ao.2 qr O;refine al ap (λ_ As A1=>?_);have⟨qr,qn,O⟩:=bC As.2 qr qn O;refine I ?_;refine ac (cL (vf:=[]) (vc:=[pT w.heap.size,pT Ab.heap.size]) Z Z ?_);refine ac (ar (cs:=[S x.1.1,S x.1.2,S x.2.1,S x.2.2]) (b:=w.heap.size) (o:=0) aJ Z ay Z (aa1 qr (i:=0) Z) ?_);refine BS (λ_ Ar _ Af=>?_);have⟨qr,qn,A1,O⟩:=bW Ar qr qn A1 O;refine clb BM (hc:=mN (l:=[x]) (x:=(qR (dp a b (aa pl)) (aa pl),qR (dz c d (aa pl)) (aa pl))) Qg (aa4 Af) Z RW (λy hy=>by rw[List.mem_singleton.1 hy];exact⟨a,b,c,d,e1,e2,q1,q2,hle⟩) (λW e=>FR e1 e2 q1 q2 (qr.ext e) (qn.ext e) hp ((ht.ext O).ext e)) (ht.ext O)) (hk:=?_);rintro _ _ Ap rfl;have⟨qr,qn,A1,O⟩:=bW Ap.2 qr qn A1 O;refine I ?_;refine SA A1 (λ_ A2 Aq=>?_);have⟨qr,qn⟩:=eR A2 qr qn;have O:=bB A2 O;refine I ?_;refine aI (v:=.tuple #[IV (dp a b (aa pl)) (aa pl) (dz c d (aa pl)) (aa pl),.int .i64 0]) (cn (r1:=.cell 4 33) (r2:=.tmp 5) Z ?_ ?_) O Z;refine ag (t:=4) (cs:=[S ((qR (dp a b (aa pl)) (aa pl)).1),S ((qR (dp a b (aa pl)) (aa pl)).2),S ((qR (dz c d (aa pl)) (aa pl)).1),S ((qR (dz c d (aa pl)) (aa pl)).2)]) (b:=Am.heap.size) (o:=0) aJ Z ay ?_ ?_
 exact Z;exact aa1 Aq (i:=0) Z;exact aD (t:=5) Rd _
def FT {b:Int}{x:R×R}(e1:x.1=qR a b)(e2:x.2=qR c d)(q1:Q9 a b)(q2:Q9 c d)(hb1:au w b1 33 #[S x.1.1,S x.1.2,S x.2.1,S x.2.2])(ht:Tb w):
 CL 211 #[pT b1] w (aC w λv w'=>v=QV (c*b-a*d) (d*b)):=by
 have Ad:=bt hb1;refine aE func211 Z (I ?_);refine al aQ (λ_ qn qr=>?_);have hb1:=be qn.2 hb1;have O:=qn.2;refine I ?_;refine cl oT (Jm e2 e1 q2 q1 (ht.ext O)) ?_;rintro _ _ Ab rfl;have⟨hb1,qr,O⟩:=bC Ab.2 hb1 qr O;refine I ?_;refine cl tS pz ?_;rintro _ _ A1 rfl;have⟨hb1,qr,O⟩:=bC A1.2 hb1 qr O;refine SA qr (λ_ W A2=>?_);have hb1:=pb W hb1;have O:=bB W O;refine I ?_;refine aI (v:=QV (c*b-a*d) (d*b)) (cF  rfl ?_) O Z;refine ag (t:=1) (cs:=[S ((qR (c*b-a*d) (d*b)).1),S ((qR (c*b-a*d) (d*b)).2)]) (b:=w.heap.size) (o:=0) eB Z aM ?_ ?_;exact Z;exact aa1 A2 (i:=0) Z
def uQ {b:Int}{x:R×R}(e1:x.1=qR a b)(e2:x.2=qR c d)(q1:Q9 a b)(q2:Q9 c d)(hle:a*d<=c*b)(ht:Tb w):
 CL 168 #[.agg #[S x.1.1,S x.1.2,S x.2.1,S x.2.2]] w (aC w λv w'=>v=.tuple #[QV (c*b-a*d) (d*b),.int .i64 0]):=by
 refine aE func168 Z (I ?_);refine bx (λAm A2 qr=>?_);have O:=A2.2;refine al aQ (λ_ Ap qn=>?_);have⟨qr,O⟩:=bD Ap.2 qr O;refine I ?_;refine ac (cL (vf:=[]) (vc:=[pT w.heap.size]) Z Z ?_);refine ac (ar (cs:=[S x.1.1,S x.1.2,S x.2.1,S x.2.2]) (b:=w.heap.size) (o:=0) aJ Z ay Z (aa1 qr (i:=0) Z) ?_);refine BS (λ_ Ad _ Ab=>?_);have⟨qr,qn,O⟩:=bC Ad qr qn O;refine clb Qh (hc:=Ah (l:=[x]) (x:=qR (c*b-a*d) (d*b)) Qi (aa4 Ab) Z RW (λy hy=>by rw[List.mem_singleton.1 hy];exact⟨a,b,c,d,e1,e2,q1,q2,hle⟩) (λW e=>FT e1 e2 q1 q2 (qr.ext e) ((ht.ext O).ext e)) (ht.ext O)) (hk:=?_);rintro _ _ Ao rfl;have⟨qr,qn,O⟩:=bC Ao.2 qr qn O;refine I ?_;refine SA qn (λ_ A1 Af=>?_);have qr:=pb A1 qr;have O:=bB A1 O;refine I ?_;refine aI (v:=.tuple #[QV (c*b-a*d) (d*b),.int .i64 0]) (cn (r1:=.cell 2 25) (r2:=.tmp 3) Z ?_ ?_) O Z;refine ag (t:=2) (cs:=[S ((qR (c*b-a*d) (d*b)).1),S ((qR (c*b-a*d) (d*b)).2)]) (b:=Am.heap.size) (o:=0) eB Z aM ?_ ?_;exact Z;exact aa1 Af (i:=0) Z;exact aD (t:=3) Rd _
def Jw {b:Int}(e1:(l,m)=qR a b)(q1:Q9 a b)(ht:Tb w):
 CL 167 #[.agg #[S l,S m]] w (aC w λv w'=>v=.agg #[S l,S m,S l,S m]):=by
 refine aE func167 Z (I ?_);refine bx (λA2 Af qr=>?_);have O:=Af.2;refine al ap (λ_ Ad W=>?_);have⟨qr,O⟩:=bD Ad.2 qr O;refine I ?_;refine cl qF (cB (ep _ _ _ (ht.ext O)) (Ny e1 q1)) ?_;rintro _ _ Ab rfl;have⟨qr,W,O⟩:=bC Ab.2 qr W O;refine I ?_;refine ac (aV (vs:=[(0,.agg #[S l,S m]),(1,.agg #[S l,S m])]) (cells:=#[S l,S m,S l,S m]) (pl:=[(0,2),(2,2)]) aJ ap GS Z GS ?_);refine SA W (λ_ qn A1=>?_);have qr:=pb qn qr;have O:=bB qn O;refine I ?_;refine aI (v:=.agg #[S l,S m,S l,S m]) (cF  rfl ?_) O Z;refine ag (t:=2) (cs:=[S l,S m,S l,S m]) (b:=A2.heap.size) (o:=0) aJ Z ay ?_ ?_;exact Z;exact aa1 A1 (i:=0) Z
def Ak (h:n<10^12):(bQ n).length<=12:=by
 unfold bQ;split
 · simp
 · rw[dr];exact(aW 10 U n 12).2 h
def yr {b:Int}(e:(l,m)=qR a b)(h:Q9 a b)(ha:a.natAbs<10^12):(((body l).length:Nat):Int)<=12:=by
 rw[show l=ae (cG a b)from congrArg Prod.fst e,fq]
 have:=Ak (Nat.lt_of_le_of_lt (rh h.2.1) ha)
 omega
def yt {b:Int}(e:(l,m)=qR a b)(h:Q9 a b)(hb:b<10^12):((m.length:Nat):Int)<=12:=by
 rw[show m=ae (bK a b)from congrArg Prod.snd e]
 have h1:=eY (n:=a) h.2.1
 have h2:=Eu (n:=a) h.2.1
 unfold ae
 rw[if_neg U]
 have:=Ak (n:=(bK a b).natAbs) U
 omega
def gS (pl:Nat)(a b la lb ha hb:Int):Bool:=decide ((pl:Int)<=12)&&(decide (0<=aG (a*lb) (la*b))&&decide (aG (a*hb) (ha*b)<=0))
def oH {b:Int}(e:(l,m)=qR a b)(h:Q9 a b)(ha:a.natAbs<10^12)(hb:b<10^12)(ht:Tb w):
 CL 166 #[.agg #[S l,S m]] w (aC w λv w'=>v=.bool true):=by
 have h1:=yr e h ha;have h2:=yt e h hb;refine aE func166 Z (I ?_);refine bx (λ_ W qr=>?_);have O:=W.2;refine I ?_;refine cl qF (cB (ep _ _ _ (ht.ext O)) (Ny e h)) ?_;rintro _ _ A1 rfl;have⟨qr,O⟩:=bD A1.2 qr O;refine I ?_;refine cl DC (sS _ _) ?_;rintro _ _ qn rfl;have⟨qr,O⟩:=bD qn.2 qr O;refine I ?_;refine ac (cY (l:=body l) U9 Z ?_);refine I ?_;refine ac (cY (l:=m) U9 Z ?_);refine I ?_;exact ax (t:=2) (v:=.bool (decide ((((m).length:Nat):Int)<=12))) Z O (qb1 Value.bool (qa1 h2)) Z
def iK {fu:Value}{b lb hb:Int}(e:(l,m)=qR a b)(h:Q9 a b)(ha12:a.natAbs<10^12)(hb12:b<10^12)(e1:(l1,m1)=qR la lb)(q1:Q9 la lb)(e2:(l2,m2)=qR ha hb)(q2:Q9 ha hb)(hu:fu.cells=#[fu])(ht:Tb w):
 CL 121 #[.agg #[S l1,S m1,S l2,S m2,S l3,S m3,S l4,S m4,fu],.agg #[S l,S m],.int .i64 pl] w (aC w λv w'=>v=.bool (gS pl a b la lb ha hb)):=by
 refine aE func121 Z (I ?_);refine bx (λ_ Am qr=>?_);have O:=Am.2;refine bx (λ_ Af W=>?_);have⟨qr,O⟩:=bD Af.2 qr O;refine I ?_;by_cases cx:0<=(pl:Int);by_cases cm:(pl:Int)<=12;by_cases cw:0<=(aG (a*lb) (la*b));refine I ?_;refine cl BN (oH e h ha12 hb12 (ht.ext O)) ?_;rintro _ _ A2 rfl;have⟨qr,W,O⟩:=bC A2.2 qr W O;refine I ?_;refine cl ko (lf e e1 h q1 (ht.ext O)) ?_;rintro _ _ qn rfl;have⟨qr,W,O⟩:=bC qn.2 qr W O;refine I ?_;refine cl ko (lf e e2 h q2 (ht.ext O)) ?_;rintro _ _ Ao rfl;have O:=xt O Ao.2;refine I ?_;exact ax (t:=6) (v:=.bool (decide ((aG (a*hb) (ha*b))<=0))) Z O (by unfold gS;rw[decide_eq_true cm];rw[decide_eq_true cw];first|rfl|simp) Z;refine I ?_;refine cl BN (oH e h ha12 hb12 (ht.ext O)) ?_;rintro _ _ A1 rfl;have⟨qr,W,O⟩:=bC A1.2 qr W O;refine I ?_;refine cl ko (lf e e1 h q1 (ht.ext O)) ?_;rintro _ _ Ab rfl;have O:=xt O Ab.2;refine I ?_;exact ax (t:=6) (v:=.bool false) Z O (by unfold gS;rw[decide_eq_true cm];rw[decide_eq_false cw];first|rfl|simp) Z;refine I ?_;refine cl BN (oH e h ha12 hb12 (ht.ext O)) ?_;rintro _ _ Ad rfl;have O:=xt O Ad.2;refine I ?_;exact ax (t:=6) (v:=.bool false) Z O (by unfold gS;rw[decide_eq_false cm];first|rfl|simp) Z;omega
end
section
open Go Go.Eng Go.RowKit Tryz
def Y8:prog.eqGuardType prog.depth 25=false:=by kernel_rfl
def Vw:prog.stoodInHeld 25=false:=by kernel_rfl
def nU (w:World)(cs:Array Value)(i:Nat)(v:Value)(h:cs[i]?=some v):(part 9 cs i).run prog w=.ok v w:=by
 unfold part
 simp[isAgg,run_underlying underlying9,h]
def WI (w:World)(a b:List UInt8)(d:Nat):(Op.equalIn (d+1) 9 (S a) (S b)).run prog w=.ok (decide (a=b)) w:=by
 unfold Op.equalIn
 simp[run_underlying underlying9,S]
 have h:∀x y:ByteArray,(x==y)=(x.data==y.data):=λx y=>by cases x;cases y;rfl
 rw[h]
 exact Bool.eq_iff_iff.2 RW
def Vx (w:World)(a b:R):(Op.equal 25 (.agg #[S a.1,S a.2]) (.agg #[S b.1,S b.2])).run prog w=.ok (decide (a=b)) w:=by
 unfold Op.equal Op.maxDepth
 show(Op.equalIn (9998+1+1) 25 _ _).run _ _=_
 unfold Op.equalIn
 obtain⟨a1,a2⟩:=a
 obtain⟨b1,b2⟩:=b
 have p1:=nU w #[S a1,S a2] 0 (S a1) Z
 have p2:=nU w #[S a1,S a2] 1 (S a2) Z
 have p3:=nU w #[S b1,S b2] 0 (S b1) Z
 have p4:=nU w #[S b1,S b2] 1 (S b2) Z
 have O:=WI w a1 b1 9998
 have qr:=WI w a2 b2 9998
 simp[run_underlying underlying25,Vw,p1,p2,p3,p4,O,qr]
 by_cases h1:a1=b1 <;>by_cases h2:a2=b2 <;>simp[h1,h2]
section
variable {r:Option Nat}{N:Nat}{e:Nat->Value}{ds:List Deferred}{Q:Exit->Act->World->Prop}{K:Act->World->Prop}
variable {d ty:Nat}{pos:String}{af:Array Edge}{g:Option (Nat×Bool)}{v u:Value}{x y:Operand}{t t':TypeId}
def Nz {op:BinOp}(x y:Operand)(a b:Array Value):(eqGuard op 25 x y (.agg a) (.agg b)).run prog w=.ok () w:=by
 unfold eqGuard
 cases op <;>simp[Y8]
def uR {a b:R}{q:Bool}(hx:ev N e x=.agg #[S a.1,S a.2])(hy:ev N e y=.agg #[S b.1,S b.2])(hq:decide (a=b)=q)(hk:K (act N (upd e d (.bool q)) ds) w):
 Oper.wpIn (Fw r) n prog ⟨some d,.binOp .eql 25 x y t',ty,pos,af,g⟩ (act N e ds) w K Q:=
 fV hx hy (Nz ..) (by subst hq;simp[binOp,Vx]) hk
end
def Vy:prog.eqGuardType prog.depth 33=false:=by kernel_rfl
def R6:prog.stoodInHeld 33=false:=by kernel_rfl
def Pp (w:World)(a b:R)(d:Nat):(Op.equalIn (d+1+1) 25 (.agg #[S a.1,S a.2]) (.agg #[S b.1,S b.2])).run prog w=.ok (decide (a=b)) w:=by
 unfold Op.equalIn
 obtain⟨a1,a2⟩:=a
 obtain⟨b1,b2⟩:=b
 have p1:=nU w #[S a1,S a2] 0 (S a1) Z
 have p2:=nU w #[S a1,S a2] 1 (S a2) Z
 have p3:=nU w #[S b1,S b2] 0 (S b1) Z
 have p4:=nU w #[S b1,S b2] 1 (S b2) Z
 have O:=WI w a1 b1 d
 have qr:=WI w a2 b2 d
 simp[run_underlying underlying25,Vw,p1,p2,p3,p4,O,qr]
 by_cases h1:a1=b1 <;>by_cases h2:a2=b2 <;>simp[h1,h2]
abbrev Iv (x:R×R):Value:=.agg #[S x.1.1,S x.1.2,S x.2.1,S x.2.2]
section
variable {P:Program}{r:Option Nat}{N:Nat}{e:Nat->Value}{ds:List Deferred}{Q:Exit->Act->World->Prop}{K:Act->World->Prop}
variable {d ty:Nat}{pos:String}{af:Array Edge}{g:Option (Nat×Bool)}{v u:Value}{x y:Operand}{t t':TypeId}
def io {fs:Array Field}{f:Field}{D:TypeDesc}(hu:P.underlying t=some (.struct fs))(hf:fs[k]?=some f)(ho:f.offset=off)(hft:f.type=ft)(hD:P.underlying ft=some D)(hd:D.isRow=false)(hx:ev N e x=.agg cs.toArray)(hv:cs[off]?=some v)(hk:K (act N (upd e d v) ds) w):Oper.wpIn (Fw r) n P ⟨some d,.field t x k,ty,pos,af,g⟩ (act N e ds) w K Q:=by
 subst ho hft
 refine dG (v:=v) (w':=w) Z ?_ Th
 have O:(isAgg f.type).run P w=.ok false w:=by
  unfold isAgg
  rw[Sem.run_bind,run_underlying hD w]
  cases D <;>simp_all
 have hv':cs.toArray[f.offset]?=some v:=by rw[List.getElem?_toArray];exact hv
 simp[execOp,hx,Instr.field,run_underlying hu,hf,asAgg,part,O,hv]
end
def yu (w:World)(a b c d:List UInt8):(part 25 #[S a,S b,S c,S d] 0).run prog w=.ok (.agg #[S a,S b]) w:=by
 unfold part
 simp[isAgg,run_underlying underlying25]
def yv (w:World)(a b c d:List UInt8):(part 25 #[S a,S b,S c,S d] 2).run prog w=.ok (.agg #[S c,S d]) w:=by
 unfold part
 simp[isAgg,run_underlying underlying25]
def R7 (w:World)(x y:R×R):(Op.equal 33 (Iv x) (Iv y)).run prog w=.ok (decide (x=y)) w:=by
 unfold Op.equal Op.maxDepth
 show(Op.equalIn (9997+1+1+1) 33 _ _).run _ _=_
 unfold Op.equalIn
 obtain⟨⟨a1,a2⟩,O,qr⟩:=x
 obtain⟨⟨b1,b2⟩,b3,b4⟩:=y
 have p1:=yu w a1 a2 O qr
 have p2:=yv w a1 a2 O qr
 have p3:=yu w b1 b2 b3 b4
 have p4:=yv w b1 b2 b3 b4
 have W:=Pp w (a1,a2) (b1,b2) 9997
 have qn:=Pp w (O,qr) (b3,b4) 9997
 simp only[]at W qn
 simp[run_underlying underlying33,R6,p1,p2,p3,p4,W,qn]
 by_cases h1:a1=b1 <;>by_cases h2:a2=b2 <;>by_cases h3:O=b3 <;>by_cases h4:qr=b4 <;>simp[h1,h2,h3,h4]
section
variable {r:Option Nat}{N:Nat}{e:Nat->Value}{ds:List Deferred}{Q:Exit->Act->World->Prop}{K:Act->World->Prop}
variable {d ty:Nat}{pos:String}{af:Array Edge}{g:Option (Nat×Bool)}{v u:Value}{x y:Operand}{t t':TypeId}
def FU {op:BinOp}(x y:Operand)(a b:Array Value):(eqGuard op 33 x y (.agg a) (.agg b)).run prog w=.ok () w:=by
 unfold eqGuard
 cases op <;>simp[Vy]
def yw {a b:R×R}{q:Bool}(hx:ev N e x=Iv a)(hy:ev N e y=Iv b)(hq:(!decide (a=b))=q)(hk:K (act N (upd e d (.bool q)) ds) w):
 Oper.wpIn (Fw r) n prog ⟨some d,.binOp .neq 33 x y t',ty,pos,af,g⟩ (act N e ds) w K Q:=
 fV hx hy (FU ..) (by subst hq;simp[binOp,R7]) hk
end
end
section
set_option maxRecDepth 100000
open Go Go.Eng Go.RowKit Tryz
attribute [local irreducible] wpListIn Code.wpIn Oper.wpIn Exit.then Exit.inBlock Exit.noGoto
set_option maxHeartbeats 40000000
structure Pq (pl:Nat)(r:Int×Int)(f c:Int):Prop where
 b1:r.1.natAbs<10^90
 b2:r.2.natAbs<10^90
 le:r.1<=r.2
 hf:dp r.1 (aa (pl+15)) (aa pl)=f
 hc:dz r.2 (aa (pl+15)) (aa pl)=c
 f9:f.natAbs<10^70
 c9:c.natAbs<10^70
 fc:f<=c
 one:c<=f+1
def gm (h:a.natAbs<10^90)(hk:k<=80):Q9 a (aa k):=by
 refine⟨h,aZ k,?_⟩
 unfold aa
 have h1:(10:Nat)^k<=10^80:=Nat.pow_le_pow_right dc hk
 have h2:(10:Nat)^80<10^90:=by decide
 have h3:(((10:Nat)^90:Nat):Int)=(10:Int)^90:=by norm_cast
 omega
def CB :(([49],nS (10^pl)):R)=qR 1 (aa pl):=by
 rw[R4 (aZ pl) RW,<-show nS 1=ae 1 from rfl,<-yh];rfl
def width_le (h:c<=f+1)(hT:0<T):aG ((c*T-f*T)*T) (1*(T*T))<=0:=by
 rw[bS,<-Int.sub_mul,Int.mul_assoc]
 exact Int.mul_le_mul_of_nonneg_right U (Int.le_of_lt (Int.mul_pos hT hT))
def Xp (hf:f.natAbs<10^70)(hc:c.natAbs<10^70)(hp:pl<=12):Q9 (c*aa pl-f*aa pl) (aa pl*aa pl):=by
 have h1:=aZ pl
 have h2:(10:Nat)^pl<=10^12:=Nat.pow_le_pow_right dc hp
 have h3:aa pl<=1000000000000:=by unfold aa;omega
 have h4:(c*aa pl).natAbs<=10^70*1000000000000:=by rw[Int.natAbs_mul];exact qb7 U U
 have qr:(f*aa pl).natAbs<=10^70*1000000000000:=by rw[Int.natAbs_mul];exact qb7 U U
 have O:aa pl*aa pl<=1000000000000*1000000000000:=Int.mul_le_mul h3 h3 U U
 exact⟨by omega,Int.mul_pos h1 h1,by omega⟩
def NA {b hb:Int}(e:(l,m)=qR a b)(h:Q9 a b)(ha12:a.natAbs<10^12)(hb12:b<10^12)(e1:(l1,m1)=qR la lb0)(q1:Q9 la lb0)(e2:(l2,m2)=qR ha hb)(q2:Q9 ha hb){r:Int×Int}(hrt:gS pl a b la lb0 ha hb=true)(hp:pl<=12)(hne:¬((l,m):R)=(l3,m3))(hg:Enters prog g)(hbd:∀W,bF w W->CL g ([.agg #[.int .i64 ((pl+15:Nat):Int),S (nS (10^(pl+15)))],.agg #[S l,S m]].toArray++lb.toArray) W (aC W λv _=>v=.agg #[S (ae r.1),S (ae r.2)]))(hC:Pq pl r f c)(ht:Tb w):
 CL 122 #[.agg #[S l1,S m1,S l2,S m2,S l3,S m3,S l4,S m4,.func (.func g) #[] lb.toArray],.agg #[S l,S m],.int .i64 pl] w (aC w λv w'=>v=.tuple #[IV f (aa pl) c (aa pl),.int .i64 0]):=by
 have z1:=gm (k:=pl+15) hC.b1 U;have Aq:=gm (k:=pl+15) hC.b2 U;have y1:=gm (k:=pl) (a:=f) (qb0 hC.f9 dc) U;have y2:=gm (k:=pl) (a:=c) (qb0 hC.c9 dc) U;have F7:Q9 (c*aa pl-f*aa pl) (aa pl*aa pl):=Xp hC.f9 hC.c9 hp;have Ix:=gm (k:=pl) (a:=1) dc U;refine aE func122 Z (I ?_);refine bx (λF8 No O=>?_);have Ao:=No.2;refine bx (λE9 Kp qn=>?_);have⟨O,Ao⟩:=bD Kp.2 O Ao;refine al ap (λ_ Z0 A1=>?_);have⟨O,qn,Ao⟩:=bC Z0.2 O qn Ao;refine I ?_;refine ac (ar (cs:=[S l1,S m1,S l2,S m2,S l3,S m3,S l4,S m4,.func (.func g) #[] lb.toArray]) (b:=w.heap.size) (o:=0) nL Z mi Z (aa1 O (i:=0) Z) ?_);refine I ?_;refine cl qH (cB (iK e h ha12 hb12 e1 q1 e2 q2 Z (ht.ext Ao)) hrt) ?_;rintro _ E0 EW rfl;have⟨O,qn,A1,Ao⟩:=bW EW.2 O qn A1 Ao;refine I ?_;refine ac (uR (a:=(l,m)) (b:=(l3,m3)) (q:=decide ((l,m)=(l3,m3))) Z Z Z ?_);refine I ?_;refine Ru (λF1 Ne _ Ar=>?_);have⟨O,qn,A1,Ao⟩:=bW Ne O qn A1 Ao;refine I ?_
 refine JT [(7,7),(11,22),(44,111)] (λR1 e W=>(0=R1)/\(e 44=.int .i64 0)/\(F1.heap.size<=W.heap.size)/\(bF w W)/\(au W w.heap.size 128 #[S l1,S m1,S l2,S m2,S l3,S m3,S l4,S m4,.func (.func g) #[] lb.toArray])/\(au W F8.heap.size 25 #[S l,S m])/\(au W E9.heap.size 33 #[S [],S [],S [],S []])/\(World.ownsRow W E0.heap.size 3 1 (.slice (some ⟨E0.heap.size,0,none⟩) 2 2) 2 [.int .i64 15,.int .i64 40])) 0 ⟨rfl,rfl,(qa0 _),Ao,O,qn,A1,Ar⟩ ?_;rintro _ _ _ ⟨rfl,F2,Z2,qr,O,qn,A1,Ar⟩;have Z1:=bz qr;refine I ?_;obtain⟨_,oo,hA,L2⟩:=(aa4 Ar).cells 0 _ Z;refine ac (ah (i:=0) (oo:=oo+0) ju eP Z hA F2 dc Z ?_);refine ac (bP (v:=.int .i64 15) U3 Z Z L2 ?_);refine I ?_;refine ac (bb (a:=(pl:Int)) (b:=15) (c:=((pl+15:Nat):Int)) Z Z L7 U ?_);refine clb ia (hc:=fO U (ht.ext qr)) (hk:=?_);rintro _ _ W2 rfl;have⟨O,qn,A1,qr⟩:=bW W2.2 O qn A1 qr;refine al oS (λ_ G3 F6=>?_);have⟨O,qn,A1,qr⟩:=bW G3.2 O qn A1 qr;refine SA F6 (λ_ W0 A2=>?_);have⟨O,qn,A1,qr,_⟩:=l7 W0 O qn A1 qr;refine I ?_;refine ac (uo (f:=g) (lb:=lb) (vs:=[.agg #[.int .i64 (((pl+15):Nat):Int),S (nS (10^(pl+15)))],.agg #[S l,S m]]) hg Z Z (Nc (hbd _ qr)) ?_);rintro _ _ TT rfl
 have⟨O,qn,A1,A2,qr⟩:=eE TT.2 O qn A1 A2 qr;refine al cO (λ_ G4 F4=>?_);have⟨O,qn,A1,A2,qr⟩:=eE G4.2 O qn A1 A2 qr;refine SA F4 (λ_ N1 Ab=>?_);have⟨O,qn,A1,A2,qr,_⟩:=vK N1 O qn A1 A2 qr;refine I ?_;refine cl lA (gC Z Z z1.fz.1 z1.fz.2 (Int.ne_of_gt z1.2.1) (ht.ext qr)) ?_;rintro _ _ F5 rfl;have⟨O,qn,A1,A2,Ab,qr⟩:=kW F5.2 O qn A1 A2 Ab qr;refine I ?_;refine al aQ (λ_ W3 T2=>?_);have⟨O,qn,A1,A2,Ab,qr⟩:=kW W3.2 O qn A1 A2 Ab qr;refine SA T2 (λ_ W1 Ad=>?_);have⟨O,qn,A1,A2,Ab,qr,_⟩:=Ck W1 O qn A1 A2 Ab qr;refine I ?_;refine cl lA (gC Z Z Aq.fz.1 Aq.fz.2 (Int.ne_of_gt Aq.2.1) (ht.ext qr)) ?_;rintro _ _ Ax rfl;have⟨O,qn,A1,A2,Ab⟩:=dY Ax.2 O qn A1 A2 Ab;have⟨Ad,qr⟩:=bD Ax.2 Ad qr;refine I ?_;refine al aQ (λ_ E7 F3=>?_);have⟨O,qn,A1,A2,Ab⟩:=dY E7.2 O qn A1 A2 Ab;have⟨Ad,qr⟩:=bD E7.2 Ad qr;refine SA F3 (λ_ E1 Af=>?_);have⟨O,qn,A1,A2,Ab⟩:=jv E1 O qn A1 A2 Ab;have⟨Ad,qr,_⟩:=ks E1 Ad qr;refine I ?_;refine ac (aV (vs:=[(0,QV r.1 (aa (pl+15))),(1,QV r.2 (aa (pl+15)))]) (cells:=#[S ((qR r.1 (aa (pl+15))).1),S ((qR r.1 (aa (pl+15))).2),S ((qR r.2 (aa (pl+15))).1),S ((qR r.2 (aa (pl+15))).2)]) (pl:=[(0,2),(2,2)]) aJ ap GS Z GS ?_);refine I ?_
 refine clb tO (hc:=fM (Y:=.tuple #[IV f (aa pl) c (aa pl),.int .i64 0]) (mO (x:=(qR r.1 (aa (pl+15)),qR r.2 (aa (pl+15)))) Z Z z1 Aq (Int.mul_le_mul_of_nonneg_right hC.le (Int.le_of_lt z1.2.1)) U (ht.ext qr)) (by rw[hC.hf,hC.hc])) (hk:=?_);rintro _ E4 wr rfl;have⟨O,qn,A1,A2,Ab⟩:=dY wr.2 O qn A1 A2 Ab;have⟨Ad,Af,qr⟩:=bC wr.2 Ad Af qr;refine I ?_;refine al ap (λ_ Aw T3=>?_);have⟨O,qn,A1,A2,Ab⟩:=dY Aw.2 O qn A1 A2 Ab;have⟨Ad,Af,qr⟩:=bC Aw.2 Ad Af qr;refine SA T3 (λ_ Av Am=>?_);have⟨O,qn,A1,A2,Ab⟩:=jv Av O qn A1 A2 Ab;have⟨Ad,Af,qr,_⟩:=mD Av Ad Af qr;refine I ?_;refine ac (ar (cs:=[S ((qR f (aa pl)).1),S ((qR f (aa pl)).2),S ((qR c (aa pl)).1),S ((qR c (aa pl)).2)]) (b:=E4.heap.size) (o:=0) aJ Z ay Z (aa1 Am (i:=0) Z) ?_);refine cl BL (uQ (x:=(qR f (aa pl),qR c (aa pl))) Z Z y1 y2 (Int.mul_le_mul_of_nonneg_right hC.fc (Int.le_of_lt y1.2.1)) (ht.ext qr)) ?_;rintro _ _ ny rfl;have⟨O,qn,A1,A2,Ab⟩:=dY ny.2 O qn A1 A2 Ab;have⟨Ad,Af,Am,qr⟩:=bW ny.2 Ad Af Am qr;refine I ?_;refine al aQ (λ_ od Wa=>?_);have⟨O,qn,A1,A2,Ab⟩:=dY od.2 O qn A1 A2 Ab;have⟨Ad,Af,Am,qr⟩:=bW od.2 Ad Af Am qr;refine SA Wa (λ_ EE Ap=>?_);have⟨O,qn,A1,A2,Ab⟩:=jv EE O qn A1 A2 Ab;have⟨Ad,Af,Am,qr,_⟩:=l7 EE Ad Af Am qr;refine I ?_;refine bY 5 ?_;refine sf ?_
 refine aF (V:=.agg #[.int .i64 (((pl):Nat):Int),S (nS (10^pl))]) (λ_ _ Jx _=>?_) ?_;refine clb ia (hc:=fO U (ht.ext (xt qr Jx))) (hk:=?_);rintro _ _ X2 rfl;have K2:=X2.2;refine I ?_;exact fs ⟨K2,rfl⟩;refine bl (λ_ _ _ _=>by refine ac (io (cs:=[.int .i64 (((pl):Nat):Int),S (nS (10^pl))]) (v:=S (nS (10^pl))) lU Z Z Z U9 Z Z Z ?_);refine I ?_;exact cz) ?_;refine aF (V:=.agg #[S [49],S (nS (10^pl))]) (λ_ _ _ _=>?_) ?_;refine cl ew ci ?_;rintro _ _ Wb rfl;have T4:=Wb.2;refine I ?_;exact fs ⟨T4,rfl⟩;refine sf ?_;intro _ _ Ay _;have⟨O,qn,A1,A2,Ab⟩:=dY Ay.2 O qn A1 A2 Ab;have⟨Ad,Af,Am,Ap,qr⟩:=eE Ay.2 Ad Af Am Ap qr;refine cl ko (lf Z CB F7 Ix (ht.ext qr)) ?_;rintro _ _ EP rfl;have⟨O,qn,A1,A2,Ab⟩:=dY EP.2 O qn A1 A2 Ab;have⟨Ad,Af,Am,Ap,qr⟩:=eE EP.2 Ad Af Am Ap qr;refine I ?_;refine xk (qb1 Value.bool (qa1 (width_le hC.one (aZ pl)))) (I ?_);refine ac (ar (cs:=[S ((qR f (aa pl)).1),S ((qR f (aa pl)).2),S ((qR c (aa pl)).1),S ((qR c (aa pl)).2)]) (b:=E4.heap.size) (o:=0) aJ Z ay Z (aa1 Am (i:=0) Z) ?_);refine SA A1 (λ_ As Ek=>?_);have⟨O,qn,A2,Ab,Ad⟩:=jv As O qn A2 Ab Ad;have⟨Af,Am,Ap⟩:=kt As Af Am Ap;have qr:=bB As qr;refine I ?_
 refine aI (v:=.tuple #[IV f (aa pl) c (aa pl),.int .i64 0]) (cn (r1:=.cell 6 33) (r2:=.tmp 7) Z ?_ ?_) qr Z;refine ag (t:=6) (cs:=[S ((qR f (aa pl)).1),S ((qR f (aa pl)).2),S ((qR c (aa pl)).1),S ((qR c (aa pl)).2)]) (b:=E9.heap.size) (o:=0) aJ Z ay ?_ ?_;exact Z;exact aa1 Ek (i:=0) Z;exact aD (t:=7) Rd _
def NB {b hb:Int}(e:(l,m)=qR a b)(h:Q9 a b)(ha12:a.natAbs<10^12)(hb12:b<10^12)(e1:(l1,m1)=qR la lb0)(q1:Q9 la lb0)(e2:(l2,m2)=qR ha hb)(q2:Q9 ha hb)(e4:(l4,m4)=qR va vb)(q4:Q9 va vb)(hrt:gS pl a b la lb0 ha hb=true)(hp:pl<=12)(heq:((l,m):R)=(l3,m3))(ht:Tb w):
 CL 122 #[.agg #[S l1,S m1,S l2,S m2,S l3,S m3,S l4,S m4,.func (.func g) #[] lb.toArray],.agg #[S l,S m],.int .i64 pl] w (aC w λv w'=>v=.tuple #[IV (dp va vb (aa pl)) (aa pl) (dz va vb (aa pl)) (aa pl),.int .i64 0]):=by
 refine aE func122 Z (I ?_);refine bx (λ_ Ax qr=>?_);have O:=Ax.2;refine bx (λAf Av W=>?_);have⟨qr,O⟩:=bD Av.2 qr O;refine al ap (λ_ Ao qn=>?_);have⟨qr,W,O⟩:=bC Ao.2 qr W O;refine I ?_;refine ac (ar (cs:=[S l1,S m1,S l2,S m2,S l3,S m3,S l4,S m4,.func (.func g) #[] lb.toArray]) (b:=w.heap.size) (o:=0) nL Z mi Z (aa1 qr (i:=0) Z) ?_);refine I ?_;refine cl qH (cB (iK e h ha12 hb12 e1 q1 e2 q2 Z (ht.ext O)) hrt) ?_;rintro _ _ As rfl;have⟨qr,W,qn,O⟩:=bW As.2 qr W qn O;refine I ?_;refine ac (uR (a:=(l,m)) (b:=(l3,m3)) (q:=decide ((l,m)=(l3,m3))) Z Z Z ?_);refine I ?_;refine cl Qa (Jw e4 q4 (ht.ext O)) ?_;rintro _ _ Ad rfl;have⟨qr,W,qn,O⟩:=bW Ad.2 qr W qn O;refine I ?_;refine clb tO (hc:=mO (x:=((l4,m4),(l4,m4))) e4 e4 q4 q4 (Int.le_refl _) U (ht.ext O)) (hk:=?_);rintro _ Ap Ab rfl;have⟨qr,W,qn,O⟩:=bW Ab.2 qr W qn O;refine I ?_;refine al ap (λ_ Am Aq=>?_);have⟨qr,W,qn,O⟩:=bW Am.2 qr W qn O;refine SA Aq (λ_ Aw A1=>?_);have⟨qr,W,qn,O,_⟩:=l7 Aw qr W qn O;refine I ?_;refine ac (ar (cs:=[S ((qR (dp va vb (aa pl)) (aa pl)).1),S ((qR (dp va vb (aa pl)) (aa pl)).2),S ((qR (dz va vb (aa pl)) (aa pl)).1),S ((qR (dz va vb (aa pl)) (aa pl)).2)]) (b:=Ap.heap.size) (o:=0) aJ Z ay Z (aa1 A1 (i:=0) Z) ?_)
 refine SA qn (λ_ A2 Ar=>?_);have⟨qr,W,A1⟩:=kt A2 qr W A1;have O:=bB A2 O;refine I ?_;refine aI (v:=.tuple #[IV (dp va vb (aa pl)) (aa pl) (dz va vb (aa pl)) (aa pl),.int .i64 0]) (cn (r1:=.cell 6 33) (r2:=.tmp 7) Z ?_ ?_) O Z;refine ag (t:=6) (cs:=[S ((qR (dp va vb (aa pl)) (aa pl)).1),S ((qR (dp va vb (aa pl)) (aa pl)).2),S ((qR (dz va vb (aa pl)) (aa pl)).1),S ((qR (dz va vb (aa pl)) (aa pl)).2)]) (b:=Af.heap.size) (o:=0) aJ Z ay ?_ ?_;exact Z;exact aa1 Ar (i:=0) Z;exact aD (t:=7) Rd _
end
section
open Go Go.Eng Go.RowKit Tryz
def fz (v:Nat)(k:Nat->Bool):Bool:=Nat.rec (motive:=λ_=>Bool) (k 0) (λm _=>k (Nat.succ m)) v
def dl (v:Nat)(k:Nat->Bool):fz v k=k v:=by cases v <;>rfl
def LY (a b:Nat):Bool:=and (Nat.ble a 99999999999999999999999999999999999999999999999999999999999999999999999999999999999999999999999) (Nat.ble b 99999999999999999999999999999999999999999999999999999999999999999999999999999999999999999999999)
def mQ {a b:Nat}(h:LY a b=true):kO (a,b)=true:=by
 unfold LY at h
 simp only[Bool.and_eq_true,Nat.ble_eq]at h
 unfold kO
 simp only[Bool.and_eq_true,decide_eq_true_eq]
 omega
def ee {c x y:Bool}:cond c x y=true->(c=true/\x=true)\/(c=false/\y=true):=by cases c <;>simp
def gq {a b:Nat}(hb:0<b):gl a b=(a+(b-1))/b:=by
 unfold gl
 have h1:=Nat.div_add_mod a b
 have h2:=Nat.mod_lt a hb
 split
 · rename_i h
   rw[h,Nat.add_zero]at h1
   symm
   rw[Nat.div_eq_iff hb]
   rw[Nat.mul_comm]
   omega
 · rename_i h
   symm
   rw[Nat.div_eq_iff hb,Nat.add_mul,Nat.mul_comm (a/b) b]
   omega
def Jy (g h:Nat->Nat->Nat)(K:Nat->Nat->Bool)(f:Nat):Nat->Nat->Nat->Nat->Nat->Nat->Bool:=
 Nat.rec (motive:=λ_=>Nat->Nat->Nat->Nat->Nat->Nat->Bool) (λ_ _ _ _ _ _=>false)
  (λ_ ih n t1 t2 a1 a2 l=>cond (LY t1 t2) (cond (and (Nat.ble t2 2) (and (Nat.ble 2 n) (Nat.ble (Nat.mul t2 2) (Nat.add l 2))))
   (K (Nat.add a1 t1) (Nat.add (Nat.add a2 t2) (Nat.add t2 4)))
   (fz (g n t1) λu1=>fz (h n t2) λu2=>fz (Nat.add a1 t1) λc1=>fz (Nat.add a2 t2) λc2=>fz (Nat.succ n) λn'=>ih n' u1 u2 c1 c2 t2)) false) f
def Ex {nx:Nat->N2->N2}{g h:Nat->Nat->Nat}{K:Nat->Nat->Bool}(hg:∀n t,1<=n->nx n t=(g n t.1,h n t.2)):∀{f F n t1 t2 a1 a2 l:Nat},f<=F->1<=n->Jy g h K f n t1 t2 a1 a2 l=true->∃r,Cu nx F n (t1,t2) (a1,a2) l=some r/\K r.1 r.2=true
 |0,_,_,_,_,_,_,_,_,_,hk=>by cases hk
 | f + 1,F,n,t1,t2,a1,a2,l,hF,hn,hk=>by
   obtain⟨G,rfl⟩:∃G,F=G+1:=⟨F-1,by omega⟩
   change cond _ (cond _ _ _) false=true at hk
   rcases ee hk with⟨hb,hk⟩|⟨_,hk⟩
   · unfold Cu
     rw[if_pos (mQ hb)]
     rcases ee hk with⟨hs,hk⟩|⟨hs,hk⟩
     · simp only[Bool.and_eq_true,Nat.ble_eq]at hs
       rw[if_pos ⟨hs.2.1,hs.1,hs.2.2⟩]
       exact⟨_,rfl,hk⟩
     · have hs':¬(2<=n/\t2<=2/\t2*2<=l+2):=λhc=>by
        have:and (Nat.ble t2 2) (and (Nat.ble 2 n) (Nat.ble (Nat.mul t2 2) (Nat.add l 2)))=true:=by
         simp only[Bool.and_eq_true,Nat.ble_eq];exact⟨hc.2.1,hc.1,hc.2.2⟩
        rw[this]at hs;cases hs
       rw[if_neg hs',hg n _ hn]
       rw[dl,dl,dl,dl,dl]at hk
       have hk':Jy g h K f (n+1) (g n t1) (h n t2) (a1+t1) (a2+t2) t2=true:=hk
       exact Ex hg U U hk'
   · cases hk
def Jz {nx:Nat->N2->N2}{g h:Nat->Nat->Nat}{K:Nat->Nat->Bool}{f t1 t2:Nat}(hg:∀n t,1<=n->nx n t=(g n t.1,h n t.2))(hf:f<=1000)(hk:Jy g h K f 1 t1 t2 0 0 0=true):∃r,zR nx (t1,t2)=some r/\K r.1 r.2=true:=
 Ex hg hf (qa0 1) hk
def Xq (S S1:Nat)(K:Nat->Nat->Bool)(h:Nat):Nat->Nat->Bool:=
 Nat.rec (motive:=λ_=>Nat->Nat->Bool) (λa b=>cond (LY a b) (K a b) false) (λ_ ih a b=>cond (LY a b) (fz (Nat.div (Nat.mul a a) S) λu=>fz (Nat.div (Nat.add (Nat.mul b b) S1) S) λv=>ih u v) false) h
def JB {S S1:Nat}{K:Nat->Nat->Bool}(hS:0<S)(h1:S1=S-1):∀{h a b:Nat},Xq S S1 K h a b=true->∃r,y6 S h (a,b)=some r/\K r.1 r.2=true
 | 0,a,b,hk=>by
   change cond _ _ _=true at hk
   rcases ee hk with⟨hb,hk⟩|⟨_,hk⟩
   · unfold y6;rw[if_pos (mQ hb)];exact⟨_,rfl,hk⟩
   · cases hk
 | h +1,a,b,hk=>by
   change cond _ _ _=true at hk
   rcases ee hk with⟨hb,hk⟩|⟨_,hk⟩
   · unfold y6;rw[if_pos (mQ hb)]
     rw[dl,dl]at hk
     have hk':Xq S S1 K h (Nat.div (Nat.mul a a) S) (Nat.div (Nat.add (Nat.mul b b) S1) S)=true:=hk
     have h2:=JB hS h1 hk'
     rw[show cg S (a,b) (a,b)=(Nat.div (Nat.mul a a) S,Nat.div (Nat.add (Nat.mul b b) S1) S)by unfold cg;rw[gq hS,h1];rfl]
     exact h2
   · cases hk
def JC (S:Nat)(K:Nat->Nat->Nat->Bool)(f:Nat):Nat->Nat->Nat->Bool:=
 Nat.rec (motive:=λ_=>Nat->Nat->Nat->Bool) (λ_ _ _=>false) (λ_ ih a b h=>cond (Nat.ble (Nat.mul b 2) S) (K a b h) (fz (Nat.div a 2) λu=>fz (Nat.div (Nat.add b 1) 2) λv=>fz (Nat.succ h) λi=>ih u v i)) f
def Al {S:Nat}{K:Nat->Nat->Nat->Bool}:∀{f F a b h:Nat},f<=F->JC S K f a b h=true->∃p,i7 S F (a,b) h=some p/\K p.1.1 p.1.2 p.2=true
 |0,_,_,_,_,_,hk=>by cases hk
 | f +1,F,a,b,h,hF,hk=>by
   obtain⟨G,rfl⟩:∃G,F=G+1:=⟨F-1,by omega⟩
   change cond _ _ _=true at hk
   unfold i7
   rcases ee hk with⟨hb,hk⟩|⟨hb,hk⟩
   · have:b*2<=S:=by simpa using hb
     rw[if_neg (by simp only;omega)];exact⟨_,rfl,hk⟩
   · have:¬b*2<=S:=λhc=>by rw[show Nat.ble (Nat.mul b 2) S=true from Nat.ble_eq_true_of_le hc]at hb;cases hb
     rw[if_pos (by simp only;omega)]
     rw[dl,dl,dl]at hk
     have hk':JC S K f (Nat.div a 2) (Nat.div (Nat.add b 1) 2) (h+1)=true:=hk
     have h2:=Al (F:=G) U hk'
     rw[show cH (a,b) 1 2=(Nat.div a 2,Nat.div (Nat.add b 1) 2)by unfold cH;rw[gq dc,Nat.mul_one,Nat.mul_one];rfl]
     exact h2
def R8 (S S1:Nat)(K:Nat->Nat->Bool)(a b:Nat):Bool:=
 cond (LY a b) (JC S (λy1 y2 h=>Jy (λn t=>Nat.div (Nat.div (Nat.mul t y1) S) n) (λn t=>Nat.div (Nat.add (Nat.div (Nat.add (Nat.mul t y2) S1) S) (Nat.pred n)) n) (Xq S S1 K h) 100 1 S S 0 0 0) 60 a b 0) false
def NC {S a b:Nat}{K:Nat->Nat->Bool}(hS:0<S)(h1:S1=S-1)(hk:R8 S S1 K a b=true):∃r,yi S (a,b)=some r/\K r.1 r.2=true:=by
 unfold R8 at hk
 rcases ee hk with⟨hb,hk⟩|⟨_,hk⟩
 · obtain⟨p,O,hk⟩:=Al (F:=200) dc hk
   obtain⟨s,hs,hk⟩:=Jz (nx:=Cv S p.1) (λn t _=>by
    unfold Cv cH cg
    simp only[Nat.mul_one]
    rw[gq hS,gq U,h1];rfl) dc hk
   obtain⟨r,hr,hk⟩:=JB hS h1 hk
   refine⟨r,?_,hk⟩
   unfold yi
   rw[if_pos (mQ hb),O,Option.bind_some,Nat.one_mul,hs,Option.bind_some]
   exact hr
 · cases hk
def R9 :dp (u:Int) (aa (pl+k)) (aa pl)=((u/10^k:Nat):Int):=by
 unfold dp aa
 rw[<-Int.natCast_mul,<-Int.natCast_ediv,Nat.pow_add,Nat.mul_comm (10^pl) (10^k),Nat.mul_div_mul_right _ _ (Nat.pow_pos dc)]
def Vz :dz (u:Int) (aa (pl+k)) (aa pl)=((gl u (10^k):Nat):Int):=by
 have h1:=R9 (u:=u) (pl:=pl) (k:=k)
 unfold dp at h1
 unfold dz gl
 rw[h1]
 have O:0<10^pl:=Nat.pow_pos dc
 have h2:(u:Int)*aa pl%aa (pl+k)=((u%10^k*10^pl:Nat):Int):=by
  unfold aa
  rw[<-Int.natCast_mul,<-Int.natCast_emod,Nat.pow_add,Nat.mul_comm (10^pl) (10^k),Nat.mul_mod_mul_right]
 rw[h2]
 by_cases h:u%10^k=0
 · rw[if_pos h,if_pos (by rw[h,Nat.zero_mul];rfl)]
 · have h4:0<u%10^k*10^pl:=Nat.mul_pos U O
   rw[if_neg h,if_neg U];rfl
def j9 {b:Int}(hb:0<b):dp (-a) b t= -dz a b t:=by
 unfold dp dz
 rw[Int.neg_mul,Int.neg_ediv]
 by_cases h:a*t%b=0
 · rw[if_pos h,if_pos (Int.dvd_of_emod_eq_zero h)];omega
 · rw[if_neg h,if_neg (λhd=>h (Int.emod_eq_zero_of_dvd hd)),Int.sign_eq_one_of_pos hb];omega
def pB {b:Int}(hb:0<b):dz (-a) b t= -dp a b t:=by
 have h:=j9 (a:=-a) (t:=t) hb
 rw[Int.neg_neg]at h
 omega
def lg {b:Int}:dp a b t<=dz a b t:=by unfold dp dz;split <;>omega
def Pr (k a b:Nat)(K:Nat->Nat->Bool):Bool:=
 cond (and (Nat.ble a b) (Nat.ble b 1000000000000000000000000000000000000000000000000000000000000)) (fz (Nat.div a k) λf=>fz (Nat.div (Nat.add b (Nat.pred k)) k) λc=>cond (Nat.ble c (Nat.succ f)) (K f c) false) false
def Sa (ck:Nat->Bool)(n:Nat):Bool:=Nat.rec (motive:=λ_=>Bool) true (λm ih=>cond (ck (Nat.succ m)) ih false) n
def Ey {ck:Nat->Bool}:∀{n:Nat},Sa ck n=true->∀i,1<=i->i<=n->ck i=true
 |0,_,i,h1,h2=>by omega
 | n + 1,h,i,h1,h2=>by
   change cond _ _ _=true at h
   rcases ee h with⟨h3,h⟩|⟨_,h⟩
   · by_cases e:i=n+1
     · subst e;exact h3
     · have h':Sa ck n=true:=h
       exact Ey h' i h1 U
   · cases h
def VA {S N d:Nat}(hd:0<d):bV S N d=(Nat.div (Nat.mul N S) d,Nat.div (Nat.add (Nat.mul N S) (Nat.pred d)) d):=by unfold bV;rw[gq hd];rfl
def WJ (S S1 c1 c2:Nat)(K:Nat->Nat->Bool)(n d:Nat):Bool:=
 fz (Nat.mul n S) λu=>fz (Nat.div u d) λv1=>fz (Nat.div (Nat.add u (Nat.pred d)) d) λv2=>fz (Nat.div (Nat.mul v1 v1) S) λq1=>fz (Nat.div (Nat.add (Nat.mul v2 v2) S1) S) λq2=>
 cond (and (LY n d) (and (LY v1 v2) (LY q1 q2))) (Jy (λn t=>Nat.div (Nat.div (Nat.mul t q1) S) (Nat.succ (Nat.mul 2 n))) (λn t=>Nat.div (Nat.add (Nat.div (Nat.add (Nat.mul t q2) S1) S) (Nat.mul 2 n)) (Nat.succ (Nat.mul 2 n)))
  (λs1 s2=>cond (LY s1 s2) (R8 S S1 (λe1 e2=>fz (Nat.div (Nat.mul e1 c1) S) λm1=>fz (Nat.div (Nat.add (Nat.mul e2 c2) S1) S) λm2=>cond (and (Nat.ble 1 m1) (Nat.ble 1 m2)) (fz (Nat.div (Nat.mul s1 S) m2) λr1=>fz (Nat.div (Nat.add (Nat.mul s2 S) (Nat.pred m1)) m1) λr2=>K r1 r2) false) (Nat.div q1 2) (Nat.div (Nat.succ q2) 2)) false) 500 1 v1 v2 0 0 0) false
def JD {S d:Nat}{c:N2}{K:Nat->Nat->Bool}(hS:0<S)(h1:S1=S-1)(hc:im S (cH (jf pl,jf pl+1) 2 1)=some c)(hcb:kO c=true)(hd:0<d)(hk:WJ S S1 c.1 c.2 K n d=true):∃r,GQ S pl n d=some r/\K r.1 r.2=true:=by
 unfold WJ at hk
 rw[dl,dl,dl,dl,dl]at hk
 rcases ee hk with⟨hb,hk⟩|⟨_,hk⟩
 · simp only[Bool.and_eq_true]at hb
   have O:(Nat.div (Nat.mul n S) d,Nat.div (Nat.add (Nat.mul n S) (Nat.pred d)) d)=bV S n d:=(VA hd).symm
   rw[show Nat.div (Nat.mul n S) d=(bV S n d).1 from congrArg Prod.fst O,show Nat.div (Nat.add (Nat.mul n S) (Nat.pred d)) d=(bV S n d).2 from congrArg Prod.snd O]at hb hk
   have qr:(Nat.div (Nat.mul (bV S n d).1 (bV S n d).1) S,Nat.div (Nat.add (Nat.mul (bV S n d).2 (bV S n d).2) S1) S)=cg S (bV S n d) (bV S n d):=by unfold cg;rw[gq hS,h1];rfl
   rw[show Nat.div (Nat.mul (bV S n d).1 (bV S n d).1) S=(cg S (bV S n d) (bV S n d)).1 from congrArg Prod.fst qr,show Nat.div (Nat.add (Nat.mul (bV S n d).2 (bV S n d).2) S1) S=(cg S (bV S n d) (bV S n d)).2 from congrArg Prod.snd qr]at hb hk
   obtain⟨s,hs,hk⟩:=Jz (nx:=RP S (cg S (bV S n d) (bV S n d))) (λn t _=>by
    unfold RP cH
    simp only[Nat.mul_one]
    rw[gq U,show 2*n+1-1=2*n from rfl]
    unfold cg
    simp only[]
    rw[gq hS,h1];rfl) dc hk
   rcases ee hk with⟨hsb,hk⟩|⟨_,hk⟩
   · obtain⟨e,qn,hk⟩:=NC hS h1 hk
     simp only[dl]at hk
     rcases ee hk with⟨hm,hk⟩|⟨_,hk⟩
     · simp only[Bool.and_eq_true,Nat.ble_eq]at hm
       have W:(Nat.div (Nat.mul e.1 c.1) S,Nat.div (Nat.add (Nat.mul e.2 c.2) S1) S)=cg S e c:=by unfold cg;rw[gq hS,h1];rfl
       rw[show Nat.div (Nat.mul e.1 c.1) S=(cg S e c).1 from congrArg Prod.fst W,show Nat.div (Nat.add (Nat.mul e.2 c.2) S1) S=(cg S e c).2 from congrArg Prod.snd W]at hm hk
       refine⟨vQ S s (cg S e c),?_,?_⟩
       · unfold GQ
         rw[if_pos ⟨mQ hb.1,hd,mQ hb.2.1,mQ hb.2.2⟩,hs,Option.bind_some]
         rw[show cH (cg S (bV S n d) (bV S n d)) 1 2=(Nat.div (cg S (bV S n d) (bV S n d)).1 2,Nat.div (Nat.succ (cg S (bV S n d) (bV S n d)).2) 2)by unfold cH;rw[gq dc,Nat.mul_one,Nat.mul_one];rfl,qn,Option.bind_some,hc,Option.bind_some,if_pos ⟨mQ hsb,hcb,by omega,by omega⟩]
       · unfold vQ
         rw[gq U]
         exact hk
     · cases hk
   · cases hk
 · cases hk
end
section
open Go Go.Eng Go.RowKit Tryz
attribute [local irreducible] wpListIn Code.wpIn Oper.wpIn Exit.then Exit.inBlock Exit.noGoto
set_option maxHeartbeats 40000000
def JE:(([45]++nS (10^13),[49]):R)=qR (-10000000000000) 1:=by decide +kernel
def JF:((nS (10^13),[49]):R)=qR 10000000000000 1:=by decide +kernel
def Xr:(([45,56],[49]):R)=qR (-8) 1:=by decide +kernel
def YR:(([56],[49]):R)=qR 8 1:=by decide +kernel
def An:Q9 (-10000000000000) 1:=⟨by decide,by decide,by decide⟩
def Au:Q9 10000000000000 1:=⟨by decide,by decide,by decide⟩
def Sb:Q9 (-8) 1:=⟨by decide,by decide,by decide⟩
def VB:Q9 8 1:=⟨by decide,by decide,by decide⟩
set_option maxRecDepth 100000 in
def wH {b:Int}(e:(l,m)=qR a b)(h:Q9 a b)(ha12:a.natAbs<10^12)(hb12:b<10^12)(hrt:gS pl a b (-10000000000000) 1 10000000000000 1=true)(h8:0<aG (a*1) (-8*b))(h9:aG (a*1) (8*b)<0)(hc:∀W,bF w W->CL 122 #[.agg #[S ([45]++nS (10^13)),S [49],S (nS (10^13)),S [49],S [48],S [49],S [49],S [50],.func (.func 120) #[] #[]],.agg #[S l,S m],.int .i64 pl] W (aC W λv _=>v=.tuple #[.agg #[S y1,S y2,S y3,S y4],.int .i64 er]))(ht:Tb w):
 CL 69 #[.agg #[S l,S m],.int .i64 pl] w (aC w λv w'=>v=.tuple #[.agg #[S y1,S y2,S y3,S y4],.int .i64 er]):=by
 refine aE func69 Z (I ?_);refine bx (λF4 EW qr=>?_);have O:=EW.2;refine al ap (λ_ Aw qn=>?_);have qr:=be Aw.2 qr;have O:=xt O Aw.2;refine I ?_;refine clb ia (hc:=fO (pl:=13) dc (ht.ext O)) (hk:=?_);rintro _ _ Ap rfl;have qr:=be Ap.2 qr;have qn:=be Ap.2 qn;have O:=xt O Ap.2;refine ac (io (cs:=[.int .i64 ((13:Nat):Int),S (nS (10^13))]) (v:=S (nS (10^13))) lU Z Z Z U9 Z Z Z ?_);refine ac (km (a:=[45]) (b:=nS (10^13)) Z Z Nd ?_);refine cl ew ci ?_;rintro _ _ Av rfl;have qr:=be Av.2 qr;have qn:=be Av.2 qn;have O:=xt O Av.2;refine clb ia (hc:=fO (pl:=13) dc (ht.ext O)) (hk:=?_);rintro _ _ Aq rfl;have qr:=be Aq.2 qr;have qn:=be Aq.2 qn;have O:=xt O Aq.2;refine ac (io (cs:=[.int .i64 ((13:Nat):Int),S (nS (10^13))]) (v:=S (nS (10^13))) lU Z Z Z U9 Z Z Z ?_);refine cl ew ci ?_;rintro _ _ Ar rfl;have qr:=be Ar.2 qr;have qn:=be Ar.2 qn;have O:=xt O Ar.2;refine cl ew ci ?_;rintro _ _ Am rfl;have qr:=be Am.2 qr;have qn:=be Am.2 qn;have O:=xt O Am.2;refine cl ew ci ?_;rintro _ ny od rfl;have qr:=be od.2 qr;have qn:=be od.2 qn
 have O:=xt O od.2;refine ac (aV (vs:=[(0,.agg #[S (([45])++(nS (10^13))),S [49]]),(1,.agg #[S (nS (10^13)),S [49]]),(2,.agg #[S [48],S [49]]),(3,.agg #[S [49],S [50]]),(4,.func (.func 120) #[] #[])]) (cells:=#[S (([45])++(nS (10^13))),S [49],S (nS (10^13)),S [49],S [48],S [49],S [49],S [50],.func (.func 120) #[] #[]]) (pl:=[(0,2),(2,2),(4,2),(6,2),(8,1)]) nL m5 GS Z GS ?_);refine al m5 (λ_ Ao EE=>?_);have qr:=be Ao.2 qr;have qn:=be Ao.2 qn;have O:=xt O Ao.2;refine SA EE (λ_ Ad A1=>?_);have qr:=pb Ad qr;have qn:=pb Ad qn;have O:=bB Ad O;have F5:=mC Ad;refine I ?_;refine bY 13 ?_;refine bl (λ_ _ E0 _=>by have A1:=be E0 A1;refine ac (ar (cs:=[S (([45])++(nS (10^13))),S [49],S (nS (10^13)),S [49],S [48],S [49],S [49],S [50],.func (.func 120) #[] #[]]) (b:=ny.heap.size) (o:=0) nL Z mi Z (aa1 A1 (i:=0) Z) ?_);refine I ?_;exact cz) ?_
 refine sf ?_;refine aF (V:=.bool true) (λ_ _ EP _=>?_) ?_;refine cl qH (cB (iK e h ha12 hb12 JE An JF Au Z (ht.ext (xt O EP))) hrt) ?_;rintro _ _ Ay rfl;have F1:=Ay.2;refine I ?_;exact fs ⟨F1,rfl⟩;refine sf ?_;refine aF (V:=.agg #[S [45,56],S [49]]) (λ_ _ _ _=>?_) ?_;refine I ?_;refine cl ew ci ?_;rintro _ _ E1 rfl;have E4:=E1.2;refine I ?_;exact fs ⟨E4,rfl⟩;refine aF (V:=.int .i64 (aG (a*1) (-8*b))) (λ_ _ Ax _=>?_) ?_;refine I ?_;refine cl ko (lf e Xr h Sb (ht.ext (xt O Ax))) ?_;rintro _ _ E7 rfl;have Ek:=E7.2;refine I ?_;exact fs ⟨Ek,rfl⟩;refine sf ?_;refine aF (V:=.agg #[S [56],S [49]]) (λ_ _ _ _=>?_) ?_;refine I ?_;refine cl ew ci ?_;rintro _ _ E9 rfl;have F2:=E9.2;refine I ?_;exact fs ⟨F2,rfl⟩;refine sf ?_;intro _ _ Ab _;have qr:=be Ab.2 qr;have qn:=be Ab.2 qn;have A1:=be Ab.2 A1;have O:=xt O Ab.2;with_reducible refine mB Z ?_
 refine I ?_;refine cl ko (lf e YR h VB (ht.ext O)) ?_;rintro _ _ A2 rfl;have qr:=be A2.2 qr;have qn:=be A2.2 qn;have A1:=be A2.2 A1;have O:=xt O A2.2;refine I ?_;refine ac (ar (cs:=[S (([45])++(nS (10^13))),S [49],S (nS (10^13)),S [49],S [48],S [49],S [49],S [50],.func (.func 120) #[] #[]]) (b:=ny.heap.size) (o:=0) nL Z mi Z (aa1 A1 (i:=0) Z) ?_);refine I ?_;refine cl Qd (hc _ O) ?_;rintro _ _ Af rfl;have qr:=be Af.2 qr;have qn:=be Af.2 qn;have A1:=be Af.2 A1;have O:=xt O Af.2;refine I ?_;refine SA qn (λ_ As F3=>?_);have qr:=pb As qr;have A1:=pb As A1;have O:=bB As O;refine I ?_;refine aI (v:=.tuple #[.agg #[S y1,S y2,S y3,S y4],.int .i64 er]) (cn (r1:=.cell 4 33) (r2:=.tmp 5) Z ?_ ?_) O Z;refine ag (t:=4) (cs:=[S y1,S y2,S y3,S y4]) (b:=F4.heap.size) (o:=0) aJ Z ay ?_ ?_;exact Z;exact aa1 F3 (i:=0) Z;exact aD (t:=5) Rd _
def jR (h:x<y):aG x y<0:=dy.2 h
def pC (h:¬x<y):¬aG x y<0:=λc=>h (dy.1 c)
def ip (h:y<x):0<aG x y:=by rw[dk h];decide
def ja (h:¬y<x):¬0<aG x y:=by have:=(bS (x:=x) (y:=y)).2 U;omega
def JG {b:Int}(hb:0<b):qR a b=(ae (cG a b),nS (bK a b).toNat):=by
 unfold qR nS
 have:=eY (n:=a) hb
 rw[show(((bK a b).toNat:Nat):Int)=bK a b by omega]
structure lh (k pl:Nat)(r:Int×Int)(f c:Int):Prop where
 b1:r.1.natAbs<10^90
 b2:r.2.natAbs<10^90
 le:r.1<=r.2
 hf:dp r.1 (aa (pl+k)) (aa pl)=f
 hc:dz r.2 (aa (pl+k)) (aa pl)=c
 f9:f.natAbs<10^70
 c9:c.natAbs<10^70
 fc:f<=c
def lh.r {r:Int×Int}(h:lh 15 pl r f c)(h1:c<=f+1):Pq pl r f c:=⟨h.b1,h.b2,h.le,h.hf,h.hc,h.f9,h.c9,h.fc,h1⟩
def JH (h:f+1<c)(hT:0<T):¬aG ((c*T-f*T)*T) (1*(T*T))<=0:=by
 rw[bS,<-Int.sub_mul,Int.mul_assoc]
 have h1:0<T*T:=Int.mul_pos hT hT
 have h2:2*(T*T)<=(c-f)*(T*T):=Int.mul_le_mul_of_nonneg_right U (Int.le_of_lt h1)
 omega
set_option maxRecDepth 100000 in
def JI {b hb:Int}(e:(l,m)=qR a b)(h:Q9 a b)(ha12:a.natAbs<10^12)(hb12:b<10^12)(e1:(l1,m1)=qR la lb0)(q1:Q9 la lb0)(e2:(l2,m2)=qR ha hb)(q2:Q9 ha hb){r1 r2:Int×Int}(hrt:gS pl a b la lb0 ha hb=true)(hp:pl<=12)(hne:¬((l,m):R)=(l3,m3))(hg:Enters prog g)(hbd1:∀W,bF w W->CL g ([.agg #[.int .i64 ((pl+15:Nat):Int),S (nS (10^(pl+15)))],.agg #[S l,S m]].toArray++lb.toArray) W (aC W λv _=>v=.agg #[S (ae r1.1),S (ae r1.2)]))(hbd2:∀W,bF w W->CL g ([.agg #[.int .i64 ((pl+40:Nat):Int),S (nS (10^(pl+40)))],.agg #[S l,S m]].toArray++lb.toArray) W (aC W λv _=>v=.agg #[S (ae r2.1),S (ae r2.2)]))(hC1:lh 15 pl r1 f1 c1)(hno:f1+1<c1)(hC2:lh 40 pl r2 f2 c2)(hone:c2<=f2+1)(ht:Tb w):
 CL 122 #[.agg #[S l1,S m1,S l2,S m2,S l3,S m3,S l4,S m4,.func (.func g) #[] lb.toArray],.agg #[S l,S m],.int .i64 pl] w (aC w λv w'=>v=.tuple #[IV f2 (aa pl) c2 (aa pl),.int .i64 0]):=by
 have E0:=gm (k:=pl+15) hC1.b1 U;have E7:=gm (k:=pl+15) hC1.b2 U;have R1:=gm (k:=pl) (a:=f1) (qb0 hC1.f9 dc) U;have ZH:=gm (k:=pl) (a:=c1) (qb0 hC1.c9 dc) U;have Z5:Q9 (c1*aa pl-f1*aa pl) (aa pl*aa pl):=Xp hC1.f9 hC1.c9 hp;have Ay:=gm (k:=pl+40) hC2.b1 U;have E1:=gm (k:=pl+40) hC2.b2 U;have W3:=gm (k:=pl) (a:=f2) (qb0 hC2.f9 dc) U;have ZB:=gm (k:=pl) (a:=c2) (qb0 hC2.c9 dc) U;have ZG:Q9 (c2*aa pl-f2*aa pl) (aa pl*aa pl):=Xp hC2.f9 hC2.c9 hp;have X2:=gm (k:=pl) (a:=1) dc U;refine aE func122 Z (I ?_);refine bx (λZY ZE qr=>?_);have Av:=ZE.2;refine bx (λWb ZV qn=>?_);have⟨qr,Av⟩:=bD ZV.2 qr Av;refine al ap (λ_ ZT A1=>?_);have⟨qr,qn,Av⟩:=bC ZT.2 qr qn Av;refine I ?_;refine ac (ar (cs:=[S l1,S m1,S l2,S m2,S l3,S m3,S l4,S m4,.func (.func g) #[] lb.toArray]) (b:=w.heap.size) (o:=0) nL Z mi Z (aa1 qr (i:=0) Z) ?_);refine I ?_;refine cl qH (cB (iK e h ha12 hb12 e1 q1 e2 q2 Z (ht.ext Av)) hrt) ?_;rintro _ W1 ZD rfl;have⟨qr,qn,A1,Av⟩:=bW ZD.2 qr qn A1 Av;refine I ?_;refine ac (uR (a:=(l,m)) (b:=(l3,m3)) (q:=decide ((l,m)=(l3,m3))) Z Z Z ?_);refine I ?_;refine Ru (λZP Zo _ A2=>?_)
 have⟨qr,qn,A1,Av⟩:=bW Zo qr qn A1 Av;refine I ?_;refine JT [(7,7),(11,22),(44,111)] (λZm e W=>∃i:Nat,(2-i=Zm)/\(e 44=.int .i64 i)/\(i<=1)/\(ZP.heap.size<=W.heap.size)/\(bF w W)/\(au W w.heap.size 128 #[S l1,S m1,S l2,S m2,S l3,S m3,S l4,S m4,.func (.func g) #[] lb.toArray])/\(au W ZY.heap.size 25 #[S l,S m])/\(au W Wb.heap.size 33 #[S [],S [],S [],S []])/\(World.ownsRow W W1.heap.size 3 1 (.slice (some ⟨W1.heap.size,0,none⟩) 2 2) 2 [.int .i64 15,.int .i64 40])) (2-0) ⟨0,rfl,rfl,dc,(qa0 _),Av,qr,qn,A1,A2⟩ ?_;rintro _ _ _ ⟨i,rfl,K2,hi,Zx,O,qr,qn,A1,A2⟩;have Zv:=bz O;by_cases hz0:i=0;obtain rfl:i=0:=J
 refine I ?_;obtain⟨bk,oo,hA,F3⟩:=(aa4 A2).cells 0 _ Z;refine ac (ah (i:=0) (oo:=oo+0) ju eP Z hA K2 dc Z ?_);refine ac (bP (v:=.int .i64 15) U3 Z Z F3 ?_);refine I ?_;refine ac (bb (a:=(pl:Int)) (b:=15) (c:=((pl+15:Nat):Int)) Z Z L7 U ?_);refine clb ia (hc:=fO U (ht.ext O)) (hk:=?_);rintro _ _ F7 rfl;have⟨qr,qn,A1⟩:=rQ F7.2 qr qn A1;have A2:=aX F7.2 A2;have O:=xt O F7.2;refine al oS (λ_ E9 Z3=>?_);have⟨qr,qn,A1⟩:=rQ E9.2 qr qn A1;have A2:=aX E9.2 A2;have O:=xt O E9.2;refine SA Z3 (λ_ E4 Af=>?_);have⟨qr,qn,A1⟩:=kt E4 qr qn A1;have A2:=g9 E4 CA A2;have O:=bB E4 O;have Zw:=mC E4;refine I ?_;refine ac (uo (f:=g) (lb:=lb) (vs:=[.agg #[.int .i64 (((pl+15):Nat):Int),S (nS (10^(pl+15)))],.agg #[S l,S m]]) hg Z Z (Nc (hbd1 _ O)) ?_);rintro _ _ Ek rfl;have⟨qr,qn,A1⟩:=rQ Ek.2 qr qn A1;have A2:=aX Ek.2 A2;have⟨Af,O⟩:=bD Ek.2 Af O;refine al cO (λ_ EW Zk=>?_);have⟨qr,qn,A1⟩:=rQ EW.2 qr qn A1;have A2:=aX EW.2 A2;have⟨Af,O⟩:=bD EW.2 Af O;refine SA Zk (λ_ F1 Am=>?_);have⟨qr,qn,A1⟩:=kt F1 qr qn A1;have A2:=g9 F1 CA A2;have⟨Af,O,_⟩:=ks F1 Af O;refine I ?_
 refine cl lA (gC Z Z E0.fz.1 E0.fz.2 (Int.ne_of_gt E0.2.1) (ht.ext O)) ?_;rintro _ _ F5 rfl;have⟨qr,qn,A1⟩:=rQ F5.2 qr qn A1;have A2:=aX F5.2 A2;have⟨Af,Am,O⟩:=bC F5.2 Af Am O;refine I ?_;refine al aQ (λ_ G3 ZN=>?_);have⟨qr,qn,A1⟩:=rQ G3.2 qr qn A1;have A2:=aX G3.2 A2;have⟨Af,Am,O⟩:=bC G3.2 Af Am O;refine SA ZN (λ_ Jx Aq=>?_);have⟨qr,qn,A1⟩:=kt Jx qr qn A1;have A2:=g9 Jx CA A2;have⟨Af,Am,O,_⟩:=mD Jx Af Am O;refine I ?_;refine cl lA (gC Z Z E7.fz.1 E7.fz.2 (Int.ne_of_gt E7.2.1) (ht.ext O)) ?_;rintro _ _ EP rfl;have⟨qr,qn,A1⟩:=rQ EP.2 qr qn A1;have A2:=aX EP.2 A2;have⟨Af,Am,Aq,O⟩:=bW EP.2 Af Am Aq O;refine I ?_;refine al aQ (λ_ L2 ZR=>?_);have⟨qr,qn,A1⟩:=rQ L2.2 qr qn A1;have A2:=aX L2.2 A2;have⟨Af,Am,Aq,O⟩:=bW L2.2 Af Am Aq O;refine SA ZR (λ_ EE As=>?_);have⟨qr,qn,A1⟩:=kt EE qr qn A1;have A2:=g9 EE CA A2;have⟨Af,Am,Aq,O,_⟩:=l7 EE Af Am Aq O;refine I ?_;refine ac (aV (vs:=[(0,QV r1.1 (aa (pl+15))),(1,QV r1.2 (aa (pl+15)))]) (cells:=#[S ((qR r1.1 (aa (pl+15))).1),S ((qR r1.1 (aa (pl+15))).2),S ((qR r1.2 (aa (pl+15))).1),S ((qR r1.2 (aa (pl+15))).2)]) (pl:=[(0,2),(2,2)]) aJ ap GS Z GS ?_);refine I ?_
 refine clb tO (hc:=fM (Y:=.tuple #[IV f1 (aa pl) c1 (aa pl),.int .i64 0]) (mO (x:=(qR r1.1 (aa (pl+15)),qR r1.2 (aa (pl+15)))) Z Z E0 E7 (Int.mul_le_mul_of_nonneg_right hC1.le (Int.le_of_lt E0.2.1)) U (ht.ext O)) (by rw[hC1.hf,hC1.hc])) (hk:=?_);rintro _ ZC Ix rfl;have⟨qr,qn,A1⟩:=rQ Ix.2 qr qn A1;have A2:=aX Ix.2 A2;have⟨Af,Am,Aq,As,O⟩:=eE Ix.2 Af Am Aq As O;refine I ?_;refine al ap (λ_ N1 ZS=>?_);have⟨qr,qn,A1⟩:=rQ N1.2 qr qn A1;have A2:=aX N1.2 A2;have⟨Af,Am,Aq,As,O⟩:=eE N1.2 Af Am Aq As O;refine SA ZS (λ_ F2 Aw=>?_);have⟨qr,qn,A1⟩:=kt F2 qr qn A1;have A2:=g9 F2 CA A2;have⟨Af,Am,Aq,As,O,_⟩:=vK F2 Af Am Aq As O;refine I ?_;refine ac (ar (cs:=[S ((qR f1 (aa pl)).1),S ((qR f1 (aa pl)).2),S ((qR c1 (aa pl)).1),S ((qR c1 (aa pl)).2)]) (b:=ZC.heap.size) (o:=0) aJ Z ay Z (aa1 Aw (i:=0) Z) ?_);refine cl BL (uQ (x:=(qR f1 (aa pl),qR c1 (aa pl))) Z Z R1 ZH (Int.mul_le_mul_of_nonneg_right hC1.fc (Int.le_of_lt R1.2.1)) (ht.ext O)) ?_;rintro _ _ F4 rfl;have⟨qr,qn,A1⟩:=rQ F4.2 qr qn A1;have A2:=aX F4.2 A2;have⟨Af,Am,Aq,As,Aw,O⟩:=kW F4.2 Af Am Aq As Aw O;refine I ?_;refine al aQ (λ_ G4 ZK=>?_);have⟨qr,qn,A1⟩:=rQ G4.2 qr qn A1;have A2:=aX G4.2 A2;have⟨Af,Am,Aq,As,Aw,O⟩:=kW G4.2 Af Am Aq As Aw O
 refine SA ZK (λ_ Kp _=>?_);have⟨qr,qn,A1⟩:=kt Kp qr qn A1;have A2:=g9 Kp CA A2;have⟨Af,Am,Aq,As,Aw,O,_⟩:=Ck Kp Af Am Aq As Aw O;refine I ?_;refine bY 5 ?_;refine sf ?_;refine aF (V:=.agg #[.int .i64 (((pl):Nat):Int),S (nS (10^pl))]) (λ_ _ Zu _=>?_) ?_;refine clb ia (hc:=fO U (ht.ext (xt O Zu))) (hk:=?_);rintro _ _ ZI rfl;have ZJ:=ZI.2;refine I ?_;exact fs ⟨ZJ,rfl⟩;refine bl (λ_ _ _ _=>by refine ac (io (cs:=[.int .i64 (((pl):Nat):Int),S (nS (10^pl))]) (v:=S (nS (10^pl))) lU Z Z Z U9 Z Z Z ?_);refine I ?_;exact cz) ?_;refine aF (V:=.agg #[S [49],S (nS (10^pl))]) (λ_ _ _ _=>?_) ?_;refine cl ew ci ?_;rintro _ _ ny rfl;have ZO:=ny.2;refine I ?_;exact fs ⟨ZO,rfl⟩;refine sf ?_;intro _ _ od _;have⟨qr,qn,A1⟩:=rQ od.2 qr qn A1;have A2:=aX od.2 A2;have O:=xt O od.2;refine cl ko (lf Z CB Z5 X2 (ht.ext O)) ?_;rintro _ _ F6 rfl;have⟨qr,qn,A1⟩:=rQ F6.2 qr qn A1;have A2:=aX F6.2 A2;have O:=xt O F6.2;refine I ?_;refine lz (qb1 Value.bool (qa2 (JH hno (aZ pl)))) (I ?_);refine ac (bb (a:=((0:Nat):Int)) (b:=1) (c:=((0+1:Nat):Int)) K2 Z L7 dc ?_);refine I ?_;exact c6 (hk:=by decide) ⟨0+1,rfl,rfl,dc,U,O,qr,qn,A1,A2⟩
 obtain rfl:i=1:=J
 refine I ?_;obtain⟨bk,oo,hA,F3⟩:=(aa4 A2).cells 1 _ Z;refine ac (ah (i:=1) (oo:=oo+1) ju eP Z hA K2 dc Z ?_);refine ac (bP (v:=.int .i64 40) U3 Z Z F3 ?_);refine I ?_;refine ac (bb (a:=(pl:Int)) (b:=40) (c:=((pl+40:Nat):Int)) Z Z L7 U ?_);refine clb ia (hc:=fO U (ht.ext O)) (hk:=?_);rintro _ _ ZM rfl;have⟨qr,qn,A1,O⟩:=bW ZM.2 qr qn A1 O;refine al oS (λ_ Zp Zl=>?_);have⟨qr,qn,A1,O⟩:=bW Zp.2 qr qn A1 O;refine SA Zl (λ_ Zr Ab=>?_);have⟨qr,qn,A1,O,_⟩:=l7 Zr qr qn A1 O;refine I ?_;refine ac (uo (f:=g) (lb:=lb) (vs:=[.agg #[.int .i64 (((pl+40):Nat):Int),S (nS (10^(pl+40)))],.agg #[S l,S m]]) hg Z Z (Nc (hbd2 _ O)) ?_);rintro _ _ Z7 rfl;have⟨qr,qn,A1,Ab,O⟩:=eE Z7.2 qr qn A1 Ab O;refine al cO (λ_ ZA Z6=>?_);have⟨qr,qn,A1,Ab,O⟩:=eE ZA.2 qr qn A1 Ab O;refine SA Z6 (λ_ Zs Ad=>?_);have⟨qr,qn,A1,Ab,O,_⟩:=vK Zs qr qn A1 Ab O;refine I ?_;refine cl lA (gC Z Z Ay.fz.1 Ay.fz.2 (Int.ne_of_gt Ay.2.1) (ht.ext O)) ?_;rintro _ _ ZF rfl;have⟨qr,qn,A1,Ab,Ad,O⟩:=kW ZF.2 qr qn A1 Ab Ad O;refine I ?_;refine al aQ (λ_ ZX ZL=>?_);have⟨qr,qn,A1,Ab,Ad,O⟩:=kW ZX.2 qr qn A1 Ab Ad O;refine SA ZL (λ_ Zn Ao=>?_);have⟨qr,qn,A1,Ab,Ad,O,_⟩:=Ck Zn qr qn A1 Ab Ad O;refine I ?_
 refine cl lA (gC Z Z E1.fz.1 E1.fz.2 (Int.ne_of_gt E1.2.1) (ht.ext O)) ?_;rintro _ _ No rfl;have⟨qr,qn,A1,Ab,Ad⟩:=dY No.2 qr qn A1 Ab Ad;have⟨Ao,O⟩:=bD No.2 Ao O;refine I ?_;refine al aQ (λ_ T3 ZU=>?_);have⟨qr,qn,A1,Ab,Ad⟩:=dY T3.2 qr qn A1 Ab Ad;have⟨Ao,O⟩:=bD T3.2 Ao O;refine SA ZU (λ_ Z0 Ap=>?_);have⟨qr,qn,A1,Ab,Ad⟩:=jv Z0 qr qn A1 Ab Ad;have⟨Ao,O,_⟩:=ks Z0 Ao O;refine I ?_;refine ac (aV (vs:=[(0,QV r2.1 (aa (pl+40))),(1,QV r2.2 (aa (pl+40)))]) (cells:=#[S ((qR r2.1 (aa (pl+40))).1),S ((qR r2.1 (aa (pl+40))).2),S ((qR r2.2 (aa (pl+40))).1),S ((qR r2.2 (aa (pl+40))).2)]) (pl:=[(0,2),(2,2)]) aJ ap GS Z GS ?_);refine I ?_;refine clb tO (hc:=fM (Y:=.tuple #[IV f2 (aa pl) c2 (aa pl),.int .i64 0]) (mO (x:=(qR r2.1 (aa (pl+40)),qR r2.2 (aa (pl+40)))) Z Z Ay E1 (Int.mul_le_mul_of_nonneg_right hC2.le (Int.le_of_lt Ay.2.1)) U (ht.ext O)) (by rw[hC2.hf,hC2.hc])) (hk:=?_);rintro _ T2 Z1 rfl;have⟨qr,qn,A1,Ab,Ad⟩:=dY Z1.2 qr qn A1 Ab Ad;have⟨Ao,Ap,O⟩:=bC Z1.2 Ao Ap O;refine I ?_;refine al ap (λ_ Wa Z2=>?_);have⟨qr,qn,A1,Ab,Ad⟩:=dY Wa.2 qr qn A1 Ab Ad;have⟨Ao,Ap,O⟩:=bC Wa.2 Ao Ap O;refine SA Z2 (λ_ T4 Ar=>?_);have⟨qr,qn,A1,Ab,Ad⟩:=jv T4 qr qn A1 Ab Ad;have⟨Ao,Ap,O,_⟩:=mD T4 Ao Ap O;refine I ?_
 refine ac (ar (cs:=[S ((qR f2 (aa pl)).1),S ((qR f2 (aa pl)).2),S ((qR c2 (aa pl)).1),S ((qR c2 (aa pl)).2)]) (b:=T2.heap.size) (o:=0) aJ Z ay Z (aa1 Ar (i:=0) Z) ?_);refine cl BL (uQ (x:=(qR f2 (aa pl),qR c2 (aa pl))) Z Z W3 ZB (Int.mul_le_mul_of_nonneg_right hC2.fc (Int.le_of_lt W3.2.1)) (ht.ext O)) ?_;rintro _ _ W0 rfl;have⟨qr,qn,A1,Ab,Ad⟩:=dY W0.2 qr qn A1 Ab Ad;have⟨Ao,Ap,Ar,O⟩:=bW W0.2 Ao Ap Ar O;refine I ?_;refine al aQ (λ_ W2 Z8=>?_);have⟨qr,qn,A1,Ab,Ad⟩:=dY W2.2 qr qn A1 Ab Ad;have⟨Ao,Ap,Ar,O⟩:=bW W2.2 Ao Ap Ar O;refine SA Z8 (λ_ TT Ax=>?_);have⟨qr,qn,A1,Ab,Ad⟩:=jv TT qr qn A1 Ab Ad;have⟨Ao,Ap,Ar,O,_⟩:=l7 TT Ao Ap Ar O;refine I ?_;refine bY 5 ?_;refine sf ?_;refine aF (V:=.agg #[.int .i64 (((pl):Nat):Int),S (nS (10^pl))]) (λ_ _ Zt _=>?_) ?_;refine clb ia (hc:=fO U (ht.ext (xt O Zt))) (hk:=?_);rintro _ _ Z9 rfl;have Zq:=Z9.2;refine I ?_;exact fs ⟨Zq,rfl⟩;refine bl (λ_ _ _ _=>by refine ac (io (cs:=[.int .i64 (((pl):Nat):Int),S (nS (10^pl))]) (v:=S (nS (10^pl))) lU Z Z Z U9 Z Z Z ?_);refine I ?_;exact cz) ?_;refine aF (V:=.agg #[S [49],S (nS (10^pl))]) (λ_ _ _ _=>?_) ?_;refine cl ew ci ?_;rintro _ _ ZQ rfl;have ZW:=ZQ.2;refine I ?_;exact fs ⟨ZW,rfl⟩;refine sf ?_;intro _ _ wr _
 have⟨qr,qn,A1,Ab,Ad⟩:=dY wr.2 qr qn A1 Ab Ad;have⟨Ao,Ap,Ar,Ax,O⟩:=eE wr.2 Ao Ap Ar Ax O;refine cl ko (lf Z CB ZG X2 (ht.ext O)) ?_;rintro _ _ Ne rfl;have⟨qr,qn,A1,Ab,Ad⟩:=dY Ne.2 qr qn A1 Ab Ad;have⟨Ao,Ap,Ar,Ax,O⟩:=eE Ne.2 Ao Ap Ar Ax O;refine I ?_;refine xk (qb1 Value.bool (qa1 (width_le hone (aZ pl)))) (I ?_);refine ac (ar (cs:=[S ((qR f2 (aa pl)).1),S ((qR f2 (aa pl)).2),S ((qR c2 (aa pl)).1),S ((qR c2 (aa pl)).2)]) (b:=T2.heap.size) (o:=0) aJ Z ay Z (aa1 Ar (i:=0) Z) ?_);refine SA A1 (λ_ F8 ZZ=>?_);have⟨qr,qn,Ab,Ad,Ao⟩:=jv F8 qr qn Ab Ad Ao;have⟨Ap,Ar,Ax⟩:=kt F8 Ap Ar Ax;have O:=bB F8 O;refine I ?_;refine aI (v:=.tuple #[IV f2 (aa pl) c2 (aa pl),.int .i64 0]) (cn (r1:=.cell 6 33) (r2:=.tmp 7) Z ?_ ?_) O Z;refine ag (t:=6) (cs:=[S ((qR f2 (aa pl)).1),S ((qR f2 (aa pl)).2),S ((qR c2 (aa pl)).1),S ((qR c2 (aa pl)).2)]) (b:=Wb.heap.size) (o:=0) aJ Z ay ?_ ?_;exact Z;exact aa1 ZZ (i:=0) Z;exact aD (t:=7) Rd _
set_option maxRecDepth 100000
def kI {p:Prop}(h:p:=by kernel_rfl):p:=h
def YS:([49]:List UInt8)=ae 1:=by decide +kernel
def FV {b:Int}(e:(l,m)=qR a b)(h:Q9 a b)(ha12:a.natAbs<10^12)(hb12:b<10^12)(hp:pl<=12)(hrt:gS pl a b (-10000000000000) 1 10000000000000 1=true)(h8:¬0<aG (a*1) (-8*b))(hng:neg l=true)(ht:Tb w):
 CL 69 #[.agg #[S l,S m],.int .i64 pl] w (aC w λv w'=>v=.tuple #[.agg #[S [48],S [49],S ((qR 1 (aa pl)).1),S ((qR 1 (aa pl)).2)],.int .i64 0]):=by
 have Ax:=gm (k:=pl) (a:=1) dc U;refine aE func69 Z (I ?_);refine bx (λF8 EP qr=>?_);have O:=EP.2;refine al ap (λ_ E4 W=>?_);have qr:=be E4.2 qr;have O:=xt O E4.2;refine I ?_;refine clb ia (hc:=fO (pl:=13) dc (ht.ext O)) (hk:=?_);rintro _ _ E0 rfl;have qr:=be E0.2 qr;have W:=be E0.2 W;have O:=xt O E0.2;refine ac (io (cs:=[.int .i64 ((13:Nat):Int),S (nS (10^13))]) (v:=S (nS (10^13))) lU Z Z Z U9 Z Z Z ?_);refine ac (km (a:=[45]) (b:=nS (10^13)) Z Z Nd ?_);refine cl ew ci ?_;rintro _ _ Ay rfl;have qr:=be Ay.2 qr;have W:=be Ay.2 W;have O:=xt O Ay.2;refine clb ia (hc:=fO (pl:=13) dc (ht.ext O)) (hk:=?_);rintro _ _ E1 rfl;have qr:=be E1.2 qr;have W:=be E1.2 W;have O:=xt O E1.2;refine ac (io (cs:=[.int .i64 ((13:Nat):Int),S (nS (10^13))]) (v:=S (nS (10^13))) lU Z Z Z U9 Z Z Z ?_);refine cl ew ci ?_;rintro _ _ Av rfl;have qr:=be Av.2 qr;have W:=be Av.2 W;have O:=xt O Av.2;refine cl ew ci ?_;rintro _ _ Aw rfl;have qr:=be Aw.2 qr;have W:=be Aw.2 W;have O:=xt O Aw.2;refine cl ew ci ?_
 rintro _ EW wr rfl;have qr:=be wr.2 qr;have W:=be wr.2 W;have O:=xt O wr.2;refine ac (aV (vs:=[(0,.agg #[S (([45])++(nS (10^13))),S [49]]),(1,.agg #[S (nS (10^13)),S [49]]),(2,.agg #[S [48],S [49]]),(3,.agg #[S [49],S [50]]),(4,.func (.func 120) #[] #[])]) (cells:=#[S (([45])++(nS (10^13))),S [49],S (nS (10^13)),S [49],S [48],S [49],S [49],S [50],.func (.func 120) #[] #[]]) (pl:=[(0,2),(2,2),(4,2),(6,2),(8,1)]) nL m5 kI Z kI ?_);refine al m5 (λ_ As E7=>?_);have qr:=be As.2 qr;have W:=be As.2 W;have O:=xt O As.2;refine SA E7 (λ_ Ao qn=>?_);have qr:=pb Ao qr;have W:=pb Ao W;have O:=bB Ao O;have Jx:=mC Ao;refine I ?_;refine bY 13 ?_;refine bl (λ_ _ F7 _=>by have qn:=be F7 qn;refine ac (ar (cs:=[S (([45])++(nS (10^13))),S [49],S (nS (10^13)),S [49],S [48],S [49],S [49],S [50],.func (.func 120) #[] #[]]) (b:=EW.heap.size) (o:=0) nL Z mi Z (aa1 qn (i:=0) Z) ?_);refine I ?_;exact cz) ?_
 refine sf ?_;refine aF (V:=.bool true) (λ_ _ F5 _=>?_) ?_;refine cl qH (cB (iK e h ha12 hb12 JE An JF Au Z (ht.ext (xt O F5))) hrt) ?_;rintro _ _ F4 rfl;have F3:=F4.2;refine I ?_;exact fs ⟨F3,rfl⟩;refine sf ?_;refine aF (V:=.agg #[S [45,56],S [49]]) (λ_ _ _ _=>?_) ?_;refine I ?_;refine cl ew ci ?_;rintro _ _ G4 rfl;have Ix:=G4.2;refine I ?_;exact fs ⟨Ix,rfl⟩;refine aF (V:=.int .i64 (aG (a*1) (-8*b))) (λ_ _ G3 _=>?_) ?_;refine I ?_;refine cl ko (lf e Xr h Sb (ht.ext (xt O G3))) ?_;rintro _ _ EE rfl;have F1:=EE.2;refine I ?_;exact fs ⟨F1,rfl⟩;refine sf ?_;intro _ _ Ar _;have qr:=be Ar.2 qr;have W:=be Ar.2 W;have qn:=be Ar.2 qn;have O:=xt O Ar.2;with_reducible refine mB Z ?_
 refine I ?_;refine clb ia (hc:=fO (pl:=(pl)) U (ht.ext O)) (hk:=?_);rintro _ _ Ap rfl;have qr:=be Ap.2 qr;have W:=be Ap.2 W;have qn:=be Ap.2 qn;have O:=xt O Ap.2;refine ac (io (cs:=[.int .i64 (((pl):Nat):Int),S (nS (10^pl))]) (v:=S (nS (10^pl))) lU Z Z Z U9 Z Z Z ?_);refine cl lA (gC (b:=aa pl) YS Z Ax.fz.1 Ax.fz.2 (Int.ne_of_gt Ax.2.1) (ht.ext O)) ?_;rintro _ _ Aq rfl;have qr:=be Aq.2 qr;have W:=be Aq.2 W;have qn:=be Aq.2 qn;have O:=xt O Aq.2;refine I ?_;refine al aQ (λ_ Af F2=>?_);have qr:=be Af.2 qr;have W:=be Af.2 W;have qn:=be Af.2 qn;have O:=xt O Af.2;refine SA F2 (λ_ Ab A1=>?_);have qr:=pb Ab qr;have W:=pb Ab W;have qn:=pb Ab qn;have O:=bB Ab O;have K2:=mC Ab;refine I ?_;refine cl OR (fM (Y:=.bool true) (px _ _) (qb1 Value.bool hng)) ?_;rintro _ _ Ad rfl;have qr:=be Ad.2 qr;have W:=be Ad.2 W;have qn:=be Ad.2 qn;have A1:=be Ad.2 A1;have O:=xt O Ad.2;refine I ?_;refine bY 2 ?_;refine aF (V:=.agg #[S [48],S [49]]) (λ_ _ _ _=>?_) ?_;refine cl ew ci ?_;rintro _ _ Ek rfl;have E9:=Ek.2;refine I ?_;exact fs ⟨E9,rfl⟩;refine sf ?_;intro _ _ A2 _
 have qr:=be A2.2 qr;have W:=be A2.2 W;have qn:=be A2.2 qn;have A1:=be A2.2 A1;have O:=xt O A2.2;refine ac (aV (vs:=[(0,.agg #[S [48],S [49]]),(1,QV 1 (aa pl))]) (cells:=#[S [48],S [49],S ((qR 1 (aa pl)).1),S ((qR 1 (aa pl)).2)]) (pl:=[(0,2),(2,2)]) aJ ap kI Z kI ?_);refine SA W (λ_ Am F6=>?_);have qr:=pb Am qr;have qn:=pb Am qn;have A1:=pb Am A1;have O:=bB Am O;refine I ?_;refine aI (v:=.tuple #[.agg #[S [48],S [49],S ((qR 1 (aa pl)).1),S ((qR 1 (aa pl)).2)],.int .i64 0]) (cn (r1:=.cell 4 33) (r2:=.tmp 5) Z ?_ ?_) O Z;refine ag (t:=4) (cs:=[S [48],S [49],S ((qR 1 (aa pl)).1),S ((qR 1 (aa pl)).2)]) (b:=F8.heap.size) (o:=0) aJ Z ay ?_ ?_;exact Z;exact aa1 F6 (i:=0) Z;exact aD (t:=5) Rd _
def FW {b:Int}(e:(l,m)=qR a b)(h:Q9 a b)(ha12:a.natAbs<10^12)(hb12:b<10^12)(hp:pl<=12)(hrt:gS pl a b (-10000000000000) 1 10000000000000 1=true)(h8:0<aG (a*1) (-8*b))(h9:¬aG (a*1) (8*b)<0)(hng:neg l=false)(ht:Tb w):
 CL 69 #[.agg #[S l,S m],.int .i64 pl] w (aC w λv w'=>v=.tuple #[.agg #[S ((qR (1*aa pl-1*1) (1*aa pl)).1),S ((qR (1*aa pl-1*1) (1*aa pl)).2),S [49],S [49]],.int .i64 0]):=by
 have T2:=gm (k:=pl) (a:=1) dc U;refine aE func69 Z (I ?_);refine bx (λE1 bp qr=>?_);have O:=bp.2;refine al ap (λ_ a3 qn=>?_);have qr:=be a3.2 qr;have O:=xt O a3.2;refine I ?_;refine clb ia (hc:=fO (pl:=13) dc (ht.ext O)) (hk:=?_);rintro _ _ ZK rfl;have qr:=be ZK.2 qr;have qn:=be ZK.2 qn;have O:=xt O ZK.2;refine ac (io (cs:=[.int .i64 ((13:Nat):Int),S (nS (10^13))]) (v:=S (nS (10^13))) lU Z Z Z U9 Z Z Z ?_);refine ac (km (a:=[45]) (b:=nS (10^13)) Z Z Nd ?_);refine cl ew ci ?_;rintro _ _ ZJ rfl;have qr:=be ZJ.2 qr;have qn:=be ZJ.2 qn;have O:=xt O ZJ.2;refine clb ia (hc:=fO (pl:=13) dc (ht.ext O)) (hk:=?_);rintro _ _ ZC rfl;have qr:=be ZC.2 qr;have qn:=be ZC.2 qn;have O:=xt O ZC.2;refine ac (io (cs:=[.int .i64 ((13:Nat):Int),S (nS (10^13))]) (v:=S (nS (10^13))) lU Z Z Z U9 Z Z Z ?_);refine cl ew ci ?_;rintro _ _ Z2 rfl;have qr:=be Z2.2 qr;have qn:=be Z2.2 qn;have O:=xt O Z2.2;refine cl ew ci ?_;rintro _ _ ZL rfl;have qr:=be ZL.2 qr;have qn:=be ZL.2 qn;have O:=xt O ZL.2;refine cl ew ci ?_
 rintro _ E0 W2 rfl;have qr:=be W2.2 qr;have qn:=be W2.2 qn;have O:=xt O W2.2;refine ac (aV (vs:=[(0,.agg #[S (([45])++(nS (10^13))),S [49]]),(1,.agg #[S (nS (10^13)),S [49]]),(2,.agg #[S [48],S [49]]),(3,.agg #[S [49],S [50]]),(4,.func (.func 120) #[] #[])]) (cells:=#[S (([45])++(nS (10^13))),S [49],S (nS (10^13)),S [49],S [48],S [49],S [49],S [50],.func (.func 120) #[] #[]]) (pl:=[(0,2),(2,2),(4,2),(6,2),(8,1)]) nL m5 kI Z kI ?_);refine al m5 (λ_ ZP gp=>?_);have qr:=be ZP.2 qr;have qn:=be ZP.2 qn;have O:=xt O ZP.2;refine SA gp (λ_ T4 A2=>?_);have qr:=pb T4 qr;have qn:=pb T4 qn;have O:=bB T4 O;have hM:=mC T4;refine I ?_;refine bY 13 ?_;refine bl (λ_ _ g5 _=>by have A2:=be g5 A2;refine ac (ar (cs:=[S (([45])++(nS (10^13))),S [49],S (nS (10^13)),S [49],S [48],S [49],S [49],S [50],.func (.func 120) #[] #[]]) (b:=E0.heap.size) (o:=0) nL Z mi Z (aa1 A2 (i:=0) Z) ?_);refine I ?_;exact cz) ?_
 refine sf ?_;refine aF (V:=.bool true) (λ_ _ a9 _=>?_) ?_;refine cl qH (cB (iK e h ha12 hb12 JE An JF Au Z (ht.ext (xt O a9))) hrt) ?_;rintro _ _ e7 rfl;have aH:=e7.2;refine I ?_;exact fs ⟨aH,rfl⟩;refine sf ?_;refine aF (V:=.agg #[S [45,56],S [49]]) (λ_ _ _ _=>?_) ?_;refine I ?_;refine cl ew ci ?_;rintro _ _ dn rfl;have b9:=dn.2;refine I ?_;exact fs ⟨b9,rfl⟩;refine aF (V:=.int .i64 (aG (a*1) (-8*b))) (λ_ _ f5 _=>?_) ?_;refine I ?_;refine cl ko (lf e Xr h Sb (ht.ext (xt O f5))) ?_;rintro _ _ fD rfl;have g0:=fD.2;refine I ?_;exact fs ⟨g0,rfl⟩;refine sf ?_;refine aF (V:=.agg #[S [56],S [49]]) (λ_ _ _ _=>?_) ?_;refine I ?_;refine cl ew ci ?_;rintro _ _ an rfl;have bn:=an.2;refine I ?_;exact fs ⟨bn,rfl⟩;refine sf ?_;intro _ _ K2 _;have qr:=be K2.2 qr;have qn:=be K2.2 qn;have A2:=be K2.2 A2;have O:=xt O K2.2;with_reducible refine mB Z ?_
 refine I ?_;refine cl ko (lf e YR h VB (ht.ext O)) ?_;rintro _ _ No rfl;have qr:=be No.2 qr;have qn:=be No.2 qn;have A2:=be No.2 A2;have O:=xt O No.2;refine I ?_;refine clb ia (hc:=fO (pl:=(pl)) U (ht.ext O)) (hk:=?_);rintro _ _ W0 rfl;have qr:=be W0.2 qr;have qn:=be W0.2 qn;have A2:=be W0.2 A2;have O:=xt O W0.2;refine ac (io (cs:=[.int .i64 (((pl):Nat):Int),S (nS (10^pl))]) (v:=S (nS (10^pl))) lU Z Z Z U9 Z Z Z ?_);refine cl lA (gC (b:=aa pl) YS Z T2.fz.1 T2.fz.2 (Int.ne_of_gt T2.2.1) (ht.ext O)) ?_;rintro _ ny Ne rfl;have qr:=be Ne.2 qr;have qn:=be Ne.2 qn;have A2:=be Ne.2 A2;have O:=xt O Ne.2;refine I ?_;refine al aQ (λ_ T3 e5=>?_);have qr:=be T3.2 qr;have qn:=be T3.2 qn;have A2:=be T3.2 A2;have O:=xt O T3.2;refine SA e5 (λ_ F6 W3=>?_);have qr:=pb F6 qr;have qn:=pb F6 qn;have A2:=pb F6 A2;have O:=bB F6 O;have hH:=mC F6;refine I ?_;refine cl OR (fM (Y:=.bool false) (px _ _) (qb1 Value.bool hng)) ?_;rintro _ ZT Ek rfl;have qr:=be Ek.2 qr;have qn:=be Ek.2 qn;have A2:=be Ek.2 A2;have W3:=be Ek.2 W3;have O:=xt O Ek.2;refine I ?_
 have wr:=aa8 ZT;refine uh g8 8 (λe0 ls e W=>∃A1:Nat,(∀t,y9 [9,57,58,59,60,61,62] t=false->e t=e0 t)/\(bF w W)/\(ZT.heap.size<=W.heap.size)/\(ls 0=true->e 58=.agg #[S [49],S [49]])/\(ls 1=true->e 59=QV 1 (aa pl))/\(ls 2=true->e 60=.tuple #[QV (1*aa pl-1*1) (1*aa pl),.int .i64 0])/\(ls 3=true->e 57=.tuple #[QV (1*aa pl-1*1) (1*aa pl),.int .i64 0])/\(ls 4=true->e 61=QV (1*aa pl-1*1) (1*aa pl))/\(ls 5=true->e 62=.int .i64 0)/\(ls 6=true->e 9=pT A1)/\(ls 6=true->ZT.heap.size<=A1)/\(au W w.heap.size 25 #[S l,S m])/\(au W E1.heap.size 33 #[S [],S [],S [],S []])/\(au W E0.heap.size 128 #[S (([45])++(nS (10^13))),S [49],S (nS (10^13)),S [49],S [48],S [49],S [49],S [50],.func (.func 120) #[] #[]])/\(au W ny.heap.size 25 #[S ((qR 1 (aa pl)).1),S ((qR 1 (aa pl)).2)])/\(ls 6=true->ls 7=false->au W A1 25 #[S [],S []])/\(ls 7=true->au W A1 25 #[S ((qR (1*aa pl-1*1) (1*aa pl)).1),S ((qR (1*aa pl-1*1) (1*aa pl)).2)])) ⟨0,(λ_ _=>rfl),(xt O wr),(bz wr),(ff Z),(ff Z),(ff Z),(ff Z),(ff Z),(ff Z),(ff Z),(ff Z),(be wr qr),(be wr qn),(be wr A2),(be wr W3),(λh _=>ff Z h),(λh=>ff Z h)⟩ kI kI ?_ ?_
 refine⟨λcr L2 Z0 cv Z5 ZY _=>?_,?_⟩;obtain⟨A1,Zt,O,E7,Av,As,Ar,Aq,Ax,Aw,Af,Ao,Am,Ap,Ad,Ab,Ay,E4⟩:=cv;obtain⟨cr,rfl⟩:=aT Zt;have aB:Z0 2=false:=(js Z5 (i:=0) (j:=2) Z ZY);have fx:Z0 7=false:=(js Z5 (i:=0) (j:=7) Z ZY);have hF:Z0 3=false:=(js Z5 (i:=2) (j:=3) Z aB);have Z7:au L2 w.heap.size 25 #[S l,S m]:=Am;have Wa:au L2 E1.heap.size 33 #[S [],S [],S [],S []]:=Ap;have ZF:au L2 E0.heap.size 128 #[S (([45])++(nS (10^13))),S [49],S (nS (10^13)),S [49],S [48],S [49],S [49],S [50],.func (.func 120) #[] #[]]:=Ad;have ZD:au L2 ny.heap.size 25 #[S ((qR 1 (aa pl)).1),S ((qR 1 (aa pl)).2)]:=Ab;refine cl ew ci ?_;rintro _ _ EE rfl;have Z7:=be EE.2 Z7;have Wa:=be EE.2 Wa;have ZF:=be EE.2 ZF;have ZD:=be EE.2 ZD;have O:=xt O EE.2;refine I ?_;exact⟨rfl,_,(aw _ _ _ _ _).symm,A1,(bv Z Zt),O,U,(λ_=>rfl),As,Ar,Aq,Ax,Aw,Af,Ao,(Z7),(Wa),(ZF),(ZD),(λe1 bd=>(be EE.2 (Ay e1 bd))),(λet=>ff fx et)⟩;refine⟨λdq TT ZM gr ZG Zz _=>?_,?_⟩
 obtain⟨A1,Zu,O,E7,Av,As,Ar,Aq,Ax,Aw,Af,Ao,Am,Ap,Ad,Ab,Ay,E4⟩:=gr;obtain⟨dq,rfl⟩:=aT Zu;have d4:ZM 2=false:=(js ZG (i:=1) (j:=2) Z Zz);have cf:ZM 7=false:=(js ZG (i:=1) (j:=7) Z Zz);have hG:ZM 3=false:=(js ZG (i:=2) (j:=3) Z d4);have eg:au TT w.heap.size 25 #[S l,S m]:=Am;have gn:au TT E1.heap.size 33 #[S [],S [],S [],S []]:=Ap;have ch:au TT E0.heap.size 128 #[S (([45])++(nS (10^13))),S [49],S (nS (10^13)),S [49],S [48],S [49],S [49],S [50],.func (.func 120) #[] #[]]:=Ad;have gb:au TT ny.heap.size 25 #[S ((qR 1 (aa pl)).1),S ((qR 1 (aa pl)).2)]:=Ab;refine I ?_;exact⟨rfl,_,(aw _ _ _ _ _).symm,A1,(bv Z Zu),O,U,Av,(λ_=>rfl),Ar,Aq,Ax,Aw,Af,Ao,(eg),(gn),(ch),(gb),(λg2 cp=>Ay g2 cp),(λa7=>ff cf a7)⟩;refine⟨λZI Ix N1 ad ZX Zm Zs=>?_,?_⟩;obtain⟨A1,Zw,O,E7,Av,As,Ar,Aq,Ax,Aw,Af,Ao,Am,Ap,Ad,Ab,Ay,E4⟩:=ad;obtain⟨ZI,rfl⟩:=aT Zw;have ask:N1 0=true:=(Zs 0 Z);have cT:N1 1=true:=(Zs 1 Z);have hD:N1 3=false:=(js ZX (i:=2) (j:=3) Z Zm);have g1:N1 7=false:=(js ZX (i:=2) (j:=7) Z Zm)
 have em:ZI 58=.agg #[S [49],S [49]]:=Av ask;have ca:ZI 59=QV 1 (aa pl):=As cT;have ZB:au Ix w.heap.size 25 #[S l,S m]:=Am;have Z3:au Ix E1.heap.size 33 #[S [],S [],S [],S []]:=Ap;have ZQ:au Ix E0.heap.size 128 #[S (([45])++(nS (10^13))),S [49],S (nS (10^13)),S [49],S [48],S [49],S [49],S [50],.func (.func 120) #[] #[]]:=Ad;have ZR:au Ix ny.heap.size 25 #[S ((qR 1 (aa pl)).1),S ((qR 1 (aa pl)).2)]:=Ab;refine cl oT (Jm YQ Z Xn T2 (ht.ext O)) ?_ (ai em (ai ca Z));rintro _ _ EP rfl;have ZB:=be EP.2 ZB;have Z3:=be EP.2 Z3;have ZQ:=be EP.2 ZQ;have ZR:=be EP.2 ZR;have O:=xt O EP.2;refine I ?_;exact⟨rfl,_,(aw _ _ _ _ _).symm,A1,(bv Z Zw),O,U,Av,As,(λ_=>rfl),Aq,Ax,Aw,Af,Ao,(ZB),(Z3),(ZQ),(ZR),(λab ed=>(be EP.2 (Ay ab ed))),(λbT=>ff g1 bT)⟩;refine⟨λZr Kp Zv f4 cx d5 d6=>?_,?_⟩;obtain⟨A1,Zo,O,E7,Av,As,Ar,Aq,Ax,Aw,Af,Ao,Am,Ap,Ad,Ab,Ay,E4⟩:=f4;obtain⟨Zr,rfl⟩:=aT Zo;have cy:Zv 2=true:=(d6 2 Z)
 have fy:Zv 7=false:=(js cx (i:=3) (j:=7) Z d5);have hE:Zr 60=.tuple #[QV (1*aa pl-1*1) (1*aa pl),.int .i64 0]:=Ar cy;have e3:au Kp w.heap.size 25 #[S l,S m]:=Am;have en:au Kp E1.heap.size 33 #[S [],S [],S [],S []]:=Ap;have a8:au Kp E0.heap.size 128 #[S (([45])++(nS (10^13))),S [49],S (nS (10^13)),S [49],S [48],S [49],S [49],S [50],.func (.func 120) #[] #[]]:=Ad;have fm:au Kp ny.heap.size 25 #[S ((qR 1 (aa pl)).1),S ((qR 1 (aa pl)).2)]:=Ab;refine I ?_;exact⟨rfl,_,(aw _ _ _ _ _).symm,A1,(bv Z Zo),O,U,Av,As,Ar,(λ_=>rfl),Ax,Aw,Af,Ao,(e3),(en),(a8),(fm),(λbm fu=>Ay bm fu),(λa6=>ff fy a6)⟩;refine⟨λZl F7 Z8 fi ZV fT b6=>?_,?_⟩;obtain⟨A1,Zn,O,E7,Av,As,Ar,Aq,Ax,Aw,Af,Ao,Am,Ap,Ad,Ab,Ay,E4⟩:=fi;obtain⟨Zl,rfl⟩:=aT Zn;have Zx:Z8 3=true:=(b6 3 Z);have hA:Z8 2=true:=(ZV 3 2 Z Zx);have e4:Z8 7=false:=(js ZV (i:=4) (j:=7) Z fT)
 have h7:Zl 57=.tuple #[QV (1*aa pl-1*1) (1*aa pl),.int .i64 0]:=Aq Zx;have bc:au F7 w.heap.size 25 #[S l,S m]:=Am;have c8:au F7 E1.heap.size 33 #[S [],S [],S [],S []]:=Ap;have bf:au F7 E0.heap.size 128 #[S (([45])++(nS (10^13))),S [49],S (nS (10^13)),S [49],S [48],S [49],S [49],S [50],.func (.func 120) #[] #[]]:=Ad;have cq:au F7 ny.heap.size 25 #[S ((qR 1 (aa pl)).1),S ((qR 1 (aa pl)).2)]:=Ab;refine I ?_;exact⟨rfl,_,(aw _ _ _ _ _).symm,A1,(bv Z Zn),O,U,Av,As,Ar,Aq,(λ_=>rfl),Aw,Af,Ao,(bc),(c8),(bf),(cq),(λf9 fl=>Ay f9 fl),(λd3=>ff e4 d3)⟩;refine⟨λa4 R1 a5 cm f6 _ cw=>?_,?_⟩;obtain⟨A1,Zk,O,E7,Av,As,Ar,Aq,Ax,Aw,Af,Ao,Am,Ap,Ad,Ab,Ay,E4⟩:=cm;obtain⟨a4,rfl⟩:=aT Zk;have a0:a5 3=true:=(cw 3 Z);have hL:a5 2=true:=(f6 3 2 Z a0);have hC:a4 57=.tuple #[QV (1*aa pl-1*1) (1*aa pl),.int .i64 0]:=Aq a0;have g3:au R1 w.heap.size 25 #[S l,S m]:=Am
 have cb:au R1 E1.heap.size 33 #[S [],S [],S [],S []]:=Ap;have aL:au R1 E0.heap.size 128 #[S (([45])++(nS (10^13))),S [49],S (nS (10^13)),S [49],S [48],S [49],S [49],S [50],.func (.func 120) #[] #[]]:=Ad;have arr:au R1 ny.heap.size 25 #[S ((qR 1 (aa pl)).1),S ((qR 1 (aa pl)).2)]:=Ab;refine I ?_;exact⟨rfl,_,(aw _ _ _ _ _).symm,A1,(bv Z Zk),O,U,Av,As,Ar,Aq,Ax,(λ_=>rfl),Af,Ao,(g3),(cb),(aL),(arr),(λg4 h0=>Ay g4 h0),(λgs=>E4 gs)⟩;refine⟨λf7 F4 b7 fN cd ga _=>?_,?_⟩;obtain⟨A1,ZZ,O,E7,Av,As,Ar,Aq,Ax,Aw,Af,Ao,Am,Ap,Ad,Ab,Ay,E4⟩:=fN;obtain⟨f7,rfl⟩:=aT ZZ;have bL:b7 7=false:=(js cd (i:=6) (j:=7) Z ga);have X2:au F4 w.heap.size 25 #[S l,S m]:=Am;have Z1:au F4 E1.heap.size 33 #[S [],S [],S [],S []]:=Ap;have ZO:au F4 E0.heap.size 128 #[S (([45])++(nS (10^13))),S [49],S (nS (10^13)),S [49],S [48],S [49],S [49],S [50],.func (.func 120) #[] #[]]:=Ad;have ZN:au F4 ny.heap.size 25 #[S ((qR 1 (aa pl)).1),S ((qR 1 (aa pl)).2)]:=Ab;refine al aQ (λ_ F1 co=>?_);have X2:=be F1.2 X2;have Z1:=be F1.2 Z1
 have ZO:=be F1.2 ZO;have ZN:=be F1.2 ZN;have O:=xt O F1.2;refine I ?_;exact⟨rfl,_,(aw _ _ _ _ _).symm,F4.heap.size,(bv Z ZZ),O,U,Av,As,Ar,Aq,Ax,Aw,(λ_=>rfl),(λ_=>U),(X2),(Z1),(ZO),(ZN),(λ_ _=>co),(λf0=>ff bL f0)⟩;refine⟨λZU F3 G3 c9 Zq f3 Zp=>?_,?_⟩;obtain⟨A1,ZW,O,E7,Av,As,Ar,Aq,Ax,Aw,Af,Ao,Am,Ap,Ad,Ab,Ay,E4⟩:=c9;obtain⟨ZU,rfl⟩:=aT ZW;have ZE:G3 6=true:=(Zp 6 Z);have Zy:G3 4=true:=(Zp 4 Z);have e6:G3 3=true:=(Zq 4 3 Z Zy);have h6:G3 2=true:=(Zq 3 2 Z e6);have hK:ZU 61=QV (1*aa pl-1*1) (1*aa pl):=Ax Zy;have hI:ZU 9=pT A1:=Af ZE;have dd:=Ao ZE;have ZA:au F3 w.heap.size 25 #[S l,S m]:=Am;have ZS:au F3 E1.heap.size 33 #[S [],S [],S [],S []]:=Ap;have Wb:au F3 E0.heap.size 128 #[S (([45])++(nS (10^13))),S [49],S (nS (10^13)),S [49],S [48],S [49],S [49],S [50],.func (.func 120) #[] #[]]:=Ad;have ZH:au F3 ny.heap.size 25 #[S ((qR 1 (aa pl)).1),S ((qR 1 (aa pl)).2)]:=Ab;have d0:au F3 A1 25 #[S [],S []]:=Ay ZE f3
 refine SA d0 (λ_ EW fc=>?_);have ZA:=pb EW ZA;have ZS:=pb EW ZS;have Wb:=pb EW Wb;have ZH:=pb EW ZH;have O:=bB EW O;have hB:=mC EW;refine I ?_;exact⟨rfl,undef,rfl,A1,ZW,O,U,Av,As,Ar,Aq,Ax,Aw,Af,Ao,(ZA),(ZS),(Wb),(ZH),(λ_ bq=>tf Z bq),(λ_=>fc)⟩;exact trivial;intro Z6 F5 _ F8 ct;obtain⟨A1,at2,O,E7,Av,As,Ar,Aq,Ax,Aw,Af,Ao,Am,Ap,Ad,Ab,Ay,E4⟩:=ct;obtain⟨Z6,rfl⟩:=aT at2;have dd:=Ao (F8 6 Z);have G4:au F5 w.heap.size 25 #[S l,S m]:=Am;have Z9:au F5 E1.heap.size 33 #[S [],S [],S [],S []]:=Ap;have Jx:au F5 E0.heap.size 128 #[S (([45])++(nS (10^13))),S [49],S (nS (10^13)),S [49],S [48],S [49],S [49],S [50],.func (.func 120) #[] #[]]:=Ad;have W1:au F5 ny.heap.size 25 #[S ((qR 1 (aa pl)).1),S ((qR 1 (aa pl)).2)]:=Ab;have od:au F5 A1 25 #[S ((qR (1*aa pl-1*1) (1*aa pl)).1),S ((qR (1*aa pl-1*1) (1*aa pl)).2)]:=E4 (F8 7 Z);have at3:Z6 62=.int .i64 (0):=(Aw (F8 5 Z));refine I ?_;have at4:Z6 9=pT A1:=(Af (F8 6 Z));refine bY 2 ?_;refine sf ?_;refine aF (V:=.agg #[S [49],S [49]]) (λ_ _ _ _=>?_) ?_
 refine cl ew ci ?_;rintro _ _ h5 rfl;have e2:=h5.2;refine I ?_;exact fs ⟨e2,rfl⟩;refine sf ?_;intro _ _ E9 _;have G4:=be E9.2 G4;have Z9:=be E9.2 Z9;have Jx:=be E9.2 Jx;have W1:=be E9.2 W1;have od:=be E9.2 od;have O:=xt O E9.2;refine ac (aV (vs:=[(0,QV (1*aa pl-1*1) (1*aa pl)),(1,.agg #[S [49],S [49]])]) (cells:=#[S ((qR (1*aa pl-1*1) (1*aa pl)).1),S ((qR (1*aa pl-1*1) (1*aa pl)).2),S [49],S [49]]) (pl:=[(0,2),(2,2)]) aJ ap kI Z kI ?_);refine SA Z9 (λ_ F2 bH=>?_);have G4:=pb F2 G4;have Jx:=pb F2 Jx;have W1:=pb F2 W1;have od:=pb F2 od;have O:=bB F2 O;refine I ?_;refine aI (v:=.tuple #[.agg #[S ((qR (1*aa pl-1*1) (1*aa pl)).1),S ((qR (1*aa pl-1*1) (1*aa pl)).2),S [49],S [49]],.int .i64 0]) (cn (r1:=.cell 4 33) (r2:=.tmp 5) Z ?_ ?_) O Z;refine ag (t:=4) (cs:=[S ((qR (1*aa pl-1*1) (1*aa pl)).1),S ((qR (1*aa pl-1*1) (1*aa pl)).2),S [49],S [49]]) (b:=E1.heap.size) (o:=0) aJ Z ay ?_ ?_;exact Z;exact aa1 bH (i:=0) Z;exact aD (t:=5) Rd _
end
section
open Go Go.Eng Go.RowKit Tryz
def rZ (pl:Nat)(f c:Int):Value:=.tuple #[.agg #[S (qR f (aa pl)).1,S (qR f (aa pl)).2,S (qR c (aa pl)).1,S (qR c (aa pl)).2],.int .i64 0]
def lV (pl:Nat)(bd:Nat->Option (Int×Int))(f c:Int):Prop:=
 c<=f+1/\((∃r,bd 15=some r/\lh 15 pl r f c)\/(∃r r2 f1 c1,bd 15=some r/\lh 15 pl r f1 c1/\f1+1<c1/\bd 40=some r2/\lh 40 pl r2 f c))
def lV.uniq {bd:Nat->Option (Int×Int)}(h:lV pl bd f c)(h':lV pl bd f' c'):f=f'/\c=c':=by
 obtain⟨h1,⟨r,e,w⟩|⟨r,r2,f1,c1,e,w,n,qn,qr⟩⟩:=h <;>obtain⟨Ad,⟨A1,e',w'⟩|⟨A1,Ab,Af,Am,e',w',A2,W,O⟩⟩:=h'
 · rw[e]at e';cases e';exact⟨w.hf.symm.trans w'.hf,w.hc.symm.trans w'.hc⟩
 · rw[e]at e';cases e';have:=w.hf.symm.trans w'.hf;have:=w.hc.symm.trans w'.hc;omega
 · rw[e]at e';cases e';have:=w.hf.symm.trans w'.hf;have:=w.hc.symm.trans w'.hc;omega
 · rw[qn]at W;cases W;exact⟨qr.hf.symm.trans O.hf,qr.hc.symm.trans O.hc⟩
def FX {b hb:Int}{bd:Nat->Option (Int×Int)}(hF:lV pl bd f c)(e:(l,m)=qR a b)(h:Q9 a b)(ha12:a.natAbs<10^12)(hb12:b<10^12)(e1:(l1,m1)=qR la lb0)(q1:Q9 la lb0)(e2:(l2,m2)=qR ha hb)(q2:Q9 ha hb)(hrt:gS pl a b la lb0 ha hb=true)(hp:pl<=12)(hne:¬((l,m):R)=(l3,m3))(hg:Enters prog g)(hbd:∀k r,k<=40->bd k=some r->∀W,bF w W->CL g ([.agg #[.int .i64 ((pl+k:Nat):Int),S (nS (10^(pl+k)))],.agg #[S l,S m]].toArray++lb.toArray) W (aC W λv _=>v=.agg #[S (ae r.1),S (ae r.2)]))(ht:Tb w):
 CL 122 #[.agg #[S l1,S m1,S l2,S m2,S l3,S m3,S l4,S m4,.func (.func g) #[] lb.toArray],.agg #[S l,S m],.int .i64 ((pl:Nat):Int)] w (aC w λv _=>v=rZ pl f c):=by
 obtain⟨h1,⟨r,er,w⟩|⟨r,r2,f1,c1,er,w,n,qr,O⟩⟩:=hF
 · exact NA e h ha12 hb12 e1 q1 e2 q2 hrt hp hne hg (hbd 15 r dc er) (w.r h1) ht
 · exact JI e h ha12 hb12 e1 q1 e2 q2 hrt hp hne hg (hbd 15 r dc er) (hbd 40 r2 dc qr) w n O h1 ht
def JJ {b hb:Int}(hf:dp va vb (aa pl)=f)(hc:dz va vb (aa pl)=c)(e:(l,m)=qR a b)(h:Q9 a b)(ha12:a.natAbs<10^12)(hb12:b<10^12)(e1:(l1,m1)=qR la lb0)(q1:Q9 la lb0)(e2:(l2,m2)=qR ha hb)(q2:Q9 ha hb)(e4:(l4,m4)=qR va vb)(q4:Q9 va vb)(hrt:gS pl a b la lb0 ha hb=true)(hp:pl<=12)(heq:((l,m):R)=(l3,m3))(ht:Tb w):
 CL 122 #[.agg #[S l1,S m1,S l2,S m2,S l3,S m3,S l4,S m4,.func (.func g) #[] lb.toArray],.agg #[S l,S m],.int .i64 ((pl:Nat):Int)] w (aC w λv _=>v=rZ pl f c):=by
 subst hf hc
 exact NB e h ha12 hb12 e1 q1 e2 q2 e4 q4 hrt hp heq ht
def FY {b lb hb:Int}(hp:pl<=12)(h1:la*b<=a*lb)(h2:a*hb<=ha*b):gS pl a b la lb ha hb=true:=by
 unfold gS
 rw[decide_eq_true U,decide_eq_true (oF.2 h1),decide_eq_true (bS.2 h2)];rfl
def Se (h:n<=90):Sc (10^n):=⟨Nat.pow_pos dc,Nat.pow_lt_pow_right dc U⟩
def VC {b:Int}(hb:0<b)(hd:0<d){r:R}(e:r=qR c d)(h:a*d≠c*b):¬(((qR a b).1,(qR a b).2):R)=r:=λx=>h (Jh hb hd (x.trans e))
def dK {b:Int}(ha:a.natAbs<10^12)(h0:0<b)(hb:b<10^12):Q9 a b:=⟨Nat.lt_trans ha dc,h0,by omega⟩
section
variable {b:Int}
def Sf (hb:0<b)(h0:a=0):(((qR a b).1,(qR a b).2):R)=([48],[49]):=by
 have h:qR a b=qR 0 1:=aU hb dc U
 rw[Xm,<-h]
end
section
variable {b:Int}
def mR (pl:Nat)(a b:Int)(k:Nat):Option (Int×Int):=Pn (10^(pl+k)) (pl+k) (cG a b) (bK a b).toNat
def nh (hb:0<b)(h9:a.natAbs<=1000000*b.natAbs)(hp:pl<=12):gS pl a b (-10000000000000) 1 10000000000000 1=true:=FY hp U U
def JK (ha12:a.natAbs<10^12)(hb:0<b)(hb12:b<10^12)(h0:a≠0)(hlo:-8*b<a)(hhi:a<8*b)(hp:pl<=12)(hF:lV pl (mR pl a b) f c)(ht:Tb w):
 CL 69 #[.agg #[S (qR a b).1,S (qR a b).2],.int .i64 ((pl:Nat):Int)] w (aC w λv _=>v=rZ pl f c):=by
 have q:=dK ha12 hb hb12
 have O:=nh (a:=a) (pl:=pl) hb U hp
 refine wH Z q ha12 hb12 O (ip U) (jR U) (λW e=>FX (lb:=[]) hF Z q ha12 hb12 JE An JF Au O hp (VC hb dc Xm U) Qe ?_ (ht.ext e)) ht
 intro k r hk hr W' e'
 rw[JG hb]
 exact FO (Se U) U hr ((ht.ext e).ext e')
def JM (hb:0<b)(hb12:b<10^12)(h0:a=0)(hp:pl<=12)(ht:Tb w):
 CL 69 #[.agg #[S (qR a b).1,S (qR a b).2],.int .i64 ((pl:Nat):Int)] w (aC w λv _=>v=rZ pl (dp 1 2 (aa pl)) (dz 1 2 (aa pl))):=by
 have O:a.natAbs<10^12:=by subst h0;decide
 have q:=dK O hb hb12
 have qn:=Sf hb h0
 have qr:=nh (a:=a) (pl:=pl) hb U hp
 have q2:Q9 1 2:=⟨by decide,by decide,by decide⟩
 refine wH Z q O hb12 qr (ip U) (jR U) (λW e=>?_) ht
 exact JJ (lb:=[]) Z Z Z q O hb12 JE An JF Au Y7 q2 qr hp qn (ht.ext e)
def Ps (hb:0<b):neg (qR a b).1=decide (a<0):=by
 show neg (ae (cG a b))=_
 rw[iC]
 have h1:=vT (n:=a) hb
 have h2:=jx (n:=a) hb
 generalize ((Int.gcd a b:Nat):Int)=g at *
 generalize cG a b=x at *
 subst h1
 by_cases h:x<0
 · rw[decide_eq_true h,decide_eq_true (Int.mul_neg_of_neg_of_pos h h2)]
 · rw[decide_eq_false h,decide_eq_false (by have:=Int.mul_nonneg (show 0<=x by omega) (Int.le_of_lt h2);omega)]
def FZ (ha12:a.natAbs<10^12)(hb:0<b)(hb12:b<10^12)(hlo:a<=-8*b)(h9:a.natAbs<=1000000*b.natAbs)(hp:pl<=12)(ht:Tb w):
 CL 69 #[.agg #[S (qR a b).1,S (qR a b).2],.int .i64 ((pl:Nat):Int)] w (aC w λv _=>v=rZ pl 0 1):=by
 have h:=FV (l:=(qR a b).1) (m:=(qR a b).2) Z (dK ha12 hb hb12) ha12 hb12 hp (nh hb h9 hp) (ja U) ((Ps hb).trans (qa1 U)) ht
 have e:(([48],[49]):R)=qR 0 (aa pl):=Xm.trans (aU dc (aZ pl) U)
 rw[show([48]:List UInt8)=(qR 0 (aa pl)).1 from qb1 Prod.fst e,show([49]:List UInt8)=(qR 0 (aa pl)).2 from qb1 Prod.snd e]at h
 exact h
def F0 (ha12:a.natAbs<10^12)(hb:0<b)(hb12:b<10^12)(hhi:8*b<=a)(h9:a.natAbs<=1000000*b.natAbs)(hp:pl<=12)(ht:Tb w):
 CL 69 #[.agg #[S (qR a b).1,S (qR a b).2],.int .i64 ((pl:Nat):Int)] w (aC w λv _=>v=rZ pl (aa pl-1) (aa pl)):=by
 have h:=FW (l:=(qR a b).1) (m:=(qR a b).2) Z (dK ha12 hb hb12) ha12 hb12 hp (nh hb h9 hp) (ip U) (pC U) ((Ps hb).trans (qa2 U)) ht
 have hT:=aZ pl
 have e:(([49],[49]):R)=qR (aa pl) (aa pl):=YQ.trans (aU dc hT U)
 have O:([49]:List UInt8)=(qR (aa pl) (aa pl)).1:=qb1 Prod.fst e
 have qr:([49]:List UInt8)=(qR (aa pl) (aa pl)).2:=qb1 Prod.snd e
 rw[Int.one_mul,Int.one_mul]at h
 unfold rZ
 rw[<-O,<-qr]
 exact h
end
end
end Go.Proofs.YthpinljhfnodeaaGreatDoor
