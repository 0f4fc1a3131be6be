/- Part of the proof of a statement about special functions. -/
import Derived.Test.YtgcfffdpcefifaaGreatDoorSp7ToEnc2
set_option linter.all false
namespace Go.Proofs.YtgcfffdpcefifaaGreatDoor
variable {q:Bool}{a b t c la ha hb f T lb0 va vb N er:Int}{l m l1 m1 l2 m2 l3 m3 l4 m4 y1 y2 y3 y4:List UInt8}{cs lb:List Value}{pl b1 b2 d k off ft n sO g:Nat}{w:World}
section
set_option maxRecDepth 100000
open Go Go.Eng Go.RowKit Tryz
attribute [local irreducible] wpListIn Code.wpIn Oper.wpIn Exit.then Exit.inBlock Exit.noGoto
set_option maxHeartbeats 40000000
def mE (a b t:Int):Int:=a*t/b
def m7 (a b t:Int):Int:=if a*t%b=0 then a*t/b else a*t/b+1
def nR (hb:0<b):cE a b*t/bI a b=a*t/b/\(cE a b*t%bI a b=0↔a*t%b=0):=by
 have h1:=rQ (n:=a) hb
 have E:=rR (n:=a) hb
 have D:=im (n:=a) hb
 generalize cE a b=p at *
 generalize bI a b=q at *
 generalize ((Int.gcd a b:Nat):Int)=g at *
 subst h1 E
 rw[show p*g*t=p*t*g by grind]
 refine⟨(Int.mul_ediv_mul_of_pos_left _ _ D).symm,?_⟩
 rw[Int.mul_comm (p*t) g,Int.mul_comm q g,Int.mul_emod_mul_of_pos _ _ D]
 constructor
 · intro h;rw[h,Int.mul_zero]
 · intro h;rcases Int.mul_eq_zero.1 h with h|h;omega;exact h
def JR (hb:0<b):pw (cE a b) (bI a b) t false=mE a b t:=by
 unfold pw mE;rw[if_neg (λe=>absurd e.1 dc),(nR hb).1]
def JS (hb:0<b):pw (cE a b) (bI a b) t true=m7 a b t:=by
 unfold pw m7
 rw[(nR hb).1]
 by_cases h:a*t%b=0
 · rw[if_pos h,if_neg (λe=>e.2 (bS.2 ((nR hb).2.2 h)))]
 · rw[if_neg h,if_pos ⟨rfl,λe=>h ((nR hb).2.1 (bS.1 e))⟩]
def ak (pl:Nat):Int:=((10^pl:Nat):Int)
def gK (pl:Nat):0<ak pl:=by unfold ak;have:=Nat.pow_pos (n:=pl) (show 0<10 by decide);omega
def HA (h:pl<=30):ak pl<=10^30:=by
 unfold ak
 have h1:(10:Nat)^pl<=10^30:=Nat.pow_le_pow_right dc h
 have D:(((10:Nat)^30:Nat):Int)=(10:Int)^30:=by decide
 omega
def tM (h:Q9 a b)(hp:pl<=30):(cE a b*ak pl).natAbs<10^199:=by
 have h1:=h.red.1
 have D:(ak pl).natAbs<=10^30:=by have:=HA hp;have:=gK pl;omega
 rw[Int.natAbs_mul]
 have E:(cE a b).natAbs*(ak pl).natAbs<=10^90*10^30:=qb7 U D
 have G:10^90*10^30<10^199:=by decide
 omega
def AZ (e:(l,m)=qR a b)(h:Q9 a b)(hp:pl<=30)(ht:Tb w):CL 140 #[.agg #[S l,S m],.int .i64 pl] w (aH w λv _=>v=Qv (mE a b (ak pl)) (ak pl)):=by
 rw[show l=(qR a b).1 from congrArg Prod.fst e,show m=(qR a b).2 from congrArg Prod.snd e]
 exact gT (AL h.ok (qG h.2.1 h.fz.1) (qH h.2.1 h.fz.2) hp (tM h hp) ht) (qb1 (λz=>Qv z (ak pl)) (JR h.2.1))
def HB (e:(l,m)=qR a b)(h:Q9 a b)(hp:pl<=30)(ht:Tb w):CL 141 #[.agg #[S l,S m],.int .i64 pl] w (aH w λv _=>v=Qv (m7 a b (ak pl)) (ak pl)):=by
 rw[show l=(qR a b).1 from congrArg Prod.fst e,show m=(qR a b).2 from congrArg Prod.snd e]
 exact gT (Hm h.ok (qG h.2.1 h.fz.1) (qH h.2.1 h.fz.2) hp (tM h hp) ht) (qb1 (λz=>Qv z (ak pl)) (JS h.2.1))
def xI {d:Int}{x:R×R}(e1:x.1=qR a b)(e2:x.2=qR c d)(q1:Q9 a b)(q2:Q9 c d)(hb1:ae w b1 30 #[S x.1.1,S x.1.2,S x.2.1,S x.2.2])(hb2:ae w b2 3 #[.int .i64 pl])(hp:pl<=30)(ht:Tb w):
 CL 138 #[pT b1,pT b2] w (aH w λv w'=>v=IV (mE a b (ak pl)) (ak pl) (m7 c d (ak pl)) (ak pl)):=by
 have Ap:=bt hb1;have Aq:=bt hb2;refine aC func138 Z (I ?_);refine al aL (λ_ G E=>?_);have⟨hb1,hb2⟩:=iZ G.2 hb1 hb2;have D:=G.2;refine I ?_;refine bB 13 ?_;refine sf ?_;refine ay (V:=.tuple #[QV (mE a b (ak pl)) (ak pl),.int .i64 0]) (λ_ _ kk _=>?_) ?_;refine cl FU (AZ e1 q1 hp (ht.ext (xt D kk))) ?_;rintro _ _ Ao rfl;have kd:=Ao.2;refine I ?_;exact fs ⟨kd,rfl⟩;refine sf ?_;refine ay (V:=QV (mE a b (ak pl)) (ak pl)) (λ_ _ _ _=>?_) ?_;refine cl us rV ?_;rintro _ _ W rfl;have Ad:=W.2;refine I ?_;exact fs ⟨Ad,rfl⟩;refine sf ?_;refine ay (V:=.tuple #[QV (m7 c d (ak pl)) (ak pl),.int .i64 0]) (λ_ _ Am _=>?_) ?_;refine cl FV (HB e2 q2 hp (ht.ext (xt D Am))) ?_;rintro _ _ O rfl;have Af:=O.2;refine I ?_;exact fs ⟨Af,rfl⟩;refine sf ?_;intro _ _ A2 _;have⟨hb1,hb2,E,D⟩:=br A2.2 hb1 hb2 E D;refine cl us rV ?_;rintro _ _ H rfl;have⟨hb1,hb2,E,D⟩:=br H.2 hb1 hb2 E D;refine ab (aS (vs:=[(0,QV (mE a b (ak pl)) (ak pl)),(1,QV (m7 c d (ak pl)) (ak pl))]) (cells:=#[S ((qR (mE a b (ak pl)) (ak pl)).1),S ((qR (mE a b (ak pl)) (ak pl)).2),S ((qR (m7 c d (ak pl)) (ak pl)).1),S ((qR (m7 c d (ak pl)) (ak pl)).2)]) (pl:=[(0,2),(2,2)]) bp aL q0 Z q0 ?_);refine SA E (λ_ A1 Ab=>?_)
 have⟨hb1,hb2,D,_⟩:=fq A1 hb1 hb2 D;refine I ?_;refine aK (v:=IV (mE a b (ak pl)) (ak pl) (m7 c d (ak pl)) (ak pl)) (cn  rfl ?_) D Z;refine ah (t:=2) (cs:=[S ((qR (mE a b (ak pl)) (ak pl)).1),S ((qR (mE a b (ak pl)) (ak pl)).2),S ((qR (m7 c d (ak pl)) (ak pl)).1),S ((qR (m7 c d (ak pl)) (ak pl)).2)]) (b:=w.heap.size) (o:=0) bp Z bc ?_ ?_;exact Z;exact aa0 Ab (i:=0) Z
def lV {d:Int}{x:R×R}(e1:x.1=qR a b)(e2:x.2=qR c d)(q1:Q9 a b)(q2:Q9 c d)(hle:a*d<=c*b)(hp:pl<=30)(ht:Tb w):
 CL 85 #[.agg #[S x.1.1,S x.1.2,S x.2.1,S x.2.2],.int .i64 pl] w (aH w λv w'=>v=.tuple #[IV (mE a b (ak pl)) (ak pl) (m7 c d (ak pl)) (ak pl),.int .i64 0]):=by
 refine aC func85 Z (I ?_);refine bx (λkk Ad E=>?_);have D:=Ad.2;refine bx (λA2 Am G=>?_);have⟨E,D⟩:=bn Am.2 E D;refine al aL (λ_ Ab H=>?_);have⟨E,G,D⟩:=aP Ab.2 E G D;refine I ?_;refine ab (bE (vf:=[]) (vc:=[pT w.heap.size,pT kk.heap.size]) Z Z ?_);refine ab (aX (cs:=[S x.1.1,S x.1.2,S x.2.1,S x.2.2]) (b:=w.heap.size) (o:=0) bp Z bc Z (aa0 E (i:=0) Z) ?_);refine BS (λ_ O _ A1=>?_);have⟨E,G,H,D⟩:=br O E G H D;have Ap:=bz O;refine clb FP (hc:=tK (l:=[x]) (x:=(qR (mE a b (ak pl)) (ak pl),qR (m7 c d (ak pl)) (ak pl))) FT (aa3 A1) Z Vk (λy hy=>by rw[List.mem_singleton.1 hy];exact⟨a,b,c,d,e1,e2,q1,q2,hle⟩) (λW e=>xI e1 e2 q1 q2 (E.ext e) (G.ext e) hp ((ht.ext D).ext e)) (ht.ext D)) (hk:=?_);rintro _ _ Af rfl;have⟨E,G,H,D⟩:=br Af.2 E G H D;refine I ?_;refine SA H (λ_ kd Ao=>?_);have⟨E,G,D,_⟩:=fq kd E G D;refine I ?_;refine aK (v:=.tuple #[IV (mE a b (ak pl)) (ak pl) (m7 c d (ak pl)) (ak pl),.int .i64 0]) (cJ (r1:=.cell 4 30) (r2:=.tmp 5) Z ?_ ?_) D Z;refine ah (t:=4) (cs:=[S ((qR (mE a b (ak pl)) (ak pl)).1),S ((qR (mE a b (ak pl)) (ak pl)).2),S ((qR (m7 c d (ak pl)) (ak pl)).1),S ((qR (m7 c d (ak pl)) (ak pl)).2)]) (b:=A2.heap.size) (o:=0) bp Z bc ?_ ?_
 exact Z;exact aa0 Ao (i:=0) Z;exact aE (t:=5) Ve _
def xJ {d:Int}{x:R×R}(e1:x.1=qR a b)(e2:x.2=qR c d)(q1:Q9 a b)(q2:Q9 c d)(hb1:ae w b1 30 #[S x.1.1,S x.1.2,S x.2.1,S x.2.2])(ht:Tb w):
 CL 143 #[pT b1] w (aH w λv w'=>v=QV (c*b-a*d) (d*b)):=by
 have kd:=bt hb1;refine aC func143 Z (I ?_);refine al bi (λ_ G E=>?_);have hb1:=be G.2 hb1;have D:=G.2;refine I ?_;refine cl Ex (EZ e2 e1 q2 q1 (ht.ext D)) ?_;rintro _ _ O rfl;have⟨hb1,E,D⟩:=aP O.2 hb1 E D;refine I ?_;refine cl us rV ?_;rintro _ _ W rfl;have⟨hb1,E,D⟩:=aP W.2 hb1 E D;refine SA E (λ_ kk H=>?_);have⟨hb1,D,_⟩:=dE kk hb1 D;refine I ?_;refine aK (v:=QV (c*b-a*d) (d*b)) (cn  rfl ?_) D Z;refine ah (t:=1) (cs:=[S ((qR (c*b-a*d) (d*b)).1),S ((qR (c*b-a*d) (d*b)).2)]) (b:=w.heap.size) (o:=0) j8 Z dv ?_ ?_;exact Z;exact aa0 H (i:=0) Z
def py {d:Int}{x:R×R}(e1:x.1=qR a b)(e2:x.2=qR c d)(q1:Q9 a b)(q2:Q9 c d)(hle:a*d<=c*b)(ht:Tb w):
 CL 86 #[.agg #[S x.1.1,S x.1.2,S x.2.1,S x.2.2]] w (aH w λv w'=>v=.tuple #[QV (c*b-a*d) (d*b),.int .i64 0]):=by
 refine aC func86 Z (I ?_);refine bx (λkk O E=>?_);have D:=O.2;refine al bi (λ_ A2 G=>?_);have⟨E,D⟩:=bn A2.2 E D;refine I ?_;refine ab (bE (vf:=[]) (vc:=[pT w.heap.size]) Z Z ?_);refine ab (aX (cs:=[S x.1.1,S x.1.2,S x.2.1,S x.2.2]) (b:=w.heap.size) (o:=0) bp Z bc Z (aa0 E (i:=0) Z) ?_);refine BS (λ_ H _ Ab=>?_);have⟨E,G,D⟩:=aP H E G D;have Af:=bz H;refine clb FW (hc:=tL (l:=[x]) (x:=qR (c*b-a*d) (d*b)) FX (aa3 Ab) Z Vk (λy hy=>by rw[List.mem_singleton.1 hy];exact⟨a,b,c,d,e1,e2,q1,q2,hle⟩) (λW e=>xJ e1 e2 q1 q2 (E.ext e) ((ht.ext D).ext e)) (ht.ext D)) (hk:=?_);rintro _ _ A1 rfl;have⟨E,G,D⟩:=aP A1.2 E G D;refine I ?_;refine SA G (λ_ kd Ad=>?_);have⟨E,D,_⟩:=dE kd E D;refine I ?_;refine aK (v:=.tuple #[QV (c*b-a*d) (d*b),.int .i64 0]) (cJ (r1:=.cell 2 23) (r2:=.tmp 3) Z ?_ ?_) D Z;refine ah (t:=2) (cs:=[S ((qR (c*b-a*d) (d*b)).1),S ((qR (c*b-a*d) (d*b)).2)]) (b:=kk.heap.size) (o:=0) j8 Z dv ?_ ?_;exact Z;exact aa0 Ad (i:=0) Z;exact aE (t:=3) Ve _
def tN (e1:(l,m)=qR a b)(q1:Q9 a b)(ht:Tb w):
 CL 19 #[.agg #[S l,S m]] w (aH w λv w'=>v=.agg #[S l,S m,S l,S m]):=by
 refine aC func19 Z (I ?_);refine bx (λkk A1 E=>?_);have D:=A1.2;refine al aL (λ_ O G=>?_);have⟨E,D⟩:=bn O.2 E D;refine I ?_;refine cl pH (cB (dN _ _ _ (ht.ext D)) (Kx e1 q1)) ?_;rintro _ _ kd rfl;have⟨E,G,D⟩:=aP kd.2 E G D;refine I ?_;refine ab (aS (vs:=[(0,.agg #[S l,S m]),(1,.agg #[S l,S m])]) (cells:=#[S l,S m,S l,S m]) (pl:=[(0,2),(2,2)]) bp aL q0 Z q0 ?_);refine SA G (λ_ W H=>?_);have⟨E,D,_⟩:=dE W E D;refine I ?_;refine aK (v:=.agg #[S l,S m,S l,S m]) (cn  rfl ?_) D Z;refine ah (t:=2) (cs:=[S l,S m,S l,S m]) (b:=kk.heap.size) (o:=0) bp Z bc ?_ ?_;exact Z;exact aa0 H (i:=0) Z
end
section
open Go Go.Eng Go.RowKit Tryz
def Mn:prog.eqGuardType prog.depth 23=false:=by kernel_rfl
def JU:prog.stoodInHeld 23=false:=by kernel_rfl
def m8 (w:World)(cs:Array Value)(i:Nat)(v:Value)(h:cs[i]?=some v):(part 9 cs i).run prog w=.ok v w:=by
 unfold part
 simp[isAgg,run_underlying underlying9,h]
def Ky (w:World)(a b:List UInt8)(d:Nat):(Op.equalIn (d+1) 9 (S a) (S b)).run prog w=.ok (decide (a=b)) w:=by
 unfold Op.equalIn
 simp[run_underlying underlying9,S]
 have h:∀x y:ByteArray,(x==y)=(x.data==y.data):=λx y=>by cases x;cases y;rfl
 rw[h]
 exact Bool.eq_iff_iff.2 Vk
def Ly (w:World)(a b:R):(Op.equal 23 (.agg #[S a.1,S a.2]) (.agg #[S b.1,S b.2])).run prog w=.ok (decide (a=b)) w:=by
 unfold Op.equal Op.maxDepth
 show(Op.equalIn (9998+1+1) 23 _ _).run _ _=_
 unfold Op.equalIn
 obtain⟨D,E⟩:=a
 obtain⟨b1,b2⟩:=b
 have G:=m8 w #[S D,S E] 0 (S D) Z
 have p2:=m8 w #[S D,S E] 1 (S E) Z
 have p3:=m8 w #[S b1,S b2] 0 (S b1) Z
 have p4:=m8 w #[S b1,S b2] 1 (S b2) Z
 have H:=Ky w D b1 9998
 have O:=Ky w E b2 9998
 simp[run_underlying underlying23,JU,G,p2,p3,p4,H,O]
 by_cases h1:D=b1 <;>by_cases h2:E=b2 <;>simp[h1,h2]
section
variable {r:Option Nat}{N:Nat}{e:Nat->Value}{ds:List Deferred}{Q:Exit->Act->World->Prop}{K:Act->World->Prop}
variable {ty:Nat}{pos:String}{af:Array Edge}{g:Option (Nat×Bool)}{v u:Value}{x y:Operand}{t t':TypeId}
def Ds {op:BinOp}(x y:Operand)(a b:Array Value):(eqGuard op 23 x y (.agg a) (.agg b)).run prog w=.ok () w:=by
 unfold eqGuard
 cases op <;>simp[Mn]
def mF {a b:R}(hx:ev N e x=.agg #[S a.1,S a.2])(hy:ev N e y=.agg #[S b.1,S b.2])(hq:decide (a=b)=q)(hk:K (act N (upd e d (.bool q)) ds) w):
 Oper.wpIn (Fw r) n prog ⟨some d,.binOp .eql 23 x y t',ty,pos,af,g⟩ (act N e ds) w K Q:=
 dY hx hy (Ds ..) (by subst hq;simp[binOp,Ly]) hk
end
def JV:prog.eqGuardType prog.depth 30=false:=by kernel_rfl
def HC:prog.stoodInHeld 30=false:=by kernel_rfl
def E5 (w:World)(a b:R)(d:Nat):(Op.equalIn (d+1+1) 23 (.agg #[S a.1,S a.2]) (.agg #[S b.1,S b.2])).run prog w=.ok (decide (a=b)) w:=by
 unfold Op.equalIn
 obtain⟨D,E⟩:=a
 obtain⟨b1,b2⟩:=b
 have G:=m8 w #[S D,S E] 0 (S D) Z
 have p2:=m8 w #[S D,S E] 1 (S E) Z
 have p3:=m8 w #[S b1,S b2] 0 (S b1) Z
 have p4:=m8 w #[S b1,S b2] 1 (S b2) Z
 have H:=Ky w D b1 d
 have O:=Ky w E b2 d
 simp[run_underlying underlying23,JU,G,p2,p3,p4,H,O]
 by_cases h1:D=b1 <;>by_cases h2:E=b2 <;>simp[h1,h2]
abbrev Iv (x:R×R):Value:=.agg #[S x.1.1,S x.1.2,S x.2.1,S x.2.2]
section
variable {P:Program}{r:Option Nat}{N:Nat}{e:Nat->Value}{ds:List Deferred}{Q:Exit->Act->World->Prop}{K:Act->World->Prop}
variable {ty:Nat}{pos:String}{af:Array Edge}{g:Option (Nat×Bool)}{v u:Value}{x y:Operand}{t t':TypeId}
def k9 {fs:Array Field}{f:Field}{D:TypeDesc}(hu:P.underlying t=some (.struct fs))(hf:fs[k]?=some f)(ho:f.offset=off)(hft:f.type=ft)(hD:P.underlying ft=some D)(hd:D.isRow=false)(hx:ev N e x=.agg cs.toArray)(hv:cs[off]?=some v)(hk:K (act N (upd e d v) ds) w):Oper.wpIn (Fw r) n P ⟨some d,.field t x k,ty,pos,af,g⟩ (act N e ds) w K Q:=by
 subst ho hft
 refine cX (v:=v) (w':=w) Z ?_ Vl
 have E:(isAgg f.type).run P w=.ok false w:=by
  unfold isAgg
  rw[Sem.run_bind,run_underlying hD w]
  cases D <;>simp_all
 have hv':cs.toArray[f.offset]?=some v:=by rw[List.getElem?_toArray];exact hv
 simp[execOp,hx,Instr.field,run_underlying hu,hf,asAgg,part,E,hv]
end
def wH (w:World)(a b c d:List UInt8):(part 23 #[S a,S b,S c,S d] 0).run prog w=.ok (.agg #[S a,S b]) w:=by
 unfold part
 simp[isAgg,run_underlying underlying23]
def wI (w:World)(a b c d:List UInt8):(part 23 #[S a,S b,S c,S d] 2).run prog w=.ok (.agg #[S c,S d]) w:=by
 unfold part
 simp[isAgg,run_underlying underlying23]
def A0 (w:World)(x y:R×R):(Op.equal 30 (Iv x) (Iv y)).run prog w=.ok (decide (x=y)) w:=by
 unfold Op.equal Op.maxDepth
 show(Op.equalIn (9997+1+1+1) 30 _ _).run _ _=_
 unfold Op.equalIn
 obtain⟨⟨E,G⟩,H,D⟩:=x
 obtain⟨⟨b1,b2⟩,b3,b4⟩:=y
 have W:=wH w E G H D
 have p2:=wI w E G H D
 have p3:=wH w b1 b2 b3 b4
 have p4:=wI w b1 b2 b3 b4
 have O:=E5 w (E,G) (b1,b2) 9997
 have kk:=E5 w (H,D) (b3,b4) 9997
 simp only[]at O kk
 simp[run_underlying underlying30,HC,W,p2,p3,p4,O,kk]
 by_cases h1:E=b1 <;>by_cases h2:G=b2 <;>by_cases h3:H=b3 <;>by_cases h4:D=b4 <;>simp[h1,h2,h3,h4]
section
variable {r:Option Nat}{N:Nat}{e:Nat->Value}{ds:List Deferred}{Q:Exit->Act->World->Prop}{K:Act->World->Prop}
variable {ty:Nat}{pos:String}{af:Array Edge}{g:Option (Nat×Bool)}{v u:Value}{x y:Operand}{t t':TypeId}
def qI {op:BinOp}(x y:Operand)(a b:Array Value):(eqGuard op 30 x y (.agg a) (.agg b)).run prog w=.ok () w:=by
 unfold eqGuard
 cases op <;>simp[JV]
def rW {a b:R×R}(hx:ev N e x=Iv a)(hy:ev N e y=Iv b)(hq:decide (a=b)=q)(hk:K (act N (upd e d (.bool q)) ds) w):
 Oper.wpIn (Fw r) n prog ⟨some d,.binOp .eql 30 x y t',ty,pos,af,g⟩ (act N e ds) w K Q:=
 dY hx hy (qI ..) (by subst hq;simp[binOp,A0]) hk
def A3 {a b:R×R}(hx:ev N e x=Iv a)(hy:ev N e y=Iv b)(hq:(!decide (a=b))=q)(hk:K (act N (upd e d (.bool q)) ds) w):
 Oper.wpIn (Fw r) n prog ⟨some d,.binOp .neq 30 x y t',ty,pos,af,g⟩ (act N e ds) w K Q:=
 dY hx hy (qI ..) (by subst hq;simp[binOp,A0]) hk
end
end
section
open Go Go.Eng Go.RowKit Tryz
attribute [local irreducible] wpListIn Code.wpIn Oper.wpIn Exit.then Exit.inBlock Exit.noGoto
set_option maxHeartbeats 40000000
set_option maxRecDepth 100000
def yP (S n d:Nat):N2:=ba (aM S n d) 1 2
def rX (S:Nat)(y:N2):Nat->N2->N2->Option (N2×N2)
 |0,u,b=>some (u,b)
 |1,u,b=>if gJ b=true then some (u,ba b 1 2)else none
 |a+2,u,b=>if gJ u=true/\gJ b=true then rX S y a (a7 S u y) (ba b (a+2) 2)else none
def A4 (S pl:Nat)(y:N2)(fr:Nat)(s e:N2):Option (N2×N2):=
 if fr%2=1 then(if gJ s=true then(il S y).bind λu=>(il S (js pl,js pl+1)).bind λc=>if gJ u=true/\gJ c=true then some (a7 S s u,a7 S e c)else none else none)else some (s,e)
def JW (S pl n d fr:Nat):Option (Int×Int):=
 if n<10^90/\d<10^90/\0<d/\gJ (aM S n d)=true/\gJ (yP S n d)=true then
  (kU (Hc S (yP S n d) fr) (1*S,1*S)).bind λs=>(kV S (yP S n d)).bind λe=>(A4 S pl (yP S n d) fr s e).bind λp=>(rX S (yP S n d) fr p.1 p.2).bind λq=>
  if gJ q.1=true/\gJ q.2=true/\0<q.2.1/\0<q.2.2 then some (l9 (1*S,1*S) (iD S q.1 q.2))else none
 else none
def Dt {S fr:Nat}{r:Int×Int}(h:JW S pl n d fr=some r):n<10^90/\d<10^90/\0<d/\Bk 95 (aM S n d)/\Bk 95 (yP S n d)/\∃s e p q,
 kU (Hc S (yP S n d) fr) (1*S,1*S)=some s/\kV S (yP S n d)=some e/\A4 S pl (yP S n d) fr s e=some p/\rX S (yP S n d) fr p.1 p.2=some q/\Bk 95 q.1/\Bk 95 q.2/\0<q.2.1/\0<q.2.2/\r=l9 (1*S,1*S) (iD S q.1 q.2):=by
 unfold JW at h
 split at h
 · rename_i h1
   refine⟨h1.1,h1.2.1,h1.2.2.1,bm h1.2.2.2.1,bm h1.2.2.2.2,?_⟩
   cases hs:kU (Hc S (yP S n d) fr) (1*S,1*S)with
   |none=>rw[hs]at h;cases h
   | some s=>
     rw[hs,Option.bind_some]at h
     cases he:kV S (yP S n d)with
     |none=>rw[he]at h;cases h
     | some e=>
       rw[he,Option.bind_some]at h
       cases hp:A4 S pl (yP S n d) fr s e with
       |none=>rw[hp]at h;cases h
       | some p=>
         rw[hp,Option.bind_some]at h
         cases hq:rX S (yP S n d) fr p.1 p.2 with
         |none=>rw[hq]at h;cases h
         | some q=>
           rw[hq,Option.bind_some]at h
           split at h
           · rename_i h2;cases h;exact⟨s,e,p,q,rfl,rfl,hp,hq,bm h2.1,bm h2.2.1,h2.2.2.1,h2.2.2.2,rfl⟩
           · cases h
 · cases h
def E6 {S a:Nat}{y u b:N2}{q:N2×N2}(h0:0<a)(h:rX S y a u b=some q):Bk 95 b:=by
 match a,h0,h with
 |1,_,h=>unfold rX at h;split at h;rename_i h1;exact bm h1;cases h
 |a+2,_,h=>unfold rX at h;split at h;rename_i h1;exact bm h1.2;cases h
def E8 {S a:Nat}{y u b:N2}{q:N2×N2}(h0:1<a)(h:rX S y a u b=some q):Bk 95 u:=by
 match a,h0,h with
 |a+2,_,h=>unfold rX at h;split at h;rename_i h1;exact bm h1.1;cases h
def HD (S:Nat)(y:N2)(a:Int)(u b:N2)(q:N2×N2):Prop:=(0<=a/\rX S y a.toNat u b=some q)\/(a=-1/\(u,b)=q)
def wJ {S:Nat}{y u b:N2}{q:N2×N2}(h:HD S y a u b q)(h0:0<a):∃n:Nat,a=(n:Int)/\0<n/\rX S y n u b=some q:=by
 rcases h with h|h
 · exact⟨a.toNat,by omega,by omega,h.2⟩
 · omega
def wK {S:Nat}{y u b:N2}{q:N2×N2}(h:HD S y a u b q)(h0:¬0<a):q=(u,b):=by
 rcases h with h|h
 · have e:a.toNat=0:=J
   rw[e]at h
   have:=h.2
   unfold rX at this
   cases this;rfl
 · exact h.2.symm
def Fa {S:Nat}{y u b:N2}{q:N2×N2}(h0:1<n)(h:rX S y n u b=some q):HD S y ((n:Int)-2) (a7 S u y) (ba b n 2) q:=by
 left
 obtain⟨k,rfl⟩:∃k,n=k+2:=⟨n-2,by omega⟩
 refine⟨by omega,?_⟩
 rw[show(((k+2:Nat):Int)-2).toNat=k by omega]
 unfold rX at h
 split at h
 · exact h
 · cases h
def Fb {S:Nat}{y u b:N2}{q:N2×N2}(h0:0<n)(h1:¬1<n)(h:rX S y n u b=some q):HD S y ((n:Int)-2) u (ba b n 2) q:=by
 right
 have e:n=1:=J
 subst e
 refine⟨by omega,?_⟩
 unfold rX at h
 split at h
 · cases h;rfl
 · cases h
def Fc {S:Nat}{y u b:N2}{q:N2×N2}(h:rX S y n u b=some q):HD S y (n:Int) u b q:=Or.inl ⟨by omega,by simpa using h⟩
def Du {S fr:Nat}{y s e:N2}{p:N2×N2}(h:A4 S pl y fr s e=some p):(fr%2=1/\∃u c,Bk 95 s/\il S y=some u/\il S (js pl,js pl+1)=some c/\Bk 95 u/\Bk 95 c/\p=(a7 S s u,a7 S e c))\/(¬fr%2=1/\p=(s,e)):=by
 unfold A4 at h
 split at h
 · rename_i ho
   left
   refine⟨ho,?_⟩
   split at h
   · rename_i hs
     cases hu:il S y with
     |none=>rw[hu]at h;cases h
     | some u=>
       rw[hu,Option.bind_some]at h
       cases hc:il S (js pl,js pl+1)with
       |none=>rw[hc]at h;cases h
       | some c=>
         rw[hc,Option.bind_some]at h
         split at h
         · rename_i h2;cases h;exact⟨u,c,bm hs,rfl,rfl,bm h2.1,bm h2.2,rfl⟩
         · cases h
   · cases h
 · rename_i ho;cases h;exact Or.inr ⟨ho,rfl⟩
def A5 {fr:Nat}{s e1:N2}{q:N2×N2}(hS:Sc sO)(hp:pl<81)(h1:0<fr)(h20:fr<=20)(hn:n<10^90)(hd:d<10^90)(hd0:0<d)(hof:Bk 95 (aM sO n d))(hy:Bk 95 (yP sO n d))(hs:kU (Hc sO (yP sO n d) fr) (1*sO,1*sO)=some s)(he:kV sO (yP sO n d)=some e1){u c:N2}(hsb:Bk 95 s)(hu:il sO (yP sO n d)=some u)(hc:il sO (js pl,js pl+1)=some c)(hub:Bk 95 u)(hcb:Bk 95 c)(ho:fr%2=1)(hq:rX sO (yP sO n d) fr (a7 sO s u) (a7 sO e1 c)=some q)(hq1:Bk 95 q.1)(hq2:Bk 95 q.2)(hm1:0<q.2.1)(hm2:0<q.2.2)(ht:Tb w):
 CL 52 #[.agg #[.int .i64 pl,S (nS sO)],QV ((n:Nat):Int) ((d:Nat):Int),.int .i64 fr] w (aH w λv w'=>v=.agg #[S (aa ((l9 (1*sO,1*sO) (iD sO q.1 q.2)).1)),S (aa ((l9 (1*sO,1*sO) (iD sO q.1 q.2)).2))]):=by
 have N4:=rL he;obtain⟨m,hR,hr⟩:=iQ hs;have MH:=rK (a:=q.1) (b:=q.2) hS hm1 hq1;have h1S:Bk 199 (1*sO,1*sO):=by have:=hS.lt;exact⟨by simp only;omega,by simp only;omega⟩
 refine aC func52 Z (I ?_);refine bx (λNW MY D=>?_);have H:=MY.2;refine bx (λAw N7 G=>?_);have⟨D,H⟩:=bn N7.2 D H;refine bx (λEW NB E=>?_);have⟨D,G,H⟩:=aP NB.2 D G H;refine al aI (λMW NJ kk=>?_);have⟨D,G,E,H⟩:=br NJ.2 D G E H;refine I ?_;refine bB 6 ?_;refine sf ?_;refine ay (V:=.agg #[S (nS ((aM sO n d).1)),S (nS ((aM sO n d).2))]) (λ_ _ NS _=>?_) ?_;refine cl gu (iT (a:=(n)) (b:=(d)) hS hn hd hd0 (ht.ext (xt H NS))) ?_;rintro _ _ M8 rfl;have MN:=M8.2;refine I ?_;exact fs ⟨MN,rfl⟩;refine ay (V:=.agg #[S (nS ((ba (aM sO n d) 1 2).1)),S (nS ((ba (aM sO n d) 1 2).2))]) (λ_ _ M1 _=>?_) ?_;refine clb fJ (hc:=eA (hof.mono dc) dc dc dc (ht.ext (xt H M1))) (hk:=?_);rintro _ _ NO rfl;have N1:=NO.2;refine I ?_;exact fs ⟨N1,rfl⟩;refine da (λv Ap=>∃b:Nat,v=pT b/\MW.heap.size<=b/\ae Ap b 59 #[S [],S []]) (hs:=λ_ _ _ k ⟨b,e,l,h⟩=>⟨b,e,l,h.ext k⟩) (λ_ _ MS _=>?_) ?_;refine al aI (λ_ MZ M2=>?_);have NI:=MZ.2;refine I ?_;exact fs ⟨NI,⟨_,rfl,(by have:=bz MS;omega),M2⟩⟩;refine sf ?_;intro _ _ NF N8;have⟨D,G,E,kk,H⟩:=dL NF.2 D G E kk H;obtain⟨As,M9,_,Kp⟩:=(N8 5 7 Z Z);have Nb:=bt Kp;refine SA Kp (λMA NK O=>?_);have⟨D,G,E,kk,H,_⟩:=ka NK D G E kk H;refine I ?_
 have Nc:=bt O;refine bB 7 ?_;refine sf ?_;refine ay (V:=.agg #[S (nS ((1*sO,1*sO).1)),S (nS ((1*sO,1*sO).2))]) (λ_ _ NP _=>?_) ?_;refine clb jG (hc:=eV (n:=1) hS dc Vr (ht.ext (xt H NP))) (hk:=?_);rintro _ _ MK rfl;have MO:=MK.2;refine I ?_;exact fs ⟨MO,rfl⟩;refine bj (λ_ _ _ _=>by refine ab (bE (vf:=[]) (vc:=[pT w.heap.size,pT As,pT Aw.heap.size]) Z (aA Z (aA M9 (aA Z Z))) ?_);refine I ?_;exact bY) ?_;refine da (λv Ap=>rP (1*sO,1*sO) (.func (.func 95) #[] #[pT w.heap.size,pT As,pT Aw.heap.size]) Ap v) (hs:=λ_ _ _ k h=>h.ext k) (λ_ _ _ _=>?_) ?_;refine cl oC jZ ?_;rintro _ _ MJ ND;have MC:=MJ.2;refine I ?_;exact fs ⟨MC,ND⟩;refine ay (V:=.agg #[S (nS s.1),S (nS s.2)]) (λ_ _ Av N3=>?_) ?_;obtain⟨_,_,MQ,M0,M3⟩:=(N3 4 20 Z Z);have⟨D,E,O⟩:=sk Av D E O;refine clb oB (hc:=cP (pt hR hS M0 M3 yz (λk hk W e=>Aj hS (D.ext e) (O.ext e) (E.ext e) (hR.bd k U) hy U VQ U ((ht.ext (xt H Av)).ext e)) (ht.ext (xt H Av))) hr) (hk:=?_) (hv:=aA Z (aA MQ Z));rintro _ _ ME rfl;have MP:=ME.2;refine I ?_;exact fs ⟨MP,rfl⟩
 refine da (λv Ap=>∃b:Nat,v=pT b/\MA.heap.size<=b/\ae Ap b 59 #[S [],S []]) (hs:=λ_ _ _ k ⟨b,e,l,h⟩=>⟨b,e,l,h.ext k⟩) (λ_ _ NT _=>?_) ?_;refine al aI (λ_ M4 MX=>?_);have NL:=M4.2;refine I ?_;exact fs ⟨NL,⟨_,rfl,(by have:=bz NT;omega),MX⟩⟩;refine sf ?_;intro _ _ N5 NR;have⟨D,G,E,kk,O,H⟩:=lk N5.2 D G E kk O H;obtain⟨MI,_,_,Jx⟩:=(NR 6 8 Z Z);have NZ:=bt Jx;refine SA Jx (λ_ MV Ad=>?_);have⟨D,G,E,kk,O,H,_⟩:=xV MV D G E kk O H;refine I ?_;refine cl oz (pu hS he (ht.ext H)) ?_;rintro _ MM B2 rfl;have⟨D,G,E,kk,O⟩:=dC B2.2 D G E kk O;have⟨Ad,H⟩:=bn B2.2 Ad H;refine al aI (λ_ E7 ML=>?_);have⟨D,G,E,kk,O⟩:=dC E7.2 D G E kk O;have⟨Ad,H⟩:=bn E7.2 Ad H;refine SA ML (λ_ D2 Am=>?_);have⟨D,G,E,kk,O⟩:=jx D2 D G E kk O;have⟨Ad,H,_⟩:=dE D2 Ad H;refine I ?_;refine ab (jz (a:=(fr:Int)) (b:=2) (c:=(fr:Int)%2) Z Z U U Z ?_);refine I ?_;refine bB 12 ?_;refine sf ?_;refine ay (V:=.agg #[S (nS u.1),S (nS u.2)]) (λ_ _ MF _=>?_) ?_;refine cl uv (mC hS hu (ht.ext (xt H MF))) ?_;rintro _ _ Mz rfl;have N6:=Mz.2;refine I ?_;exact fs ⟨N6,rfl⟩;refine ay (V:=.agg #[S (nS ((a7 sO s u).1)),S (nS ((a7 sO s u).2))]) (λ_ _ NX _=>?_) ?_;refine cl gw (cS hS hsb hub (ht.ext (xt H NX))) ?_
 rintro _ _ NH rfl;have NV:=NH.2;refine I ?_;exact fs ⟨NV,rfl⟩;refine sf ?_;refine ay (V:=.agg #[S (nS ((js pl,js pl+1).1)),S (nS ((js pl,js pl+1).2))]) (λ_ _ NM _=>?_) ?_;refine cl yw (EU hp (ht.ext (xt H NM))) ?_;rintro _ _ NU rfl;have MR:=NU.2;refine I ?_;exact fs ⟨MR,rfl⟩;refine ay (V:=.agg #[S (nS c.1),S (nS c.2)]) (λ_ _ NC _=>?_) ?_;refine cl uv (mC hS hc (ht.ext (xt H NC))) ?_;rintro _ _ NQ rfl;have N0:=NQ.2;refine I ?_;exact fs ⟨N0,rfl⟩;refine sf ?_;intro _ _ ny _;have⟨D,G,E,kk,O⟩:=dC ny.2 D G E kk O;have⟨Ad,Am,H⟩:=aP ny.2 Ad Am H;refine cl gw (cS hS N4 hcb (ht.ext H)) ?_;rintro _ _ od rfl;have⟨D,G,E,kk,O⟩:=dC od.2 D G E kk O;have⟨Ad,Am,H⟩:=aP od.2 Ad Am H;refine SA Ad (λ_ D1 Ar=>?_);have⟨D,G,E,kk,O⟩:=jx D1 D G E kk O;have⟨Am,H,_⟩:=dE D1 Am H;refine SA Am (λMB B1 NE=>?_);have⟨D,G,E,kk,O⟩:=jx B1 D G E kk O;have⟨Ar,H,_⟩:=dE B1 Ar H;refine I ?_
 refine cM [(10,10),(42,55)] (λN9 e W=>∃aq:Int,∃A2:N2,∃Ab:N2,((aq+2).toNat=N9)/\(e 10=.int .i64 aq)/\(HD sO (ba (aM sO n d) 1 2) aq A2 Ab q)/\(aq<=(fr:Int))/\(MB.heap.size<=W.heap.size)/\(a8 w W)/\(ae W w.heap.size 45 #[.int .i64 pl,S (nS sO)])/\(ae W NW.heap.size 23 #[S ((qR ((n:Nat):Int) ((d:Nat):Int)).1),S ((qR ((n:Nat):Int) ((d:Nat):Int)).2)])/\(ae W Aw.heap.size 3 #[.int .i64 fr])/\(ae W EW.heap.size 59 #[S [],S []])/\(ae W As 59 #[S (nS ((ba (aM sO n d) 1 2).1)),S (nS ((ba (aM sO n d) 1 2).2))])/\(ae W MM.heap.size 59 #[S (nS Ab.1),S (nS Ab.2)])/\(ae W MI 59 #[S (nS A2.1),S (nS A2.2)])) (((fr:Int)+2).toNat) ⟨(fr:Int),a7 sO s u,a7 sO e1 c,rfl,rfl,(Fc hq),(Int.le_refl _),(qa0 _),H,D,G,E,kk,O,NE,Ar⟩ ?_;rintro _ _ _ ⟨aq,A2,Ab,rfl,Ng,Ax,Na,NY,kd,D,G,E,kk,O,Af,A1⟩;have Ne:=bz kd;by_cases hl:0<aq;obtain⟨a,rfl,E4,Aq⟩:=wJ Ax hl;have MG:=E6 E4 Aq;have Nf:a<=fr:=J
 refine I ?_;refine clb fJ (hc:=eA (MG.mono dc) U dc dc (ht.ext kd)) (hk:=?_);rintro _ _ Ay rfl;have⟨D,G,E,kk,O⟩:=dC Ay.2 D G E kk O;have⟨Af,A1,kd⟩:=aP Ay.2 Af A1 kd;refine SA Af (λ_ E1 Ao=>?_);have⟨D,G,E,kk,O⟩:=jx E1 D G E kk O;have⟨A1,kd,_⟩:=dE E1 A1 kd;refine I ?_;by_cases ap7:1<((a:Nat):Int);refine I ?_;refine clb gw (hc:=cS hS (E8 U Aq) hy (ht.ext kd)) (hk:=?_);rintro _ _ Ix rfl;have⟨D,G,E,kk,O⟩:=dC Ix.2 D G E kk O;have⟨Ao,A1,kd⟩:=aP Ix.2 Ao A1 kd;refine SA A1 (λ_ wr NG=>?_);have⟨D,G,E,kk,O⟩:=jx wr D G E kk O;have⟨Ao,kd,_⟩:=dE wr Ao kd;refine I ?_;refine oO (I ?_);exact bQ ⟨((a:Nat):Int)-2,a7 sO A2 (ba (aM sO n d) 1 2),ba Ab a 2,rfl,rfl,(Fa U Aq),U,U,kd,D,G,E,kk,O,Ao,NG⟩;refine I ?_;refine oO (I ?_);exact bQ ⟨((a:Nat):Int)-2,A2,ba Ab a 2,rfl,rfl,(Fb E4 U Aq),U,U,kd,D,G,E,kk,O,Ao,A1⟩;have NN:=wK Ax hl;subst NN;refine I ?_;refine bB 7 ?_;refine sf ?_;refine ay (V:=.agg #[S (nS ((1*sO,1*sO).1)),S (nS ((1*sO,1*sO).2))]) (λ_ _ NA _=>?_) ?_;refine clb jG (hc:=eV (n:=1) hS dc Vr (ht.ext (xt kd NA))) (hk:=?_);rintro _ _ M5 rfl;have M7:=M5.2;refine I ?_;exact fs ⟨M7,rfl⟩;refine sf ?_
 refine ay (V:=.agg #[S (nS ((iD sO A2 Ab).1)),S (nS ((iD sO A2 Ab).2))]) (λ_ _ My _=>?_) ?_;refine clb qZ (hc:=kp hS hq1 (hq2.mono dc) hm1 hm2 (ht.ext (xt kd My))) (hk:=?_);rintro _ _ M6 rfl;have MD:=M6.2;refine I ?_;exact fs ⟨MD,rfl⟩;refine sf ?_;intro _ _ E9 _;have⟨D,G,E,kk,O⟩:=dC E9.2 D G E kk O;have⟨Af,A1,kd⟩:=aP E9.2 Af A1 kd;refine clb ut (hc:=kW h1S (MH.mono dc) (ht.ext kd)) (hk:=?_);rintro _ _ L2 rfl;have⟨D,G,E,kk,O⟩:=dC L2.2 D G E kk O;have⟨Af,A1,kd⟩:=aP L2.2 Af A1 kd;refine SA kk (λ_ K2 MU=>?_);have⟨D,G,E,O,Af⟩:=jx K2 D G E O Af;have⟨A1,kd,_⟩:=dE K2 A1 kd;refine I ?_;refine aK (v:=.agg #[S (aa ((l9 (1*sO,1*sO) (iD sO A2 Ab)).1)),S (aa ((l9 (1*sO,1*sO) (iD sO A2 Ab)).2))]) (cn  rfl ?_) kd Z;refine ah (t:=6) (cs:=[S (aa ((l9 (1*sO,1*sO) (iD sO A2 Ab)).1)),S (aa ((l9 (1*sO,1*sO) (iD sO A2 Ab)).2))]) (b:=EW.heap.size) (o:=0) dw Z cD ?_ ?_;exact Z;exact aa0 MU (i:=0) Z
def A6 {fr:Nat}{s e1:N2}{q:N2×N2}(hS:Sc sO)(hp:pl<81)(h1:0<fr)(h20:fr<=20)(hn:n<10^90)(hd:d<10^90)(hd0:0<d)(hof:Bk 95 (aM sO n d))(hy:Bk 95 (yP sO n d))(hs:kU (Hc sO (yP sO n d) fr) (1*sO,1*sO)=some s)(he:kV sO (yP sO n d)=some e1)(ho:¬fr%2=1)(hq:rX sO (yP sO n d) fr s e1=some q)(hq1:Bk 95 q.1)(hq2:Bk 95 q.2)(hm1:0<q.2.1)(hm2:0<q.2.2)(ht:Tb w):
 CL 52 #[.agg #[.int .i64 pl,S (nS sO)],QV ((n:Nat):Int) ((d:Nat):Int),.int .i64 fr] w (aH w λv w'=>v=.agg #[S (aa ((l9 (1*sO,1*sO) (iD sO q.1 q.2)).1)),S (aa ((l9 (1*sO,1*sO) (iD sO q.1 q.2)).2))]):=by
 have NL:=rL he;obtain⟨m,hR,hr⟩:=iQ hs;have M6:=rK (a:=q.1) (b:=q.2) hS hm1 hq1;have h1S:Bk 199 (1*sO,1*sO):=by have:=hS.lt;exact⟨by simp only;omega,by simp only;omega⟩
 refine aC func52 Z (I ?_);refine bx (λK2 ME D=>?_);have kk:=ME.2;refine bx (λAq N8 G=>?_);have⟨D,kk⟩:=bn N8.2 D kk;refine bx (λAw MQ E=>?_);have⟨D,G,kk⟩:=aP MQ.2 D G kk;refine al aI (λMK NE O=>?_);have⟨D,G,E,kk⟩:=br NE.2 D G E kk;refine I ?_;refine bB 6 ?_;refine sf ?_;refine ay (V:=.agg #[S (nS ((aM sO n d).1)),S (nS ((aM sO n d).2))]) (λ_ _ NA _=>?_) ?_;refine cl gu (iT (a:=(n)) (b:=(d)) hS hn hd hd0 (ht.ext (xt kk NA))) ?_;rintro _ _ N3 rfl;have MY:=N3.2;refine I ?_;exact fs ⟨MY,rfl⟩;refine ay (V:=.agg #[S (nS ((ba (aM sO n d) 1 2).1)),S (nS ((ba (aM sO n d) 1 2).2))]) (λ_ _ MO _=>?_) ?_;refine clb fJ (hc:=eA (hof.mono dc) dc dc dc (ht.ext (xt kk MO))) (hk:=?_);rintro _ _ Mz rfl;have M1:=Mz.2;refine I ?_;exact fs ⟨M1,rfl⟩;refine da (λv Ao=>∃b:Nat,v=pT b/\MK.heap.size<=b/\ae Ao b 59 #[S [],S []]) (hs:=λ_ _ _ k ⟨b,e,l,h⟩=>⟨b,e,l,h.ext k⟩) (λ_ _ Kp _=>?_) ?_;refine al aI (λ_ M5 N5=>?_);have M0:=M5.2;refine I ?_;exact fs ⟨M0,⟨_,rfl,(by have:=bz Kp;omega),N5⟩⟩;refine sf ?_;intro _ _ MZ MJ;have⟨D,G,E,O,kk⟩:=dL MZ.2 D G E O kk;obtain⟨ny,M8,_,Ax⟩:=(MJ 5 7 Z Z);have NN:=bt Ax;refine SA Ax (λMU MS H=>?_);have⟨D,G,E,O,kk,_⟩:=ka MS D G E O kk;refine I ?_
 have NG:=bt H;refine bB 7 ?_;refine sf ?_;refine ay (V:=.agg #[S (nS ((1*sO,1*sO).1)),S (nS ((1*sO,1*sO).2))]) (λ_ _ MD _=>?_) ?_;refine clb jG (hc:=eV (n:=1) hS dc Vr (ht.ext (xt kk MD))) (hk:=?_);rintro _ _ N7 rfl;have N0:=N7.2;refine I ?_;exact fs ⟨N0,rfl⟩;refine bj (λ_ _ _ _=>by refine ab (bE (vf:=[]) (vc:=[pT w.heap.size,pT ny,pT Aq.heap.size]) Z (aA Z (aA M8 (aA Z Z))) ?_);refine I ?_;exact bY) ?_;refine da (λv Ao=>rP (1*sO,1*sO) (.func (.func 95) #[] #[pT w.heap.size,pT ny,pT Aq.heap.size]) Ao v) (hs:=λ_ _ _ k h=>h.ext k) (λ_ _ _ _=>?_) ?_;refine cl oC jZ ?_;rintro _ _ M7 MX;have ML:=M7.2;refine I ?_;exact fs ⟨ML,MX⟩;refine ay (V:=.agg #[S (nS s.1),S (nS s.2)]) (λ_ _ od N1=>?_) ?_;obtain⟨_,_,MW,MF,NF⟩:=(N1 4 20 Z Z);have⟨D,E,H⟩:=sk od D E H;refine clb oB (hc:=cP (pt hR hS MF NF yz (λk hk W e=>Aj hS (D.ext e) (H.ext e) (E.ext e) (hR.bd k U) hy U VQ U ((ht.ext (xt kk od)).ext e)) (ht.ext (xt kk od))) hr) (hk:=?_) (hv:=aA Z (aA MW Z));rintro _ _ MP rfl;have Ix:=MP.2;refine I ?_;exact fs ⟨Ix,rfl⟩
 refine da (λv Ao=>∃b:Nat,v=pT b/\MU.heap.size<=b/\ae Ao b 59 #[S [],S []]) (hs:=λ_ _ _ k ⟨b,e,l,h⟩=>⟨b,e,l,h.ext k⟩) (λ_ _ M9 _=>?_) ?_;refine al aI (λ_ MG L2=>?_);have Jx:=MG.2;refine I ?_;exact fs ⟨Jx,⟨_,rfl,(by have:=bz M9;omega),L2⟩⟩;refine sf ?_;intro _ _ MB NC;have⟨D,G,E,O,H,kk⟩:=lk MB.2 D G E O H kk;obtain⟨M3,_,_,As⟩:=(NC 6 8 Z Z);have NM:=bt As;refine SA As (λ_ MA Af=>?_);have⟨D,G,E,O,H,kk,_⟩:=xV MA D G E O H kk;refine I ?_;refine cl oz (pu hS he (ht.ext kk)) ?_;rintro _ MN Ay rfl;have⟨D,G,E,O,H⟩:=dC Ay.2 D G E O H;have⟨Af,kk⟩:=bn Ay.2 Af kk;refine al aI (λ_ D2 MR=>?_);have⟨D,G,E,O,H⟩:=dC D2.2 D G E O H;have⟨Af,kk⟩:=bn D2.2 Af kk;refine SA MR (λNB E7 N9=>?_);have⟨D,G,E,O,H⟩:=jx E7 D G E O H;have⟨Af,kk,_⟩:=dE E7 Af kk;refine I ?_;refine ab (jz (a:=(fr:Int)) (b:=2) (c:=(fr:Int)%2) Z Z U U Z ?_);refine I ?_;refine I ?_
 refine cM [(10,10),(42,55)] (λMV e W=>∃aq:Int,∃A2:N2,∃Ab:N2,((aq+2).toNat=MV)/\(e 10=.int .i64 aq)/\(HD sO (ba (aM sO n d) 1 2) aq A2 Ab q)/\(aq<=(fr:Int))/\(NB.heap.size<=W.heap.size)/\(a8 w W)/\(ae W w.heap.size 45 #[.int .i64 pl,S (nS sO)])/\(ae W K2.heap.size 23 #[S ((qR ((n:Nat):Int) ((d:Nat):Int)).1),S ((qR ((n:Nat):Int) ((d:Nat):Int)).2)])/\(ae W Aq.heap.size 3 #[.int .i64 fr])/\(ae W Aw.heap.size 59 #[S [],S []])/\(ae W ny 59 #[S (nS ((ba (aM sO n d) 1 2).1)),S (nS ((ba (aM sO n d) 1 2).2))])/\(ae W MN.heap.size 59 #[S (nS Ab.1),S (nS Ab.2)])/\(ae W M3 59 #[S (nS A2.1),S (nS A2.2)])) (((fr:Int)+2).toNat) ⟨(fr:Int),s,e1,rfl,rfl,(Fc hq),(Int.le_refl _),(qa0 _),kk,D,G,E,O,H,N9,Af⟩ ?_;rintro _ _ _ ⟨aq,A2,Ab,rfl,NH,Ar,NI,NK,kd,D,G,E,O,H,Ad,A1⟩;have NJ:=bz kd;by_cases hl:0<aq;obtain⟨a,rfl,E1,Ap⟩:=wJ Ar hl;have M4:=E6 E1 Ap;have NO:a<=fr:=J
 refine I ?_;refine clb fJ (hc:=eA (M4.mono dc) U dc dc (ht.ext kd)) (hk:=?_);rintro _ _ Av rfl;have⟨D,G,E,O,H⟩:=dC Av.2 D G E O H;have⟨Ad,A1,kd⟩:=aP Av.2 Ad A1 kd;refine SA Ad (λ_ B1 Am=>?_);have⟨D,G,E,O,H⟩:=jx B1 D G E O H;have⟨A1,kd,_⟩:=dE B1 A1 kd;refine I ?_;by_cases apk:1<((a:Nat):Int);refine I ?_;refine clb gw (hc:=cS hS (E8 U Ap) hy (ht.ext kd)) (hk:=?_);rintro _ _ D1 rfl;have⟨D,G,E,O,H⟩:=dC D1.2 D G E O H;have⟨Am,A1,kd⟩:=aP D1.2 Am A1 kd;refine SA A1 (λ_ B2 M2=>?_);have⟨D,G,E,O,H⟩:=jx B2 D G E O H;have⟨Am,kd,_⟩:=dE B2 Am kd;refine I ?_;refine oO (I ?_);exact bQ ⟨((a:Nat):Int)-2,a7 sO A2 (ba (aM sO n d) 1 2),ba Ab a 2,rfl,rfl,(Fa U Ap),U,U,kd,D,G,E,O,H,Am,M2⟩;refine I ?_;refine oO (I ?_);exact bQ ⟨((a:Nat):Int)-2,A2,ba Ab a 2,rfl,rfl,(Fb E1 U Ap),U,U,kd,D,G,E,O,H,Am,A1⟩;have N6:=wK Ar hl;subst N6;refine I ?_;refine bB 7 ?_;refine sf ?_;refine ay (V:=.agg #[S (nS ((1*sO,1*sO).1)),S (nS ((1*sO,1*sO).2))]) (λ_ _ MM _=>?_) ?_;refine clb jG (hc:=eV (n:=1) hS dc Vr (ht.ext (xt kd MM))) (hk:=?_);rintro _ _ ND rfl;have MI:=ND.2;refine I ?_;exact fs ⟨MI,rfl⟩;refine sf ?_
 refine ay (V:=.agg #[S (nS ((iD sO A2 Ab).1)),S (nS ((iD sO A2 Ab).2))]) (λ_ _ My _=>?_) ?_;refine clb qZ (hc:=kp hS hq1 (hq2.mono dc) hm1 hm2 (ht.ext (xt kd My))) (hk:=?_);rintro _ _ N4 rfl;have MH:=N4.2;refine I ?_;exact fs ⟨MH,rfl⟩;refine sf ?_;intro _ _ EW _;have⟨D,G,E,O,H⟩:=dC EW.2 D G E O H;have⟨Ad,A1,kd⟩:=aP EW.2 Ad A1 kd;refine clb ut (hc:=kW h1S (M6.mono dc) (ht.ext kd)) (hk:=?_);rintro _ _ E4 rfl;have⟨D,G,E,O,H⟩:=dC E4.2 D G E O H;have⟨Ad,A1,kd⟩:=aP E4.2 Ad A1 kd;refine SA O (λ_ E9 MC=>?_);have⟨D,G,E,H,Ad⟩:=jx E9 D G E H Ad;have⟨A1,kd,_⟩:=dE E9 A1 kd;refine I ?_;refine aK (v:=.agg #[S (aa ((l9 (1*sO,1*sO) (iD sO A2 Ab)).1)),S (aa ((l9 (1*sO,1*sO) (iD sO A2 Ab)).2))]) (cn  rfl ?_) kd Z;refine ah (t:=6) (cs:=[S (aa ((l9 (1*sO,1*sO) (iD sO A2 Ab)).1)),S (aa ((l9 (1*sO,1*sO) (iD sO A2 Ab)).2))]) (b:=Aw.heap.size) (o:=0) dw Z cD ?_ ?_;exact Z;exact aa0 MC (i:=0) Z
def Dv {fr:Nat}{r:Int×Int}(hS:Sc sO)(hp:pl<81)(h1:0<fr)(h20:fr<=20)(hh:JW sO pl n d fr=some r)(ht:Tb w):
 CL 52 #[.agg #[.int .i64 pl,S (nS sO)],QV ((n:Nat):Int) ((d:Nat):Int),.int .i64 fr] w (aH w λv _=>v=.agg #[S (aa r.1),S (aa r.2)]):=by
 obtain⟨W,hd,kd,O,hy,s,_,p,q,hs,H,A1,hq,kk,D,E,G,rfl⟩:=Dt hh
 rcases Du A1 with⟨ho,u,c,hsb,hu,hc,hub,hcb,rfl⟩|⟨ho,rfl⟩
 · exact A5 hS hp h1 h20 W hd kd O hy hs H hsb hu hc hub hcb ho hq kk D E G ht
 · exact A6 hS hp h1 h20 W hd kd O hy hs H ho hq kk D E G ht
def tO (h:n<10^12):(aY n).length<=12:=by
 unfold aY;split
 · simp
 · rw[b8];exact(aF 10 U n 12).2 h
def Dw (e:(l,m)=qR a b)(h:Q9 a b)(ha:a.natAbs<10^12):(((body l).length:Nat):Int)<=12:=by
 rw[show l=aa (cE a b)from congrArg Prod.fst e,dI]
 have:=tO (Nat.lt_of_le_of_lt (rT h.2.1) ha)
 omega
def Dx (e:(l,m)=qR a b)(h:Q9 a b)(hb:b<10^12):((m.length:Nat):Int)<=12:=by
 rw[show m=aa (bI a b)from congrArg Prod.snd e]
 have h1:=jn (n:=a) h.2.1
 have D:=wE (n:=a) h.2.1
 unfold aa
 rw[if_neg U]
 have:=tO (n:=(bI a b).natAbs) U
 omega
def dK (pl:Nat)(a b la lb ha hb:Int):Bool:=decide ((pl:Int)<=12)&&(decide (0<=aw (a*lb) (la*b))&&decide (aw (a*hb) (ha*b)<=0))
def kX (e:(l,m)=qR a b)(h:Q9 a b)(ha:a.natAbs<10^12)(hb:b<10^12)(ht:Tb w):
 CL 55 #[.agg #[S l,S m]] w (aH w λv w'=>v=.bool true):=by
 have h1:=Dw e h ha;have H:=Dx e h hb;refine aC func55 Z (I ?_);refine bx (λ_ O E=>?_);have D:=O.2;refine I ?_;refine cl pH (cB (dN _ _ _ (ht.ext D)) (Kx e h)) ?_;rintro _ _ G rfl;have⟨E,D⟩:=bn G.2 E D;refine I ?_;refine cl sA (lx _ _) ?_;rintro _ _ kk rfl;have⟨E,D⟩:=bn kk.2 E D;refine I ?_;refine ab (bF (l:=body l) U9 Z ?_);refine I ?_;refine ab (bF (l:=m) U9 Z ?_);refine I ?_;exact an (t:=2) (v:=.bool (decide ((((m).length:Nat):Int)<=12))) Z D (qb1 Value.bool (qa1 H)) Z
def ej {fu:Value}{lb:Int}(e:(l,m)=qR a b)(h:Q9 a b)(ha12:a.natAbs<10^12)(hb12:b<10^12)(e1:(l1,m1)=qR la lb)(q1:Q9 la lb)(e2:(l2,m2)=qR ha hb)(q2:Q9 ha hb)(hu:fu.cells=#[fu])(ht:Tb w):
 CL 17 #[.agg #[S l1,S m1,S l2,S m2,S l3,S m3,S l4,S m4,fu],.agg #[S l,S m],.int .i64 pl] w (aH w λv w'=>v=.bool (dK pl a b la lb ha hb)):=by
 refine aC func17 Z (I ?_);refine bx (λ_ A1 E=>?_);have D:=A1.2;refine bx (λ_ O G=>?_);have⟨E,D⟩:=bn O.2 E D;refine I ?_;by_cases cx:0<=(pl:Int);by_cases cm:(pl:Int)<=12;by_cases cw:0<=(aw (a*lb) (la*b));refine I ?_;refine cl jI (kX e h ha12 hb12 (ht.ext D)) ?_;rintro _ _ W rfl;have⟨E,G,D⟩:=aP W.2 E G D;refine I ?_;refine cl ky (iS e e1 h q1 (ht.ext D)) ?_;rintro _ _ H rfl;have⟨E,G,D⟩:=aP H.2 E G D;refine I ?_;refine cl ky (iS e e2 h q2 (ht.ext D)) ?_;rintro _ _ kk rfl;have D:=xt D kk.2;refine I ?_;exact an (t:=6) (v:=.bool (decide ((aw (a*hb) (ha*b))<=0))) Z D (by unfold dK;rw[decide_eq_true cm];rw[decide_eq_true cw];first|rfl|simp) Z;refine I ?_;refine cl jI (kX e h ha12 hb12 (ht.ext D)) ?_;rintro _ _ kd rfl;have⟨E,G,D⟩:=aP kd.2 E G D;refine I ?_;refine cl ky (iS e e1 h q1 (ht.ext D)) ?_;rintro _ _ A2 rfl;have D:=xt D A2.2;refine I ?_;exact an (t:=6) (v:=.bool false) Z D (by unfold dK;rw[decide_eq_true cm];rw[decide_eq_false cw];first|rfl|simp) Z;refine I ?_;refine cl jI (kX e h ha12 hb12 (ht.ext D)) ?_;rintro _ _ Ab rfl;have D:=xt D Ab.2;refine I ?_;exact an (t:=6) (v:=.bool false) Z D (by unfold dK;rw[decide_eq_false cm];first|rfl|simp) Z;omega
structure Fe (pl:Nat)(r:Int×Int)(f c:Int):Prop where
 b1:r.1.natAbs<10^90
 b2:r.2.natAbs<10^90
 le:r.1<=r.2
 hf:mE r.1 (ak (pl+15)) (ak pl)=f
 hc:m7 r.2 (ak (pl+15)) (ak pl)=c
 f9:f.natAbs<10^70
 c9:c.natAbs<10^70
 fc:f<=c
 one:c<=f+1
def fF (h:a.natAbs<10^90)(hk:k<=80):Q9 a (ak k):=by
 refine⟨h,gK k,?_⟩
 unfold ak
 have h1:(10:Nat)^k<=10^80:=Nat.pow_le_pow_right dc hk
 have E:(10:Nat)^80<10^90:=by decide
 have D:(((10:Nat)^90:Nat):Int)=(10:Int)^90:=by norm_cast
 omega
def ve :(([49],nS (10^pl)):R)=qR 1 (ak pl):=by
 rw[AN (gK pl) Vk,<-show nS 1=aa 1 from rfl,<-g8];rfl
def width_le (h:c<=f+1)(hT:0<T):aw ((c*T-f*T)*T) (1*(T*T))<=0:=by
 rw[bw,<-Int.sub_mul,Int.mul_assoc]
 exact Int.mul_le_mul_of_nonneg_right U (Int.le_of_lt (Int.mul_pos hT hT))
def Lz (hf:f.natAbs<10^70)(hc:c.natAbs<10^70)(hp:pl<=12):Q9 (c*ak pl-f*ak pl) (ak pl*ak pl):=by
 have h1:=gK pl
 have G:(10:Nat)^pl<=10^12:=Nat.pow_le_pow_right dc hp
 have D:ak pl<=1000000000000:=by unfold ak;omega
 have H:(c*ak pl).natAbs<=10^70*1000000000000:=by rw[Int.natAbs_mul];exact qb7 U U
 have E:(f*ak pl).natAbs<=10^70*1000000000000:=by rw[Int.natAbs_mul];exact qb7 U U
 have O:ak pl*ak pl<=1000000000000*1000000000000:=Int.mul_le_mul D D U U
 exact⟨by omega,Int.mul_pos h1 h1,by omega⟩
def wL (e:(l,m)=qR a b)(h:Q9 a b)(ha12:a.natAbs<10^12)(hb12:b<10^12)(e1:(l1,m1)=qR la lb0)(q1:Q9 la lb0)(e2:(l2,m2)=qR ha hb)(q2:Q9 ha hb)(hrt:dK pl a b la lb0 ha hb=false)(ht:Tb w):
 CL 44 #[.agg #[S l1,S m1,S l2,S m2,S l3,S m3,S l4,S m4,.func (.func g) #[] lb.toArray],.agg #[S l,S m],.int .i64 pl] w (aH w λv w'=>v=.tuple #[.agg #[S [],S [],S [],S []],.int .i64 60]):=by
 refine aC func44 Z (I ?_);refine bx (λ_ A1 E=>?_);have D:=A1.2;refine bx (λA2 O G=>?_);have⟨E,D⟩:=bn O.2 E D;refine al aL (λ_ kk H=>?_);have⟨E,G,D⟩:=aP kk.2 E G D;refine I ?_;refine ab (aX (cs:=[S l1,S m1,S l2,S m2,S l3,S m3,S l4,S m4,.func (.func g) #[] lb.toArray]) (b:=w.heap.size) (o:=0) eG Z fh Z (aa0 E (i:=0) Z) ?_);refine I ?_;refine cl ja (cB (ej e h ha12 hb12 e1 q1 e2 q2 Z (ht.ext D)) hrt) ?_;rintro _ _ kd rfl;have⟨E,G,H,D⟩:=br kd.2 E G H D;refine I ?_;refine SA H (λ_ W Ab=>?_);have⟨E,G,D,_⟩:=fq W E G D;refine I ?_;refine aK (v:=.tuple #[.agg #[S [],S [],S [],S []],.int .i64 60]) (cJ (r1:=.cell 6 30) (r2:=.tmp 7) Z ?_ ?_) D Z;refine ah (t:=6) (cs:=[S [],S [],S [],S []]) (b:=A2.heap.size) (o:=0) bp Z bc ?_ ?_;exact Z;exact aa0 Ab (i:=0) Z;exact aE (t:=7) Ve _
def Dy (e:(l,m)=qR a b)(h:Q9 a b)(ha12:a.natAbs<10^12)(hb12:b<10^12)(e1:(l1,m1)=qR la lb0)(q1:Q9 la lb0)(e2:(l2,m2)=qR ha hb)(q2:Q9 ha hb){r:Int×Int}(hrt:dK pl a b la lb0 ha hb=true)(hp:pl<=12)(hne:¬((l,m):R)=(l3,m3))(hg:Enters prog g)(hbd:∀W,a8 w W->CL g ([.agg #[.int .i64 ((pl+15:Nat):Int),S (nS (10^(pl+15)))],.agg #[S l,S m]].toArray++lb.toArray) W (aH W λv _=>v=.agg #[S (aa r.1),S (aa r.2)]))(hC:Fe pl r f c)(ht:Tb w):
 CL 44 #[.agg #[S l1,S m1,S l2,S m2,S l3,S m3,S l4,S m4,.func (.func g) #[] lb.toArray],.agg #[S l,S m],.int .i64 pl] w (aH w λv w'=>v=.tuple #[IV f (ak pl) c (ak pl),.int .i64 0]):=by
 have Af:=fF (k:=pl+15) hC.b1 U;have Am:=fF (k:=pl+15) hC.b2 U;have y1:=fF (k:=pl) (a:=f) (qb0 hC.f9 dc) U;have y2:=fF (k:=pl) (a:=c) (qb0 hC.c9 dc) U;have M0:Q9 (c*ak pl-f*ak pl) (ak pl*ak pl):=Lz hC.f9 hC.c9 hp;have ME:=fF (k:=pl) (a:=1) dc U;refine aC func44 Z (I ?_);refine bx (λMC E7 D=>?_);have Ab:=E7.2;refine bx (λAr M6 G=>?_);have⟨D,Ab⟩:=bn M6.2 D Ab;refine al aL (λ_ M1 H=>?_);have⟨D,G,Ab⟩:=aP M1.2 D G Ab;refine I ?_;refine ab (aX (cs:=[S l1,S m1,S l2,S m2,S l3,S m3,S l4,S m4,.func (.func g) #[] lb.toArray]) (b:=w.heap.size) (o:=0) eG Z fh Z (aa0 D (i:=0) Z) ?_);refine I ?_;refine cl ja (cB (ej e h ha12 hb12 e1 q1 e2 q2 Z (ht.ext Ab)) hrt) ?_;rintro _ Aq M5 rfl;have⟨D,G,H,Ab⟩:=br M5.2 D G H Ab;refine I ?_;refine ab (mF (a:=(l,m)) (b:=(l3,m3)) (q:=decide ((l,m)=(l3,m3))) Z Z Z ?_);refine I ?_;refine GJ (λMK Ay _ Ao=>?_);have⟨D,G,H,Ab⟩:=br Ay D G H Ab;have MN:=bz Ay;refine I ?_
 refine cM [(7,7),(11,22),(44,111)] (λK2 e W=>(0=K2)/\(e 44=.int .i64 0)/\(MK.heap.size<=W.heap.size)/\(a8 w W)/\(ae W w.heap.size 42 #[S l1,S m1,S l2,S m2,S l3,S m3,S l4,S m4,.func (.func g) #[] lb.toArray])/\(ae W MC.heap.size 23 #[S l,S m])/\(ae W Ar.heap.size 30 #[S [],S [],S [],S []])/\(World.ownsRow W Aq.heap.size 3 1 (.slice (some ⟨Aq.heap.size,0,none⟩) 2 2) 2 [.int .i64 15,.int .i64 40])) 0 ⟨rfl,rfl,(qa0 _),Ab,D,G,H,Ao⟩ ?_;rintro _ _ _ ⟨rfl,L2,MP,E,D,G,H,Ao⟩;have MO:=bz E;refine I ?_;obtain⟨_,oo,hA,MB⟩:=(aa3 Ao).cells 0 _ Z;refine ab (am (i:=0) (oo:=oo+0) gq eN Z hA L2 dc Z ?_);refine ab (aT (v:=.int .i64 15) U3 Z Z MB ?_);refine I ?_;refine ab (bb (a:=(pl:Int)) (b:=15) (c:=((pl+15:Nat):Int)) Z Z JT U ?_);refine clb eB (hc:=dr U (ht.ext E)) (hk:=?_);rintro _ _ M3 rfl;have⟨D,G,H,E⟩:=br M3.2 D G H E;refine al hP (λ_ MM M8=>?_);have⟨D,G,H,E⟩:=br MM.2 D G H E;refine SA M8 (λ_ M7 O=>?_);have⟨D,G,H,E,_⟩:=fL M7 D G H E;refine I ?_;refine ab (vS (f:=g) (lb:=lb) (vs:=[.agg #[.int .i64 (((pl+15):Nat):Int),S (nS (10^(pl+15)))],.agg #[S l,S m]]) hg Z Z (C5 (hbd _ E)) ?_);rintro _ _ M4 rfl
 have⟨D,G,H,O,E⟩:=dL M4.2 D G H O E;refine al aI (λ_ MI MF=>?_);have⟨D,G,H,O,E⟩:=dL MI.2 D G H O E;refine SA MF (λ_ Jx kk=>?_);have⟨D,G,H,O,E,_⟩:=ka Jx D G H O E;refine I ?_;refine cl eP (cH Z Z Af.fz.1 Af.fz.2 (Int.ne_of_gt Af.2.1) (ht.ext E)) ?_;rintro _ _ Ix rfl;have⟨D,G,H,O,kk,E⟩:=lk Ix.2 D G H O kk E;refine I ?_;refine al bi (λ_ MD M9=>?_);have⟨D,G,H,O,kk,E⟩:=lk MD.2 D G H O kk E;refine SA M9 (λ_ Kp kd=>?_);have⟨D,G,H,O,kk,E,_⟩:=xV Kp D G H O kk E;refine I ?_;refine cl eP (cH Z Z Am.fz.1 Am.fz.2 (Int.ne_of_gt Am.2.1) (ht.ext E)) ?_;rintro _ _ Av rfl;have⟨D,G,H,O,kk⟩:=dC Av.2 D G H O kk;have⟨kd,E⟩:=bn Av.2 kd E;refine I ?_;refine al bi (λ_ Ap MA=>?_);have⟨D,G,H,O,kk⟩:=dC Ap.2 D G H O kk;have⟨kd,E⟩:=bn Ap.2 kd E;refine SA MA (λ_ B1 A1=>?_);have⟨D,G,H,O,kk⟩:=jx B1 D G H O kk;have⟨kd,E,_⟩:=dE B1 kd E;refine I ?_;refine ab (aS (vs:=[(0,QV r.1 (ak (pl+15))),(1,QV r.2 (ak (pl+15)))]) (cells:=#[S ((qR r.1 (ak (pl+15))).1),S ((qR r.1 (ak (pl+15))).2),S ((qR r.2 (ak (pl+15))).1),S ((qR r.2 (ak (pl+15))).2)]) (pl:=[(0,2),(2,2)]) bp aL q0 Z q0 ?_);refine I ?_
 refine clb q7 (hc:=gT (Y:=.tuple #[IV f (ak pl) c (ak pl),.int .i64 0]) (lV (x:=(qR r.1 (ak (pl+15)),qR r.2 (ak (pl+15)))) Z Z Af Am (Int.mul_le_mul_of_nonneg_right hC.le (Int.le_of_lt Af.2.1)) U (ht.ext E)) (by rw[hC.hf,hC.hc])) (hk:=?_);rintro _ Aw wr rfl;have⟨D,G,H,O,kk⟩:=dC wr.2 D G H O kk;have⟨kd,A1,E⟩:=aP wr.2 kd A1 E;refine I ?_;refine al aL (λ_ As MG=>?_);have⟨D,G,H,O,kk⟩:=dC As.2 D G H O kk;have⟨kd,A1,E⟩:=aP As.2 kd A1 E;refine SA MG (λ_ D2 A2=>?_);have⟨D,G,H,O,kk⟩:=jx D2 D G H O kk;have⟨kd,A1,E,_⟩:=fq D2 kd A1 E;refine I ?_;refine ab (aX (cs:=[S ((qR f (ak pl)).1),S ((qR f (ak pl)).2),S ((qR c (ak pl)).1),S ((qR c (ak pl)).2)]) (b:=Aw.heap.size) (o:=0) bp Z bc Z (aa0 A2 (i:=0) Z) ?_);refine cl un (py (x:=(qR f (ak pl),qR c (ak pl))) Z Z y1 y2 (Int.mul_le_mul_of_nonneg_right hC.fc (Int.le_of_lt y1.2.1)) (ht.ext E)) ?_;rintro _ _ ny rfl;have⟨D,G,H,O,kk⟩:=dC ny.2 D G H O kk;have⟨kd,A1,A2,E⟩:=br ny.2 kd A1 A2 E;refine I ?_;refine al bi (λ_ od EW=>?_);have⟨D,G,H,O,kk⟩:=dC od.2 D G H O kk;have⟨kd,A1,A2,E⟩:=br od.2 kd A1 A2 E;refine SA EW (λ_ D1 Ad=>?_);have⟨D,G,H,O,kk⟩:=jx D1 D G H O kk;have⟨kd,A1,A2,E,_⟩:=fL D1 kd A1 A2 E;refine I ?_;refine bB 5 ?_;refine sf ?_
 refine ay (V:=.agg #[.int .i64 (((pl):Nat):Int),S (nS (10^pl))]) (λ_ _ M2 _=>?_) ?_;refine clb eB (hc:=dr U (ht.ext (xt E M2))) (hk:=?_);rintro _ _ E4 rfl;have E9:=E4.2;refine I ?_;exact fs ⟨E9,rfl⟩;refine bj (λ_ _ _ _=>by refine ab (k9 (cs:=[.int .i64 (((pl):Nat):Int),S (nS (10^pl))]) (v:=S (nS (10^pl))) jD Z Z Z U9 Z Z Z ?_);refine I ?_;exact bY) ?_;refine ay (V:=.agg #[S [49],S (nS (10^pl))]) (λ_ _ _ _=>?_) ?_;refine cl bN aJ ?_;rintro _ _ MJ rfl;have MH:=MJ.2;refine I ?_;exact fs ⟨MH,rfl⟩;refine sf ?_;intro _ _ Ax _;have⟨D,G,H,O,kk⟩:=dC Ax.2 D G H O kk;have⟨kd,A1,A2,Ad,E⟩:=dL Ax.2 kd A1 A2 Ad E;refine cl ky (iS Z ve M0 ME (ht.ext E)) ?_;rintro _ _ B2 rfl;have⟨D,G,H,O,kk⟩:=dC B2.2 D G H O kk;have⟨kd,A1,A2,Ad,E⟩:=dL B2.2 kd A1 A2 Ad E;refine I ?_;refine qW (qb1 Value.bool (qa1 (width_le hC.one (gK pl)))) (I ?_);refine ab (aX (cs:=[S ((qR f (ak pl)).1),S ((qR f (ak pl)).2),S ((qR c (ak pl)).1),S ((qR c (ak pl)).2)]) (b:=Aw.heap.size) (o:=0) bp Z bc Z (aa0 A2 (i:=0) Z) ?_);refine SA H (λ_ E1 ML=>?_);have⟨D,G,O,kk,kd⟩:=jx E1 D G O kk kd;have⟨A1,A2,Ad,E,_⟩:=fL E1 A1 A2 Ad E;refine I ?_
 refine aK (v:=.tuple #[IV f (ak pl) c (ak pl),.int .i64 0]) (cJ (r1:=.cell 6 30) (r2:=.tmp 7) Z ?_ ?_) E Z;refine ah (t:=6) (cs:=[S ((qR f (ak pl)).1),S ((qR f (ak pl)).2),S ((qR c (ak pl)).1),S ((qR c (ak pl)).2)]) (b:=Ar.heap.size) (o:=0) bp Z bc ?_ ?_;exact Z;exact aa0 ML (i:=0) Z;exact aE (t:=7) Ve _
def Dz (e:(l,m)=qR a b)(h:Q9 a b)(ha12:a.natAbs<10^12)(hb12:b<10^12)(e1:(l1,m1)=qR la lb0)(q1:Q9 la lb0)(e2:(l2,m2)=qR ha hb)(q2:Q9 ha hb)(e4:(l4,m4)=qR va vb)(q4:Q9 va vb)(hrt:dK pl a b la lb0 ha hb=true)(hp:pl<=12)(heq:((l,m):R)=(l3,m3))(ht:Tb w):
 CL 44 #[.agg #[S l1,S m1,S l2,S m2,S l3,S m3,S l4,S m4,.func (.func g) #[] lb.toArray],.agg #[S l,S m],.int .i64 pl] w (aH w λv w'=>v=.tuple #[IV (mE va vb (ak pl)) (ak pl) (m7 va vb (ak pl)) (ak pl),.int .i64 0]):=by
 refine aC func44 Z (I ?_);refine bx (λ_ Af E=>?_);have D:=Af.2;refine bx (λA1 Ar G=>?_);have⟨E,D⟩:=bn Ar.2 E D;refine al aL (λ_ Aq H=>?_);have⟨E,G,D⟩:=aP Aq.2 E G D;refine I ?_;refine ab (aX (cs:=[S l1,S m1,S l2,S m2,S l3,S m3,S l4,S m4,.func (.func g) #[] lb.toArray]) (b:=w.heap.size) (o:=0) eG Z fh Z (aa0 E (i:=0) Z) ?_);refine I ?_;refine cl ja (cB (ej e h ha12 hb12 e1 q1 e2 q2 Z (ht.ext D)) hrt) ?_;rintro _ _ W rfl;have⟨E,G,H,D⟩:=br W.2 E G H D;refine I ?_;refine ab (mF (a:=(l,m)) (b:=(l3,m3)) (q:=decide ((l,m)=(l3,m3))) Z Z Z ?_);refine I ?_;refine cl yt (tN e4 q4 (ht.ext D)) ?_;rintro _ _ Ad rfl;have⟨E,G,H,D⟩:=br Ad.2 E G H D;refine I ?_;refine clb q7 (hc:=lV (x:=((l4,m4),(l4,m4))) e4 e4 q4 q4 (Int.le_refl _) U (ht.ext D)) (hk:=?_);rintro _ kd kk rfl;have⟨E,G,H,D⟩:=br kk.2 E G H D;refine I ?_;refine al aL (λ_ Ab Am=>?_);have⟨E,G,H,D⟩:=br Ab.2 E G H D;refine SA Am (λ_ A2 O=>?_);have⟨E,G,H,D,_⟩:=fL A2 E G H D;refine I ?_;refine ab (aX (cs:=[S ((qR (mE va vb (ak pl)) (ak pl)).1),S ((qR (mE va vb (ak pl)) (ak pl)).2),S ((qR (m7 va vb (ak pl)) (ak pl)).1),S ((qR (m7 va vb (ak pl)) (ak pl)).2)]) (b:=kd.heap.size) (o:=0) bp Z bc Z (aa0 O (i:=0) Z) ?_)
 refine SA H (λ_ Ao Ap=>?_);have⟨E,G,O,D,_⟩:=fL Ao E G O D;refine I ?_;refine aK (v:=.tuple #[IV (mE va vb (ak pl)) (ak pl) (m7 va vb (ak pl)) (ak pl),.int .i64 0]) (cJ (r1:=.cell 6 30) (r2:=.tmp 7) Z ?_ ?_) D Z;refine ah (t:=6) (cs:=[S ((qR (mE va vb (ak pl)) (ak pl)).1),S ((qR (mE va vb (ak pl)) (ak pl)).2),S ((qR (m7 va vb (ak pl)) (ak pl)).1),S ((qR (m7 va vb (ak pl)) (ak pl)).2)]) (b:=A1.heap.size) (o:=0) bp Z bc ?_ ?_;exact Z;exact aa0 Ap (i:=0) Z;exact aE (t:=7) Ve _
def JX (S:Nat)(N:Int)(d:Nat):Option N2:=if N.natAbs<10^90/\d<10^90/\0<d then(kV S (aM S N.natAbs d)).bind λe=>if N<0 then(if 0<e.1/\0<e.2 then some (iD S (1*S,1*S) e)else none)else some e else none
def HE {S:Nat}{r:N2}(h:JX S N d=some r):N.natAbs<10^90/\d<10^90/\0<d/\∃e,kV S (aM S N.natAbs d)=some e/\(N<0->0<e.1/\0<e.2/\iD S (1*S,1*S) e=r)/\(¬N<0->e=r):=by
 unfold JX at h
 split at h
 · rename_i h1
   refine⟨h1.1,h1.2.1,h1.2.2,?_⟩
   cases he:kV S (aM S N.natAbs d)with
   |none=>rw[he]at h;cases h
   | some e=>
     rw[he,Option.bind_some]at h
     refine⟨e,rfl,λD=>?_,λD=>?_⟩
     · rw[if_pos D]at h
       split at h
       · rename_i h2;cases h;exact⟨h2.1,h2.2,rfl⟩
       · cases h
     · rw[if_neg D]at h;cases h;rfl
 · cases h
def Kz (S n d:Nat):Option (Int×Int):=if n<10^80/\d<10^80/\0<d/\0<n then(if n<d then(pR S d n).map λr=>((0:Int)-(r.2:Int),(0:Int)-(r.1:Int))else(pR S n d).map zP)else none
def DC {S:Nat}{r:Int×Int}(h:Kz S n d=some r):n<10^80/\d<10^80/\0<d/\0<n/\(n<d->∃u,pR S d n=some u/\((0:Int)-(u.2:Int),(0:Int)-(u.1:Int))=r)/\(¬n<d->∃u,pR S n d=some u/\zP u=r):=by
 unfold Kz at h
 split at h
 · rename_i h1
   refine⟨h1.1,h1.2.1,h1.2.2.1,h1.2.2.2,λD=>?_,λD=>?_⟩
   · rw[if_pos D]at h
     cases hu:pR S d n with
     |none=>rw[hu]at h;cases h
     |some u=>rw[hu]at h;cases h;exact⟨u,rfl,rfl⟩
   · rw[if_neg D]at h
     cases hu:pR S n d with
     |none=>rw[hu]at h;cases h
     |some u=>rw[hu]at h;cases h;exact⟨u,rfl,rfl⟩
 · cases h
def Ff:∀{f n d k:Nat} {p:Nat×Nat},x5 f n d k=some p->p.2<=k+f
 |0,_,_,_,_,h=>by cases h
 | f+1,n,d,k,p,h=>by
   unfold x5 at h
   split at h
   · have:=Ff h;omega
   · cases h;simp
def A7 {S:Nat}{r:N2}(h:pR S n d=some r):Bk 199 r:=by
 obtain⟨_,_,_,_,p,x,a,E,hx,ha,rfl⟩:=wF h
 have h1:=Ff E
 have D:=rU ha
 have G:=pq (n:=p.2) (d:=1) (m:=9) dc (rU hx) U
 obtain⟨_,_⟩:=D
 obtain⟨_,_⟩:=G
 unfold dA
 exact⟨by simp only;omega,by simp only;omega⟩
def DD (h:n<d):aw ((n:Int)*1) (1*(d:Int))<0:=by rw[bZ U];decide
def DF (h:¬n<d):¬aw ((n:Int)*1) (1*(d:Int))<0:=by rw[fC];omega
def JY (hn:0<n)(hd:0<d):((qR (n:Int) (d:Int)).2,(qR (n:Int) (d:Int)).1)=qR (d:Int) (n:Int):=by
 unfold qR
 rw[(kr hd).1,(kr hd).2,(kr hn).1,(kr hn).2,Nat.gcd_comm d n]
def DG {r:N2}(hS:Sc sO)(hr:JX sO N d=some r)(ht:Tb w):
 CL 38 #[.agg #[.int .i64 pl,S (nS sO)],.agg #[S (aa N),S (nS d)]] w (aH w λv w'=>v=.agg #[S (nS r.1),S (nS r.2)]):=by
 obtain⟨A2,hd,Ad,kk,Ab,M3,E1⟩:=HE hr;have As:=rL Ab;have h1S:Bk 95 (1*sO,1*sO):=by rw[Nat.one_mul];exact⟨hS.lt,hS.lt⟩
 by_cases hN:N<0;obtain⟨Kp,Ar,rfl⟩:=M3 hN;refine aC func38 Z (I ?_);refine bx (λ_ Jx G=>?_);have D:=Jx.2;refine bx (λM9 M5 W=>?_);have⟨G,D⟩:=bn M5.2 G D;refine al aI (λ_ L2 kd=>?_);have⟨G,W,D⟩:=aP L2.2 G W D;refine I ?_;refine cl rc (gT (Y:=.tuple #[S (nS N.natAbs),.bool true]) (wB (EV hN)) (qb1 (λl=>Value.tuple #[S l,.bool true]) (AC _))) ?_;rintro _ _ Ap rfl;have⟨G,W,kd,D⟩:=br Ap.2 G W kd D;refine I ?_;refine bB 11 ?_;refine sf ?_;refine ay (V:=.agg #[S (nS ((1*sO,1*sO).1)),S (nS ((1*sO,1*sO).2))]) (λ_ _ B2 _=>?_) ?_;refine clb jG (hc:=eV (n:=1) hS dc Vr (ht.ext (xt D B2))) (hk:=?_);rintro _ _ M2 rfl;have Aq:=M2.2;refine I ?_;exact fs ⟨Aq,rfl⟩;refine sf ?_;refine ay (V:=.agg #[S (nS N.natAbs),S (nS d)]) (λ_ _ _ _=>?_) ?_;refine cl bN aJ ?_;rintro _ _ D2 rfl;have E7:=D2.2;refine I ?_;exact fs ⟨E7,rfl⟩;refine ay (V:=.agg #[S (nS ((aM sO N.natAbs d).1)),S (nS ((aM sO N.natAbs d).2))]) (λ_ _ Af _=>?_) ?_;refine clb gu (hc:=iR (n:=N.natAbs) (d:=d) Z Z hS (bT A2 dc) (bT hd dc) Ad (bC A2 hS.lt dc) (ht.ext (xt D Af))) (hk:=?_);rintro _ _ M8 rfl;have E4:=M8.2;refine I ?_;exact fs ⟨E4,rfl⟩
 refine ay (V:=.agg #[S (nS kk.1),S (nS kk.2)]) (λ_ _ EW _=>?_) ?_;refine cl oz (pu hS Ab (ht.ext (xt D EW))) ?_;rintro _ _ M0 rfl;have E9:=M0.2;refine I ?_;exact fs ⟨E9,rfl⟩;refine sf ?_;intro _ _ M7 _;have⟨G,W,kd,D⟩:=br M7.2 G W kd D;refine clb qZ (hc:=kp hS h1S (As.mono dc) Kp Ar (ht.ext D)) (hk:=?_);rintro _ _ B1 rfl;have⟨G,W,kd,D⟩:=br B1.2 G W kd D;refine SA kd (λ_ M4 Ay=>?_);have⟨G,W,D,_⟩:=fq M4 G W D;refine I ?_;refine aK (v:=.agg #[S (nS ((iD sO (1*sO,1*sO) kk).1)),S (nS ((iD sO (1*sO,1*sO) kk).2))]) (cn  rfl ?_) D Z;refine ah (t:=4) (cs:=[S (nS ((iD sO (1*sO,1*sO) kk).1)),S (nS ((iD sO (1*sO,1*sO) kk).2))]) (b:=M9.heap.size) (o:=0) dw Z cD ?_ ?_;exact Z;exact aa0 Ay (i:=0) Z;obtain rfl:=E1 hN;rw[tC hN];refine aC func38 Z (I ?_);refine bx (λ_ Ao H=>?_);have E:=Ao.2;refine bx (λM1 Am O=>?_);have⟨H,E⟩:=bn Am.2 H E;refine al aI (λ_ Ix A1=>?_);have⟨H,O,E⟩:=aP Ix.2 H O E;refine I ?_;refine cl rc (wC (u5 _)) ?_;rintro _ _ ny rfl;have⟨H,O,A1,E⟩:=br ny.2 H O A1 E;refine I ?_;refine bB 4 ?_;refine sf ?_;refine ay (V:=.agg #[S (nS ((aM sO N.natAbs d).1)),S (nS ((aM sO N.natAbs d).2))]) (λ_ _ od _=>?_) ?_
 refine clb gu (hc:=iR (n:=N.natAbs) (d:=d) Z Z hS (bT A2 dc) (bT hd dc) Ad (bC A2 hS.lt dc) (ht.ext (xt E od))) (hk:=?_);rintro _ _ K2 rfl;have Av:=K2.2;refine I ?_;exact fs ⟨Av,rfl⟩;refine sf ?_;intro _ _ Ax _;have⟨H,O,A1,E⟩:=br Ax.2 H O A1 E;refine cl oz (pu hS Ab (ht.ext E)) ?_;rintro _ _ Aw rfl;have⟨H,O,A1,E⟩:=br Aw.2 H O A1 E;refine SA A1 (λ_ M6 D1=>?_);have⟨H,O,E,_⟩:=fq M6 H O E;refine I ?_;refine aK (v:=.agg #[S (nS kk.1),S (nS kk.2)]) (cn  rfl ?_) E Z;refine ah (t:=4) (cs:=[S (nS kk.1),S (nS kk.2)]) (b:=M1.heap.size) (o:=0) dw Z cD ?_ ?_;exact Z;exact aa0 D1 (i:=0) Z
def DI {fu:Value}{r:Int×Int}(hS:Sc sO)(hr:Kz sO n d=some r)(hb1:ae w b1 42 #[S l1,S m1,S l2,S m2,S [49],S [49],S l4,S m4,fu])(ht:Tb w):
 CL 45 #[.agg #[.int .i64 pl,S (nS sO)],.agg #[S ((qR ((n:Nat):Int) ((d:Nat):Int)).1),S ((qR ((n:Nat):Int) ((d:Nat):Int)).2)],pT b1] w (aH w λv w'=>v=.agg #[S (aa r.1),S (aa r.2)]):=by
 obtain⟨_,_,Ao,E7,M4,Aw⟩:=DC hr;have Am:Q9 (n:Int) (d:Int):=E2 U Ao U;have MB:=bt hb1;by_cases hN:n<d;obtain⟨u,hu,rfl⟩:=M4 hN;have kd:=A7 hu;have A2:=kd.fi dc;refine aC func45 Z (I ?_);refine bx (λ_ Af E=>?_);have hb1:=be Af.2 hb1;have D:=Af.2;refine bx (λAs M0 G=>?_);have⟨hb1,E,D⟩:=aP M0.2 hb1 E D;refine al aI (λ_ D1 O=>?_);have⟨hb1,E,G,D⟩:=br D1.2 hb1 E G D;refine I ?_;refine cl ky (iS Z JJ Am AS (ht.ext D)) ?_;rintro _ L2 Kp rfl;have⟨hb1,E,G,O,D⟩:=dL Kp.2 hb1 E G O D;have MC:=DD hN;refine I ?_;have MD:=bt hb1;refine bB 8 ?_;refine sf ?_;refine ay (V:=.agg #[S ((qR ((n:Nat):Int) ((d:Nat):Int)).2),S ((qR ((n:Nat):Int) ((d:Nat):Int)).1)]) (λ_ _ _ _=>?_) ?_;refine cl bN aJ ?_;rintro _ _ M3 rfl;have E1:=M3.2;refine I ?_;exact fs ⟨E1,rfl⟩;refine ay (V:=.agg #[S (nS u.1),S (nS u.2)]) (λ_ _ M9 _=>?_) ?_;refine clb yA (hc:=by have h:=AT (pl:=pl) hS hu (ht.ext (xt D M9));rw[<-JY E7 Ao]at h;exact h) (hk:=?_);rintro _ _ E4 rfl;have Av:=E4.2;refine I ?_;exact fs ⟨Av,rfl⟩;refine da (λv B1=>∃b:Nat,v=pT b/\L2.heap.size<=b/\ae B1 b 59 #[S [],S []]) (hs:=λ_ _ _ k ⟨b,e,l,h⟩=>⟨b,e,l,h.ext k⟩) (λ_ _ M7 _=>?_) ?_;refine al aI (λ_ ny Ay=>?_);have EW:=ny.2
 refine I ?_;exact fs ⟨EW,⟨_,rfl,(by have:=bz M7;omega),Ay⟩⟩;refine sf ?_;intro _ _ od Aq;have⟨hb1,E,G,O,D⟩:=dL od.2 hb1 E G O D;obtain⟨_,_,_,Ad⟩:=(Aq 7 6 Z Z);have ME:=bt Ad;refine SA Ad (λ_ K2 A1=>?_);have⟨hb1,E,G,O,D,_⟩:=ka K2 hb1 E G O D;refine I ?_;refine bB 5 ?_;refine sf ?_;refine ay (V:=S (aa (0-((u.2:Nat):Int)))) (λ_ _ Ax _=>?_) ?_;refine clb iu (hc:=fZ C2 Z (by unfold Fz;decide) A2.2.z (by have:=kd.1;have:=kd.2;unfold Fz;omega) (ht.ext (xt D Ax))) (hk:=?_);rintro _ _ E9 rfl;have MA:=E9.2;refine I ?_;exact fs ⟨MA,rfl⟩;refine sf ?_;intro _ _ M5 _;have⟨hb1,E,G,O,A1,D⟩:=lk M5.2 hb1 E G O A1 D;refine clb iu (hc:=fZ C2 Z (by unfold Fz;decide) A2.1.z (by have:=kd.1;have:=kd.2;unfold Fz;omega) (ht.ext D)) (hk:=?_);rintro _ _ Ix rfl;have⟨hb1,E,G,O,A1,D⟩:=lk Ix.2 hb1 E G O A1 D;refine I ?_;refine SA O (λ_ Ar M1=>?_);have⟨hb1,E,G,A1,D,_⟩:=ka Ar hb1 E G A1 D;refine I ?_;refine aK (v:=.agg #[S (aa (0-((u.2:Nat):Int))),S (aa (0-((u.1:Nat):Int)))]) (cn  rfl ?_) D Z;refine ah (t:=5) (cs:=[S (aa (0-((u.2:Nat):Int))),S (aa (0-((u.1:Nat):Int)))]) (b:=As.heap.size) (o:=0) dw Z cD ?_ ?_;exact Z;exact aa0 M1 (i:=0) Z;obtain⟨u,hu,rfl⟩:=Aw hN;have kd:=A7 hu;have A2:=kd.fi dc
 refine aC func45 Z (I ?_);refine bx (λ_ Ab kk=>?_);have hb1:=be Ab.2 hb1;have H:=Ab.2;refine bx (λJx M8 W=>?_);have⟨hb1,kk,H⟩:=aP M8.2 hb1 kk H;refine al aI (λ_ M2 wr=>?_);have⟨hb1,kk,W,H⟩:=br M2.2 hb1 kk W H;refine I ?_;refine cl ky (iS Z JJ Am AS (ht.ext H)) ?_;rintro _ _ D2 rfl;have⟨hb1,kk,W,wr,H⟩:=dL D2.2 hb1 kk W wr H;have MF:=DF hN;refine I ?_;refine cl yA (AT hS hu (ht.ext H)) ?_;rintro _ _ B2 rfl;have⟨hb1,kk,W,wr,H⟩:=dL B2.2 hb1 kk W wr H;refine SA wr (λ_ Ap M6=>?_);have⟨hb1,kk,W,H,_⟩:=fL Ap hb1 kk W H;refine I ?_;refine aK (v:=.agg #[S (nS u.1),S (nS u.2)]) (cn  rfl ?_) H Z;refine ah (t:=5) (cs:=[S (nS u.1),S (nS u.2)]) (b:=Jx.heap.size) (o:=0) dw Z cD ?_ ?_;exact Z;exact aa0 M6 (i:=0) Z
def A8 (hc:∀W,a8 w W->CL 44 #[.agg #[S [45,50,48],S [49],S [50,48],S [49],S [48],S [49],S [49],S [49],.func (.func 38) #[] #[]],.agg #[S l,S m],.int .i64 pl] W (aH W λv _=>v=.tuple #[.agg #[S y1,S y2,S y3,S y4],.int .i64 er]))(ht:Tb w):
 CL 10 #[.agg #[S l,S m],.int .i64 pl] w (aH w λv w'=>v=.tuple #[.agg #[S y1,S y2,S y3,S y4],.int .i64 er]):=by
 refine aC func10 Z (I ?_);refine bx (λAv Af E=>?_);have D:=Af.2;refine al aL (λ_ kk G=>?_);have⟨E,D⟩:=bn kk.2 E D;refine I ?_;refine cl bN aJ ?_;rintro _ _ Ab rfl;have⟨E,G,D⟩:=aP Ab.2 E G D;refine cl bN aJ ?_;rintro _ _ As rfl;have⟨E,G,D⟩:=aP As.2 E G D;refine cl bN aJ ?_;rintro _ _ Am rfl;have⟨E,G,D⟩:=aP Am.2 E G D;refine cl bN aJ ?_;rintro _ A2 Aw rfl;have⟨E,G,D⟩:=aP Aw.2 E G D;refine ab (aS (vs:=[(0,.agg #[S [45,50,48],S [49]]),(1,.agg #[S [50,48],S [49]]),(2,.agg #[S [48],S [49]]),(3,.agg #[S [49],S [49]])]) (cells:=#[S [45,50,48],S [49],S [50,48],S [49],S [48],S [49],S [49],S [49],.nilFunc]) (pl:=[(0,2),(2,2),(4,2),(6,2),(8,1)]) eG dp q0 Z q0 ?_);refine al dp (λ_ A1 Ap=>?_);have⟨E,G,D⟩:=aP A1.2 E G D;refine SA Ap (λ_ Aq Ar=>?_);have⟨E,G,D,_⟩:=fq Aq E G D;refine I ?_;refine SO Ar (λ_ kd H=>?_);have⟨E,G,D,_⟩:=fq kd E G D;refine I ?_;refine ab (aX (cs:=[S [45,50,48],S [49],S [50,48],S [49],S [48],S [49],S [49],S [49],.func (.func 38) #[] #[]]) (b:=A2.heap.size) (o:=0) eG Z fh Z (aa0 H (i:=0) Z) ?_);refine I ?_;refine cl q5 (hc _ D) ?_;rintro _ _ Ad rfl;have⟨E,G,H,D⟩:=br Ad.2 E G H D
 refine I ?_;refine SA G (λ_ O Ao=>?_);have⟨E,H,D,_⟩:=fq O E H D;refine I ?_;refine aK (v:=.tuple #[.agg #[S y1,S y2,S y3,S y4],.int .i64 er]) (cJ (r1:=.cell 4 30) (r2:=.tmp 5) Z ?_ ?_) D Z;refine ah (t:=4) (cs:=[S y1,S y2,S y3,S y4]) (b:=Av.heap.size) (o:=0) bp Z bc ?_ ?_;exact Z;exact aa0 Ao (i:=0) Z;exact aE (t:=5) Ve _
def A9 (hc:∀W b1,a8 w W->ae W b1 42 #[S [49],S (nS (10^13)),S (nS (10^13)),S [49],S [49],S [49],S [48],S [49],.func (.func 45) #[] #[pT b1]]->CL 44 #[.agg #[S [49],S (nS (10^13)),S (nS (10^13)),S [49],S [49],S [49],S [48],S [49],.func (.func 45) #[] #[pT b1]],.agg #[S l,S m],.int .i64 pl] W (aH W λv _=>v=.tuple #[.agg #[S y1,S y2,S y3,S y4],.int .i64 er]))(ht:Tb w):
 CL 11 #[.agg #[S l,S m],.int .i64 pl] w (aH w λv w'=>v=.tuple #[.agg #[S y1,S y2,S y3,S y4],.int .i64 er]):=by
 refine aC func11 Z (I ?_);refine bx (λAf Ar E=>?_);have D:=Ar.2;refine al aL (λ_ Ap G=>?_);have⟨E,D⟩:=bn Ap.2 E D;refine I ?_;refine clb eB (hc:=dr (pl:=13) dc (ht.ext D)) (hk:=?_);rintro _ _ Ab rfl;have⟨E,G,D⟩:=aP Ab.2 E G D;refine ab (k9 (cs:=[.int .i64 ((13:Nat):Int),S (nS (10^13))]) (v:=S (nS (10^13))) jD Z Z Z U9 Z Z Z ?_);refine cl bN aJ ?_;rintro _ _ As rfl;have⟨E,G,D⟩:=aP As.2 E G D;refine clb eB (hc:=dr (pl:=13) dc (ht.ext D)) (hk:=?_);rintro _ _ Am rfl;have⟨E,G,D⟩:=aP Am.2 E G D;refine ab (k9 (cs:=[.int .i64 ((13:Nat):Int),S (nS (10^13))]) (v:=S (nS (10^13))) jD Z Z Z U9 Z Z Z ?_);refine cl bN aJ ?_;rintro _ _ Aw rfl;have⟨E,G,D⟩:=aP Aw.2 E G D;refine cl bN aJ ?_;rintro _ _ A2 rfl;have⟨E,G,D⟩:=aP A2.2 E G D;refine cl bN aJ ?_;rintro _ O Av rfl;have⟨E,G,D⟩:=aP Av.2 E G D;refine ab (aS (vs:=[(0,.agg #[S [49],S (nS (10^13))]),(1,.agg #[S (nS (10^13)),S [49]]),(2,.agg #[S [49],S [49]]),(3,.agg #[S [48],S [49]])]) (cells:=#[S [49],S (nS (10^13)),S (nS (10^13)),S [49],S [49],S [49],S [48],S [49],.nilFunc]) (pl:=[(0,2),(2,2),(4,2),(6,2),(8,1)]) eG dp q0 Z q0 ?_);refine al dp (λ_ kd Ao=>?_)
 have⟨E,G,D⟩:=aP kd.2 E G D;refine SA Ao (λ_ Aq ny=>?_);have⟨E,G,D,_⟩:=fq Aq E G D;refine I ?_;refine ab (bE (vf:=[]) (vc:=[pT O.heap.size]) Z Z ?_);refine I ?_;refine SO ny (λ_ A1 H=>?_);have⟨E,G,D,_⟩:=fq A1 E G D;refine I ?_;refine ab (aX (cs:=[S [49],S (nS (10^13)),S (nS (10^13)),S [49],S [49],S [49],S [48],S [49],.func (.func 45) #[] #[pT O.heap.size]]) (b:=O.heap.size) (o:=0) eG Z fh Z (aa0 H (i:=0) Z) ?_);refine I ?_;refine cl q5 (hc _ _ D H) ?_;rintro _ _ Ad rfl;have⟨E,G,H,D⟩:=br Ad.2 E G H D;refine I ?_;refine SA G (λ_ kk od=>?_);have⟨E,H,D,_⟩:=fq kk E H D;refine I ?_;refine aK (v:=.tuple #[.agg #[S y1,S y2,S y3,S y4],.int .i64 er]) (cJ (r1:=.cell 4 30) (r2:=.tmp 5) Z ?_ ?_) D Z;refine ah (t:=4) (cs:=[S y1,S y2,S y3,S y4]) (b:=Af.heap.size) (o:=0) bp Z bc ?_ ?_;exact Z;exact aa0 od (i:=0) Z;exact aE (t:=5) Ve _
def HF:(([45]++nS (10^13),[49]):R)=qR (-10000000000000) 1:=by decide +kernel
def Ba:((nS (10^13),[49]):R)=qR 10000000000000 1:=by decide +kernel
def Mo:(([45,56],[49]):R)=qR (-8) 1:=by decide +kernel
def Mp:(([56],[49]):R)=qR 8 1:=by decide +kernel
def Bb:Q9 (-10000000000000) 1:=⟨by decide,by decide,by decide⟩
def tP:Q9 10000000000000 1:=⟨by decide,by decide,by decide⟩
def LA:Q9 (-8) 1:=⟨by decide,by decide,by decide⟩
def LB:Q9 8 1:=⟨by decide,by decide,by decide⟩
def qJ (e:(l,m)=qR a b)(h:Q9 a b)(ha12:a.natAbs<10^12)(hb12:b<10^12)(hrt:dK pl a b (-10000000000000) 1 10000000000000 1=true)(h8:0<aw (a*1) (-8*b))(h9:aw (a*1) (8*b)<0)(hc:∀W,a8 w W->CL 44 #[.agg #[S ([45]++nS (10^13)),S [49],S (nS (10^13)),S [49],S [48],S [49],S [49],S [50],.func (.func 48) #[] #[]],.agg #[S l,S m],.int .i64 pl] W (aH W λv _=>v=.tuple #[.agg #[S y1,S y2,S y3,S y4],.int .i64 er]))(ht:Tb w):
 CL 12 #[.agg #[S l,S m],.int .i64 pl] w (aH w λv w'=>v=.tuple #[.agg #[S y1,S y2,S y3,S y4],.int .i64 er]):=by
 refine aC func12 Z (I ?_);refine bx (λE9 Ar E=>?_);have D:=Ar.2;refine al aL (λ_ Aq G=>?_);have E:=be Aq.2 E;have D:=xt D Aq.2;refine I ?_;refine clb eB (hc:=dr (pl:=13) dc (ht.ext D)) (hk:=?_);rintro _ _ Ab rfl;have E:=be Ab.2 E;have G:=be Ab.2 G;have D:=xt D Ab.2;refine ab (k9 (cs:=[.int .i64 ((13:Nat):Int),S (nS (10^13))]) (v:=S (nS (10^13))) jD Z Z Z U9 Z Z Z ?_);refine ab (me (a:=[45]) (b:=nS (10^13)) Z Z VW ?_);refine cl bN aJ ?_;rintro _ _ Af rfl;have E:=be Af.2 E;have G:=be Af.2 G;have D:=xt D Af.2;refine clb eB (hc:=dr (pl:=13) dc (ht.ext D)) (hk:=?_);rintro _ _ Ao rfl;have E:=be Ao.2 E;have G:=be Ao.2 G;have D:=xt D Ao.2;refine ab (k9 (cs:=[.int .i64 ((13:Nat):Int),S (nS (10^13))]) (v:=S (nS (10^13))) jD Z Z Z U9 Z Z Z ?_);refine cl bN aJ ?_;rintro _ _ Ap rfl;have E:=be Ap.2 E;have G:=be Ap.2 G;have D:=xt D Ap.2;refine cl bN aJ ?_;rintro _ _ Am rfl;have E:=be Am.2 E;have G:=be Am.2 G;have D:=xt D Am.2;refine cl bN aJ ?_;rintro _ ny od rfl;have E:=be od.2 E;have G:=be od.2 G
 have D:=xt D od.2;refine ab (aS (vs:=[(0,.agg #[S (([45])++(nS (10^13))),S [49]]),(1,.agg #[S (nS (10^13)),S [49]]),(2,.agg #[S [48],S [49]]),(3,.agg #[S [49],S [50]]),(4,.func (.func 48) #[] #[])]) (cells:=#[S (([45])++(nS (10^13))),S [49],S (nS (10^13)),S [49],S [48],S [49],S [49],S [50],.func (.func 48) #[] #[]]) (pl:=[(0,2),(2,2),(4,2),(6,2),(8,1)]) eG dp q0 Z q0 ?_);refine al dp (λ_ Ad Aw=>?_);have E:=be Ad.2 E;have G:=be Ad.2 G;have D:=xt D Ad.2;refine SA Aw (λ_ kk H=>?_);have E:=pb kk E;have G:=pb kk G;have D:=eK kk D;have Ix:=dX kk;refine I ?_;refine bB 13 ?_;refine bj (λ_ _ D2 _=>by have H:=be D2 H;refine ab (aX (cs:=[S (([45])++(nS (10^13))),S [49],S (nS (10^13)),S [49],S [48],S [49],S [49],S [50],.func (.func 48) #[] #[]]) (b:=ny.heap.size) (o:=0) eG Z fh Z (aa0 H (i:=0) Z) ?_);refine I ?_;exact bY) ?_
 refine sf ?_;refine ay (V:=.bool true) (λ_ _ E1 _=>?_) ?_;refine cl ja (cB (ej e h ha12 hb12 HF Bb Ba tP Z (ht.ext (xt D E1))) hrt) ?_;rintro _ _ Av rfl;have E4:=Av.2;refine I ?_;exact fs ⟨E4,rfl⟩;refine sf ?_;refine ay (V:=.agg #[S [45,56],S [49]]) (λ_ _ _ _=>?_) ?_;refine I ?_;refine cl bN aJ ?_;rintro _ _ B2 rfl;have B1:=B2.2;refine I ?_;exact fs ⟨B1,rfl⟩;refine ay (V:=.int .i64 (aw (a*1) (-8*b))) (λ_ _ Ax _=>?_) ?_;refine I ?_;refine cl ky (iS e Mo h LA (ht.ext (xt D Ax))) ?_;rintro _ _ Ay rfl;have As:=Ay.2;refine I ?_;exact fs ⟨As,rfl⟩;refine sf ?_;refine ay (V:=.agg #[S [56],S [49]]) (λ_ _ _ _=>?_) ?_;refine I ?_;refine cl bN aJ ?_;rintro _ _ E7 rfl;have EW:=E7.2;refine I ?_;exact fs ⟨EW,rfl⟩;refine sf ?_;intro _ _ kd _;have E:=be kd.2 E;have G:=be kd.2 G;have H:=be kd.2 H;have D:=xt D kd.2;with_reducible refine ml Z ?_
 refine I ?_;refine cl ky (iS e Mp h LB (ht.ext D)) ?_;rintro _ _ A1 rfl;have E:=be A1.2 E;have G:=be A1.2 G;have H:=be A1.2 H;have D:=xt D A1.2;refine I ?_;refine ab (aX (cs:=[S (([45])++(nS (10^13))),S [49],S (nS (10^13)),S [49],S [48],S [49],S [49],S [50],.func (.func 48) #[] #[]]) (b:=ny.heap.size) (o:=0) eG Z fh Z (aa0 H (i:=0) Z) ?_);refine I ?_;refine cl q5 (hc _ D) ?_;rintro _ _ O rfl;have E:=be O.2 E;have G:=be O.2 G;have H:=be O.2 H;have D:=xt D O.2;refine I ?_;refine SA G (λ_ A2 D1=>?_);have E:=pb A2 E;have H:=pb A2 H;have D:=eK A2 D;have Jx:=dX A2;refine I ?_;refine aK (v:=.tuple #[.agg #[S y1,S y2,S y3,S y4],.int .i64 er]) (cJ (r1:=.cell 4 30) (r2:=.tmp 5) Z ?_ ?_) D Z;refine ah (t:=4) (cs:=[S y1,S y2,S y3,S y4]) (b:=E9.heap.size) (o:=0) bp Z bc ?_ ?_;exact Z;exact aa0 D1 (i:=0) Z;exact aE (t:=5) Ve _
def HG {fr:Nat}(h1:1<=fr)(h20:fr<=20)(hc:∀W b1,a8 w W->ae W b1 3 #[.int .i64 fr]->CL 44 #[.agg #[S [48],S [49],S [49,48,48],S [49],S [48],S [49],S [49],S [49],.func (.func 51) #[] #[pT b1]],.agg #[S l,S m],.int .i64 pl] W (aH W λv _=>v=.tuple #[.agg #[S y1,S y2,S y3,S y4],.int .i64 er]))(ht:Tb w):
 CL 13 #[.agg #[S l,S m],.int .i64 fr,.int .i64 pl] w (aH w λv w'=>v=.tuple #[.agg #[S y1,S y2,S y3,S y4],.int .i64 er]):=by
 refine aC func13 Z (I ?_);refine bx (λAq Aw E=>?_);have D:=Aw.2;refine bx (λAx Ar G=>?_);have E:=be Ar.2 E;have D:=xt D Ar.2;refine al aL (λ_ Ap H=>?_);have E:=be Ap.2 E;have G:=be Ap.2 G;have D:=xt D Ap.2;refine I ?_;refine cl bN aJ ?_;rintro _ _ Af rfl;have E:=be Af.2 E;have G:=be Af.2 G;have H:=be Af.2 H;have D:=xt D Af.2;refine cl bN aJ ?_;rintro _ _ Ad rfl;have E:=be Ad.2 E;have G:=be Ad.2 G;have H:=be Ad.2 H;have D:=xt D Ad.2;refine cl bN aJ ?_;rintro _ _ Ao rfl;have E:=be Ao.2 E;have G:=be Ao.2 G;have H:=be Ao.2 H;have D:=xt D Ao.2;refine cl bN aJ ?_;rintro _ As Am rfl;have E:=be Am.2 E;have G:=be Am.2 G;have H:=be Am.2 H;have D:=xt D Am.2;refine ab (aS (vs:=[(0,.agg #[S [48],S [49]]),(1,.agg #[S [49,48,48],S [49]]),(2,.agg #[S [48],S [49]]),(3,.agg #[S [49],S [49]])]) (cells:=#[S [48],S [49],S [49,48,48],S [49],S [48],S [49],S [49],S [49],.nilFunc]) (pl:=[(0,2),(2,2),(4,2),(6,2),(8,1)]) eG dp q0 Z q0 ?_);refine al dp (λ_ Ab ny=>?_);have E:=be Ab.2 E;have G:=be Ab.2 G;have H:=be Ab.2 H;have D:=xt D Ab.2
 refine SA ny (λ_ A2 od=>?_);have E:=pb A2 E;have G:=pb A2 G;have H:=pb A2 H;have D:=eK A2 D;have B1:=dX A2;refine I ?_;refine ab (bE (vf:=[]) (vc:=[pT Aq.heap.size]) Z Z ?_);refine I ?_;refine SO od (λ_ kk A1=>?_);have E:=pb kk E;have G:=pb kk G;have H:=pb kk H;have D:=eK kk D;have B2:=dX kk;refine I ?_;refine ab (aX (cs:=[S [48],S [49],S [49,48,48],S [49],S [48],S [49],S [49],S [49],.func (.func 51) #[] #[pT Aq.heap.size]]) (b:=As.heap.size) (o:=0) eG Z fh Z (aa0 A1 (i:=0) Z) ?_);refine I ?_;refine cl q5 (hc _ _ D G) ?_;rintro _ _ O rfl;have E:=be O.2 E;have G:=be O.2 G;have H:=be O.2 H;have A1:=be O.2 A1;have D:=xt D O.2;refine I ?_;refine SA H (λ_ kd Av=>?_);have E:=pb kd E;have G:=pb kd G;have A1:=pb kd A1;have D:=eK kd D;have Ay:=dX kd;refine I ?_;refine aK (v:=.tuple #[.agg #[S y1,S y2,S y3,S y4],.int .i64 er]) (cJ (r1:=.cell 6 30) (r2:=.tmp 7) Z ?_ ?_) D Z;refine ah (t:=6) (cs:=[S y1,S y2,S y3,S y4]) (b:=Ax.heap.size) (o:=0) bp Z bc ?_ ?_
 exact Z;exact aa0 Av (i:=0) Z;exact aE (t:=7) Ve _
def DJ {fr:Nat}{r:Int×Int}(hS:Sc sO)(hp:pl<81)(h1:0<fr)(h20:fr<=20)(hh:JW sO pl n d fr=some r)(hb1:ae w b1 3 #[.int .i64 fr])(ht:Tb w):
 CL 51 #[.agg #[.int .i64 pl,S (nS sO)],QV ((n:Nat):Int) ((d:Nat):Int),pT b1] w (aH w λv w'=>v=.agg #[S (aa r.1),S (aa r.2)]):=by
 have Ad:=bt hb1;refine aC func51 Z (I ?_);refine bx (λ_ A1 E=>?_);have hb1:=be A1.2 hb1;have D:=A1.2;refine bx (λA2 W G=>?_);have hb1:=be W.2 hb1;have E:=be W.2 E;have D:=xt D W.2;refine al aI (λ_ kk kd=>?_);have hb1:=be kk.2 hb1;have E:=be kk.2 E;have G:=be kk.2 G;have D:=xt D kk.2;refine I ?_;refine cl F5 (Dv hS hp h1 h20 hh (ht.ext D)) ?_;rintro _ _ O rfl;have hb1:=be O.2 hb1;have E:=be O.2 E;have G:=be O.2 G;have kd:=be O.2 kd;have D:=xt D O.2;refine SA kd (λ_ H Ab=>?_);have hb1:=pb H hb1;have E:=pb H E;have G:=pb H G;have D:=eK H D;have Af:=dX H;refine I ?_;refine aK (v:=.agg #[S (aa r.1),S (aa r.2)]) (cn  rfl ?_) D Z;refine ah (t:=5) (cs:=[S (aa r.1),S (aa r.2)]) (b:=A2.heap.size) (o:=0) dw Z cD ?_ ?_;exact Z;exact aa0 Ab (i:=0) Z
end
end Go.Proofs.YtgcfffdpcefifaaGreatDoor
