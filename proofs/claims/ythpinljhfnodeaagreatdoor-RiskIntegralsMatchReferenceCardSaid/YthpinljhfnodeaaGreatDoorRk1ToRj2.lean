/- Part of the proof of a statement about risks. -/
import Derived.Test.YthpinljhfnodeaaGreatDoorRf0ToRf9
import Derived.DeepKeys
set_option linter.all false
namespace Go.Proofs.YthpinljhfnodeaaGreatDoor
variable {a T N D c c1 c2 c8 c9 n d f t:Int}{x1 x2 y1 y2 d1 d2 u1 u2 x y s1 s2 p1 p2 q1 q2:List UInt8}{m pl size bytes u bm bp bn bf k cp lo:Nat}{C:Nat->Bool}{A:Option Addr}{v0 v:Value}{w:World}
section
set_option maxRecDepth 100000
open Go Go.Eng Go.RowKit Proofs.Tryz
attribute [local irreducible] wpListIn Code.wpIn Oper.wpIn Exit.then Exit.inBlock Exit.noGoto
set_option maxHeartbeats 40000000
abbrev CR (f:Nat)(a:Array Value)(v:Value):Prop:=∀W,CL f a W (aC W λu _=>u=v)
def vL (a b:Int):Int:=if a%b=0 then a/b else a/b+1
def X0 {b:Int}(h:ae (a%b)=[48]):S (ae (a/b))=S (ae (vL a b)):=by unfold vL;rw[if_pos (cJ.1 h)]
def X1 {b:Int}(h:¬ae (a%b)=[48]):S (ae (a/b+1))=S (ae (vL a b)):=by unfold vL;rw[if_neg (λe=>h (cJ.2 e))]
def Wh {b:Int}(h:ae (a%b)=[48]):Value.tuple #[QV (a/b) T,.int .i64 0]=.tuple #[QV (vL a b) T,.int .i64 0]:=by unfold vL;rw[if_pos (cJ.1 h)]
def Wi {b:Int}(h:¬ae (a%b)=[48]):Value.tuple #[QV (a/b+1) T,.int .i64 0]=.tuple #[QV (vL a b) T,.int .i64 0]:=by unfold vL;rw[if_neg (λe=>h (cJ.2 e))]
def KG {l m:List UInt8}{b:Int}(hl:l=ae a)(hm:m=ae b)(ha:Fz a)(hb:Fz b)(hp:0<b)(hq:Fz (a/b+1)):
 CL 187 #[S l,S m,.bool true] w (aC w λv w'=>v=S (ae (vL a b))):=by
 subst hl hm;have qn:b≠0:=U;refine aE func187 Z (I ?_);refine clb vM (hc:=fM (Y:=.tuple #[S (ae (a/b)),S (ae (a%b)),.int .i64 0]) (gN _ _ _ (cX ha) (cX hb)) (qb1 nJ (kv ha hb qn (eD ha U)))) (hk:=?_);rintro _ _ W rfl;have O:=W.2;refine I ?_;refine Um (b:=[48]) (I ?_);by_cases cm:(ae (a%b))=([48]);refine I ?_;exact ax (t:=6) (v:=S (ae (a/b))) Z O (X0 cm) Z;refine I ?_;refine clb lE (hc:=AV Z loneD (eD ha U) A6 hq) (hk:=?_);rintro _ _ qr rfl;have O:=xt O qr.2;refine I ?_;exact ax (t:=6) (v:=S (ae (a/b+1))) Z O (X1 cm) Z
def KH (hp:pl<200):
 CL 185 #[.int .i64 pl] w (aC w λv w'=>v=S (nS (10^pl))):=by
 refine aE func185 Z (I ?_);have qn:=aa2 w;refine JT [(3,11)] (λqr e W=>∃i:Nat,(pl-i=qr)/\(e 3=S (mW i))/\(e 4=.int .i64 i)/\(i<=pl)/\(bF w W)) (pl-0) ⟨0,rfl,rfl,rfl,(qa7 _),qn⟩ ?_;rintro _ _ _ ⟨i,rfl,A2,A1,hi,O⟩;by_cases hl:i<pl;refine I ?_;refine ac (km (a:=mW i) (b:=[48]) Z Z (by rw[wS];simp;omega) ?_);refine I ?_;refine ac (bb (a:=(i:Int)) (b:=1) (c:=((i+1:Nat):Int)) Z Z L7 U ?_);refine I ?_;exact c6 ⟨i+1,rfl,rfl,rfl,U,O⟩;refine I ?_;exact ax (t:=2) (v:=S (mW i)) Z O (by rw[show i=pl by omega,wT hp]) Z
def wX (o1:cc (ae N,ae D)=true)(fN:Fz N)(fD:Fz D)(p:0<D)(hp:pl<=30)(fm:Fz (N*((10^pl:Nat):Int))):
 CL 150 #[.agg #[S (ae N),S (ae D)],.int .i64 pl] w (aC w λv w'=>v=.tuple #[S (ae (N*((10^pl:Nat):Int)/D)),S (ae (N*((10^pl:Nat):Int)%D)),S (nS (10^pl)),.bool true]):=by
 have W:Fz ((10^pl:Nat):Int):=(y8 (n:=pl) U).fi.z;refine aE func150 Z (I ?_);refine bx (λ_ Ab qr=>?_);have O:=Ab.2;refine I ?_;refine cl ss (cB (ef _ _ _ (cX fN) (cX fD)) o1) ?_;rintro _ _ qn rfl;have⟨qr,O⟩:=bD qn.2 qr O;refine I ?_;refine clb QZ (hc:=KH U) (hk:=?_);rintro _ _ A2 rfl;have⟨qr,O⟩:=bD A2.2 qr O;refine I ?_;refine cl xo (fM (Y:=.tuple #[S (ae (N*((10^pl:Nat):Int))),.int .i64 0]) (it _ _ _ (cX fN) (cX W)) (qb1 gj (yf fN W fm))) ?_;rintro _ _ Ad rfl;have⟨qr,O⟩:=bD Ad.2 qr O;refine I ?_;refine clb vM (hc:=fM (Y:=.tuple #[S (ae (N*((10^pl:Nat):Int)/D)),S (ae (N*((10^pl:Nat):Int)%D)),.int .i64 0]) (gN _ _ _ (cX fm) (cX fD)) (qb1 nJ (kv fm fD U (eD fm p)))) (hk:=?_);rintro _ _ A1 rfl;have O:=xt O A1.2;refine I ?_;exact qN (t:=4) (u:=5) (s:=6) (q:=7) (v1:=S (ae (N*((10^pl:Nat):Int)/D))) (v2:=S (ae (N*((10^pl:Nat):Int)%D))) (v3:=S (nS (10^pl))) (v4:=.bool (decide (0=0))) Z O Z Z Z Z Z
def Gq (o1:cc (ae N,ae D)=true)(fN:Fz N)(fD:Fz D)(p:0<D)(hp:pl<=30)(fm:Fz (N*((10^pl:Nat):Int))):
 CL 107 #[.agg #[S (ae N),S (ae D)],.int .i64 pl] w (aC w λv w'=>v=.tuple #[QV (N*((10^pl:Nat):Int)/D) ((10^pl:Nat):Int),.int .i64 0]):=by
 have Am:Fz ((10^pl:Nat):Int):=(y8 (n:=pl) U).fi.z;have Ap:0<((10^pl:Nat):Int):=by have:=Nat.pow_pos (n:=pl) (show 0<10 by decide);omega
 refine aE func107 Z (I ?_);refine bx (λAf Ab qr=>?_);have O:=Ab.2;refine al aQ (λ_ Ao W=>?_);have⟨qr,O⟩:=bD Ao.2 qr O;refine I ?_;refine cl HS (wX o1 fN fD p hp fm) ?_;rintro _ _ Ad rfl;have⟨qr,W,O⟩:=bC Ad.2 qr W O;refine I ?_;refine clb qE (hc:=Wg Z (show nS (10^pl)=ae ((10^pl:Nat):Int)from rfl) (eD fm p) Am U) (hk:=?_);rintro _ _ A2 rfl;have⟨qr,W,O⟩:=bC A2.2 qr W O;refine I ?_;refine SA W (λ_ qn A1=>?_);have qr:=pb qn qr;have O:=bB qn O;refine I ?_;refine aI (v:=.tuple #[QV (N*((10^pl:Nat):Int)/D) ((10^pl:Nat):Int),.int .i64 0]) (cn (r1:=.cell 4 25) (r2:=.tmp 5) Z ?_ ?_) O Z;refine ag (t:=4) (cs:=[S ((qR (N*((10^pl:Nat):Int)/D) ((10^pl:Nat):Int)).1),S ((qR (N*((10^pl:Nat):Int)/D) ((10^pl:Nat):Int)).2)]) (b:=Af.heap.size) (o:=0) eB Z aM ?_ ?_;exact Z;exact aa1 A1 (i:=0) Z;exact aD (t:=5) Rd _
def N8 (o1:cc (ae N,ae D)=true)(fN:Fz N)(fD:Fz D)(p:0<D)(hp:pl<=30)(fm:Fz (N*((10^pl:Nat):Int)))(hq:Fz (N*((10^pl:Nat):Int)/D+1)):
 CL 108 #[.agg #[S (ae N),S (ae D)],.int .i64 pl] w (aC w λv w'=>v=.tuple #[.agg #[S ((qR (vL (N*((10^pl:Nat):Int)) D) ((10^pl:Nat):Int)).1),S ((qR (vL (N*((10^pl:Nat):Int)) D) ((10^pl:Nat):Int)).2)],.int .i64 0]):=by
 have Ab:Fz ((10^pl:Nat):Int):=(y8 (n:=pl) U).fi.z;have Av:0<((10^pl:Nat):Int):=by have:=Nat.pow_pos (n:=pl) (show 0<10 by decide);omega
 refine aE func108 Z (I ?_);refine bx (λA2 Am qr=>?_);have O:=Am.2;refine al aQ (λ_ Ao W=>?_);have⟨qr,O⟩:=bD Ao.2 qr O;refine I ?_;refine cl HS (wX o1 fN fD p hp fm) ?_;rintro _ _ Af rfl;have⟨qr,W,O⟩:=bC Af.2 qr W O;refine I ?_;refine Um (b:=[48]) (I ?_);by_cases cw:(ae (N*((10^pl:Nat):Int)%D))=([48]);refine I ?_;refine clb qE (hc:=Wg Z (show nS (10^pl)=ae ((10^pl:Nat):Int)from rfl) (eD fm p) Ab U) (hk:=?_);rintro _ _ Ap rfl;have⟨qr,W,O⟩:=bC Ap.2 qr W O;refine I ?_;refine SA W (λ_ A1 Aq=>?_);have qr:=pb A1 qr;have O:=bB A1 O;refine I ?_;refine aI (v:=.tuple #[QV (N*((10^pl:Nat):Int)/D) ((10^pl:Nat):Int),.int .i64 0]) (cn (r1:=.cell 4 25) (r2:=.tmp 5) Z ?_ ?_) O (Wh cw);refine ag (t:=4) (cs:=[S ((qR (N*((10^pl:Nat):Int)/D) ((10^pl:Nat):Int)).1),S ((qR (N*((10^pl:Nat):Int)/D) ((10^pl:Nat):Int)).2)]) (b:=A2.heap.size) (o:=0) eB Z aM ?_ ?_;exact Z;exact aa1 Aq (i:=0) Z;exact aD (t:=5) Rd _;refine I ?_;refine clb P7 (hc:=fM (Y:=.tuple #[S (ae (N*((10^pl:Nat):Int)/D+1)),.int .i64 0]) (vj _ _ _ (cX (eD fm p)) dc) (qb1 gj ((qb1 (ku (ae (N*((10^pl:Nat):Int)/D))) loneD).trans (ye (eD fm p) A6 hq)))) (hk:=?_);rintro _ _ Ad rfl
 have⟨qr,W,O⟩:=bC Ad.2 qr W O;refine I ?_;refine clb qE (hc:=Wg Z (show nS (10^pl)=ae ((10^pl:Nat):Int)from rfl) hq Ab U) (hk:=?_);rintro _ _ As rfl;have⟨qr,W,O⟩:=bC As.2 qr W O;refine I ?_;refine SA W (λ_ qn Ar=>?_);have qr:=pb qn qr;have O:=bB qn O;refine I ?_;refine aI (v:=.tuple #[QV (N*((10^pl:Nat):Int)/D+1) ((10^pl:Nat):Int),.int .i64 0]) (cn (r1:=.cell 4 25) (r2:=.tmp 5) Z ?_ ?_) O (Wi cw);refine ag (t:=4) (cs:=[S ((qR (N*((10^pl:Nat):Int)/D+1) ((10^pl:Nat):Int)).1),S ((qR (N*((10^pl:Nat):Int)/D+1) ((10^pl:Nat):Int)).2)]) (b:=A2.heap.size) (o:=0) eB Z aM ?_ ?_;exact Z;exact aa1 Ar (i:=0) Z;exact aD (t:=5) Rd _
def CZ (hV1:CR 92 #[.agg #[S x1,S x2]] (.bool true))(hV2:CR 92 #[.agg #[S y1,S y2]] (.bool true))(hC:CR 47 #[.agg #[S x1,S x2],.agg #[S y1,S y2]] (.int .i64 c))(hc:c<=0):
 CL 113 #[.agg #[S x1,S x2,S y1,S y2]] w (aC w λv w'=>v=.bool true):=by
 refine aE func113 Z (I ?_);refine bx (λ_ A1 qr=>?_);have O:=A1.2;refine I ?_;refine cl ss (hV1 _) ?_;rintro _ _ A2 rfl;have⟨qr,O⟩:=bD A2.2 qr O;refine I ?_;refine cl ss (hV2 _) ?_;rintro _ _ W rfl;have⟨qr,O⟩:=bD W.2 qr O;refine I ?_;refine cl BH (hC _) ?_;rintro _ _ qn rfl;have O:=xt O qn.2;refine I ?_;exact ax (t:=2) (v:=.bool (decide (c<=0))) Z O (by rw[decide_eq_true hc]) Z
def KI :
 CL 114 #[.agg #[S x1,S x2],.int .i64 0,.agg #[S y1,S y2],.int .i64 0] w (aC w λv w'=>v=.tuple #[.agg #[S x1,S x2,S y1,S y2],.int .i64 0]):=by
 refine aE func114 Z (I ?_);refine bx (λ_ A1 qr=>?_);have O:=A1.2;refine bx (λAb Ad W=>?_);have⟨qr,O⟩:=bD Ad.2 qr O;refine al ap (λ_ Af Am=>?_);have⟨qr,W,O⟩:=bC Af.2 qr W O;refine I ?_;refine ac (aV (vs:=[(0,.agg #[S x1,S x2]),(1,.agg #[S y1,S y2])]) (cells:=#[S x1,S x2,S y1,S y2]) (pl:=[(0,2),(2,2)]) aJ ap GS Z GS ?_);refine SA Am (λ_ qn A2=>?_);have⟨qr,W⟩:=eR qn qr W;have O:=bB qn O;refine I ?_;refine aI (v:=.tuple #[.agg #[S x1,S x2,S y1,S y2],.int .i64 0]) (cn (r1:=.cell 8 33) (r2:=.tmp 9) Z ?_ ?_) O Z;refine ag (t:=8) (cs:=[S x1,S x2,S y1,S y2]) (b:=Ab.heap.size) (o:=0) aJ Z ay ?_ ?_;exact Z;exact aa1 A2 (i:=0) Z;exact aD (t:=9) Rd _
def C0 (hV:CR 113 #[.agg #[S x1,S x2,S y1,S y2]] (.bool true))(hD:CR 107 #[.agg #[S x1,S x2],.int .i64 pl] (.tuple #[.agg #[S d1,S d2],.int .i64 0]))(hU:CR 108 #[.agg #[S y1,S y2],.int .i64 pl] (.tuple #[.agg #[S u1,S u2],.int .i64 0])):
 CL 65 #[.agg #[S x1,S x2,S y1,S y2],.int .i64 pl] w (aC w λv w'=>v=.tuple #[.agg #[S d1,S d2,S u1,S u2],.int .i64 0]):=by
 refine aE func65 Z (I ?_);refine bx (λAw Av O=>?_);have qr:=Av.2;refine al ap (λ_ As W=>?_);have⟨O,qr⟩:=bD As.2 O qr;refine I ?_;(try refine ac (ar (cs:=[S x1,S x2,S y1,S y2]) (b:=w.heap.size) (o:=0) aJ Z ay Z (aa1 O (i:=0) Z) ?_));refine cl QW (hV _) ?_;rintro _ _ Am rfl;have⟨O,W,qr⟩:=bC Am.2 O W qr;refine I ?_;refine cl HP (hD _) ?_;rintro _ _ Ao rfl;have⟨O,W,qr⟩:=bC Ao.2 O W qr;refine I ?_;refine al aQ (λ_ Ax Ab=>?_);have⟨O,W,qr⟩:=bC Ax.2 O W qr;refine SA Ab (λ_ Ad qn=>?_);have⟨O,W,qr,_⟩:=mD Ad O W qr;refine I ?_;refine cl HQ (hU _) ?_;rintro _ _ Ap rfl;have⟨O,W,qn,qr⟩:=bW Ap.2 O W qn qr;refine I ?_;refine al aQ (λ_ Ar ny=>?_);have⟨O,W,qn,qr⟩:=bW Ar.2 O W qn qr;refine SA ny (λ_ Aq A1=>?_);have⟨O,W,qn,qr,_⟩:=l7 Aq O W qn qr;refine I ?_;refine cl QX KI ?_;rintro _ _ Af rfl;have⟨O,W,qn,A1,qr⟩:=eE Af.2 O W qn A1 qr;refine I ?_;refine SA W (λ_ A2 od=>?_);have⟨O,qn,A1⟩:=kt A2 O qn A1;have qr:=bB A2 qr;refine I ?_;refine aI (v:=.tuple #[.agg #[S d1,S d2,S u1,S u2],.int .i64 0]) (cn (r1:=.cell 4 33) (r2:=.tmp 5) Z ?_ ?_) qr Z;refine ag (t:=4) (cs:=[S d1,S d2,S u1,S u2]) (b:=Aw.heap.size) (o:=0) aJ Z ay ?_ ?_;exact Z;exact aa1 od (i:=0) Z;exact aD (t:=5) Rd _
def fw :
 CL 152 #[S x] w (aC w λv w'=>v=.agg #[S x,S [49]]):=by
 refine aE func152 Z (I ?_);refine al aQ (λ_ qn qr=>?_);have O:=qn.2;refine I ?_;refine SA qr (λ_ A1 W=>?_);have O:=bB A1 O;refine I ?_;refine aI (v:=.agg #[S x,S [49]]) (cF  rfl ?_) O Z;refine ag (t:=2) (cs:=[S x,S [49]]) (b:=w.heap.size) (o:=0) eB Z aM ?_ ?_;exact Z;exact aa1 W (i:=0) Z
def C3 :
 CL 154 #[.agg #[S x,S y]] w (aC w λv w'=>v=.tuple #[.agg #[S x,S y,S x,S y],.int .i64 0]):=by
 refine aE func154 Z (I ?_);refine bx (λA1 A2 qr=>?_);have O:=A2.2;refine al ap (λ_ Ab qn=>?_);have⟨qr,O⟩:=bD Ab.2 qr O;refine I ?_;refine ac (aV (vs:=[(0,.agg #[S x,S y]),(1,.agg #[S x,S y])]) (cells:=#[S x,S y,S x,S y]) (pl:=[(0,2),(2,2)]) aJ ap GS Z GS ?_);refine SA qn (λ_ W Ad=>?_);have qr:=pb W qr;have O:=bB W O;refine I ?_;refine aI (v:=.tuple #[.agg #[S x,S y,S x,S y],.int .i64 0]) (cn (r1:=.cell 2 33) (r2:=.tmp 3) Z ?_ ?_) O Z;refine ag (t:=2) (cs:=[S x,S y,S x,S y]) (b:=A1.heap.size) (o:=0) aJ Z ay ?_ ?_;exact Z;exact aa1 Ad (i:=0) Z;exact aD (t:=3) Rd _
end
section
open Go Go.Eng Go.RowKit Proofs.Tryz
section
variable {P:Program}{r:Option Nat}{n:Nat}{Q:Exit->Act->World->Prop}{a:Act}{c:Code}
def Gr (m:Nat)(h:c.wpIn (Fw r) n P (Exit.then (Code.roundsIn (Fw r) n P c Q m) Q) a w):(Code.loop c).wpIn (Fw r) n P Q a w:=wpIn_loop_rounds (m+1) h
def l6 (h:c.wpIn (Fw r) n P (Exit.then (Code.roundsIn (Fw r) n P c Q m) Q) a w):Code.roundsIn (Fw r) n P c Q (m+1) a w:=h
end
section
variable {P:Program}{r:Option Nat}{n N:Nat}{e:Nat->Value}{ds:List Deferred}{Q:Exit->Act->World->Prop}{K:Act->World->Prop}{t ty d:Nat}{pos:String}{af:Array Edge}{g:Option (Nat×Bool)}{x y:Operand}
def je {el:TypeId}{z:Value}{parts:Array (Nat×Operand)}{vs:List (Nat×Value)}{cells:Array Value}(hu:P.underlying t=some (.slice el))(hi:gK P el z size bytes)(hp:(parts.toList.map fun(i,x)=>(i,ev N e x))=vs)(h24:m*size<=16777216)(hm:0<m*size)(hf:Instr.fill (λi=>some (i*size,size)) ((Array.range (m*size)).map (z.cells[· %z.cells.size]!)) vs=some cells)(hk:∀w',(w'.heap.size=w.heap.size+1/\bF w w')->au w' w.heap.size el cells->K (act N (upd e d (.slice (some ⟨w.heap.size,0,none⟩) m m)) ds) w'):
 Oper.wpIn (Fw r) n P ⟨some d,.buildSlice t m parts,ty,pos,af,g⟩ (act N e ds) w K Q:=by
 obtain⟨i,O,W,qr,_⟩:=hi.parts
 subst qr
 refine dG (v:=.slice (some ⟨w.heap.size,0,none⟩) m m) (w':=w.alloc (.cells cells el)) Z ?_ (by
  rw[aw]
  exact hk _ ⟨by simp,bF.alloc _ _⟩ (heap_alloc_new w _))
 have hp':(parts.map fun(i,x)=>(i,ev N e x)).toList=vs:=by rw[<-hp];simp
 subst hp'
 have h2:¬m*i.size>2^24:=J
 have h3:¬(m*i.size=0):=J
 simp only[execOp,Instr.buildSlice,Sem.run_bind,run_underlying hu,Result.andThen_ok,sizeOf,typeInfo,run_program,O,Sem.run_pure,zeroValue,W,h2,if_false,h3,hf,newRow,run_newObj,World.alloc_eq]
end
end
section
set_option maxRecDepth 100000
open Go Go.Eng Go.RowKit Proofs.Tryz
attribute [local irreducible] wpListIn Code.wpIn Oper.wpIn Exit.then Exit.inBlock Exit.noGoto
set_option maxHeartbeats 40000000
def nY {p:Prop}(h:p:=by kernel_rfl):p:=h
abbrev z0:R:=([48],[49])
def Wj:(nS (10^13)).length=14:=by decide +kernel
def wY {a1 b1 l1 h1 a2 b2 l2 h2:List UInt8}(hp:pl<=12)(hF1:CR 186 #[.int .i64 2,.agg #[S x,S y],.int .i64 0,.int .i64 ((pl+15:Nat):Int)] (.tuple #[.agg #[S a1,S b1],.bool false]))(hL1:CR 187 #[S a1,S (nS (10^15)),.bool false] (S l1))(hH1:CR 187 #[S b1,S (nS (10^15)),.bool true] (S h1))(hS1:CR 188 #[S h1,S l1] (S s1))(hC1:CR 85 #[S s1,S [49]] (.int .i64 c1))(hM1:¬0<c1->CR 43 #[S l1,S (nS (10^pl))] (.tuple #[.agg #[S p1,S p2],.int .i64 0]))(hN1:¬0<c1->CR 43 #[S h1,S (nS (10^pl))] (.tuple #[.agg #[S q1,S q2],.int .i64 0]))(hF2:0<c1->CR 186 #[.int .i64 2,.agg #[S x,S y],.int .i64 0,.int .i64 ((pl+40:Nat):Int)] (.tuple #[.agg #[S a2,S b2],.bool false]))(hL2:0<c1->CR 187 #[S a2,S (nS (10^40)),.bool false] (S l2))(hH2:0<c1->CR 187 #[S b2,S (nS (10^40)),.bool true] (S h2))(hS2:0<c1->CR 188 #[S h2,S l2] (S s2))(hC2:0<c1->CR 85 #[S s2,S [49]] (.int .i64 c2))(hM2:0<c1->CR 43 #[S l2,S (nS (10^pl))] (.tuple #[.agg #[S p1,S p2],.int .i64 0]))(hN2:0<c1->CR 43 #[S h2,S (nS (10^pl))] (.tuple #[.agg #[S q1,S q2],.int .i64 0]))(hc2:0<c1->¬0<c2):
 CL 155 #[.int .i64 2,.agg #[S x,S y],.int .i64 0,.int .i64 pl] w (aC w λv w'=>v=.tuple #[.agg #[S p1,S p2,S q1,S q2],.int .i64 0]):=by
 refine aE func155 Z (I ?_);refine bx (λAd T2 qr=>?_);have O:=T2.2;refine al ap (λ_ Ay W=>?_);have⟨qr,O⟩:=bD Ay.2 qr O;refine I ?_;refine Gr 2 (I ?_);refine ac (bb (a:=(pl:Int)) (b:=15) (c:=((pl+15:Nat):Int)) Z Z L7 U ?_);refine cl HH (hF1 _) ?_;rintro _ L2 Z3 rfl;have⟨qr,W,O⟩:=bC Z3.2 qr W O;refine I ?_;refine al cj (λ_ G4 R1=>?_);have⟨qr,W,O⟩:=bC G4.2 qr W O;refine ac (bg (b:=L2.heap.size) (o:=0) (vs:=[S a1,S b1]) bZ Z Z MT R1 (qa3 Z) (λ_ Jx A1=>?_));have⟨qr,W,O,_⟩:=mD Jx qr W O;refine I ?_;refine bY 4 ?_;refine sf ?_;refine aF (V:=S (nS (10^15))) (λ_ _ _ _=>?_) ?_;refine clb eC (hc:=cN (pl:=15) U) (hk:=?_);rintro _ _ Wb rfl;have As:=Wb.2;refine I ?_;exact fs ⟨As,rfl⟩;refine sf ?_;intro _ _ E9 _;have⟨qr,W,A1,O⟩:=bW E9.2 qr W A1 O;refine cl ie (hL1 _) ?_;rintro _ _ F1 rfl;have⟨qr,W,A1,O⟩:=bW F1.2 qr W A1 O;refine I ?_;refine bY 4 ?_;refine sf ?_;refine aF (V:=S (nS (10^15))) (λ_ _ _ _=>?_) ?_;refine clb eC (hc:=cN (pl:=15) U) (hk:=?_);rintro _ _ wr rfl;have E0:=wr.2;refine I ?_;exact fs ⟨E0,rfl⟩;refine sf ?_;intro _ _ Ax _;have⟨qr,W,A1,O⟩:=bW Ax.2 qr W A1 O
 refine cl ie (hH1 _) ?_;rintro _ _ TT rfl;have⟨qr,W,A1,O⟩:=bW TT.2 qr W A1 O;refine I ?_;refine cl xB (hS1 _) ?_;rintro _ _ E7 rfl;have⟨qr,W,A1,O⟩:=bW E7.2 qr W A1 O;refine cl tK (hC1 _) ?_;rintro _ _ Ix rfl;have⟨qr,W,A1,O⟩:=bW Ix.2 qr W A1 O;refine I ?_;by_cases cx:0<c1;refine I ?_;refine ac (bb (a:=15) (b:=25) (c:=40) Z Z L7 Z ?_);refine I ?_;refine l6 (I ?_);refine ac (bb (a:=(pl:Int)) (b:=40) (c:=((pl+40:Nat):Int)) Z Z L7 U ?_);refine cl HH (hF2 cx _) ?_;rintro _ Z1 EE rfl;have⟨qr,W,O⟩:=bC EE.2 qr W O;refine I ?_;refine al cj (λ_ Ne E4=>?_);have⟨qr,W,O⟩:=bC Ne.2 qr W O;refine ac (bg (b:=Z1.heap.size) (o:=0) (vs:=[S a2,S b2]) bZ Z Z MT E4 (qa3 Z) (λ_ K2 qn=>?_));have⟨qr,W,O,_⟩:=mD K2 qr W O;refine I ?_;refine bY 4 ?_;refine sf ?_;refine aF (V:=S (nS (10^40))) (λ_ _ _ _=>?_) ?_;refine clb eC (hc:=cN (pl:=40) U) (hk:=?_);rintro _ _ EP rfl;have S1:=EP.2;refine I ?_;exact fs ⟨S1,rfl⟩;refine sf ?_;intro _ _ X2 _;have⟨qr,W,qn,O⟩:=bW X2.2 qr W qn O;refine cl ie (hL2 cx _) ?_;rintro _ _ Ar rfl;have⟨qr,W,qn,O⟩:=bW Ar.2 qr W qn O;refine I ?_;refine bY 4 ?_;refine sf ?_
 refine aF (V:=S (nS (10^40))) (λ_ _ _ _=>?_) ?_;refine clb eC (hc:=cN (pl:=40) U) (hk:=?_);rintro _ _ W1 rfl;have F6:=W1.2;refine I ?_;exact fs ⟨F6,rfl⟩;refine sf ?_;intro _ _ W0 _;have⟨qr,W,qn,O⟩:=bW W0.2 qr W qn O;refine cl ie (hH2 cx _) ?_;rintro _ _ F2 rfl;have⟨qr,W,qn,O⟩:=bW F2.2 qr W qn O;refine I ?_;refine cl xB (hS2 cx _) ?_;rintro _ _ Kp rfl;have⟨qr,W,qn,O⟩:=bW Kp.2 qr W qn O;refine cl tK (hC2 cx _) ?_;rintro _ _ W3 rfl;have⟨qr,W,qn,O⟩:=bW W3.2 qr W qn O;have Z5:=hc2 cx;refine I ?_;refine clb eC (hc:=cN (pl:=(pl)) U) (hk:=?_);rintro _ _ F3 rfl;have⟨qr,W,qn,O⟩:=bW F3.2 qr W qn O;refine cl qE (hM2 cx _) ?_;rintro _ _ F4 rfl;have⟨qr,W,qn,O⟩:=bW F4.2 qr W qn O;refine I ?_;refine al aQ (λ_ F5 N1=>?_);have⟨qr,W,qn,O⟩:=bW F5.2 qr W qn O;refine SA N1 (λ_ Z0 Ab=>?_);have⟨qr,W,qn,O,_⟩:=l7 Z0 qr W qn O;refine I ?_;refine clb eC (hc:=cN (pl:=(pl)) U) (hk:=?_);rintro _ _ EW rfl;have⟨qr,W,qn,Ab,O⟩:=eE EW.2 qr W qn Ab O;refine cl qE (hN2 cx _) ?_;rintro _ _ Z2 rfl;have⟨qr,W,qn,Ab,O⟩:=eE Z2.2 qr W qn Ab O;refine I ?_;refine al aQ (λ_ W2 F8=>?_);have⟨qr,W,qn,Ab,O⟩:=eE W2.2 qr W qn Ab O;refine SA F8 (λ_ Av Ap=>?_);have⟨qr,W,qn,Ab,O,_⟩:=vK Av qr W qn Ab O;refine I ?_
 refine ac (aV (vs:=[(0,.agg #[S p1,S p2]),(1,.agg #[S q1,S q2])]) (cells:=#[S p1,S p2,S q1,S q2]) (pl:=[(0,2),(2,2)]) aJ ap nY Z nY ?_);refine SA W (λ_ Am F7=>?_);have⟨qr,qn,Ab,Ap⟩:=wm Am qr qn Ab Ap;have O:=bB Am O;refine I ?_;refine aI (v:=.tuple #[.agg #[S p1,S p2,S q1,S q2],.int .i64 0]) (cn (r1:=.cell 8 33) (r2:=.tmp 9) Z ?_ ?_) O Z;refine ag (t:=8) (cs:=[S p1,S p2,S q1,S q2]) (b:=Ad.heap.size) (o:=0) aJ Z ay ?_ ?_;exact Z;exact aa1 F7 (i:=0) Z;exact aD (t:=9) Rd _;refine I ?_;refine clb eC (hc:=cN (pl:=(pl)) U) (hk:=?_);rintro _ _ Ek rfl;have⟨qr,W,A1,O⟩:=bW Ek.2 qr W A1 O;refine cl qE (hM1 cx _) ?_;rintro _ _ Aw rfl;have⟨qr,W,A1,O⟩:=bW Aw.2 qr W A1 O;refine I ?_;refine al aQ (λ_ No E1=>?_);have⟨qr,W,A1,O⟩:=bW No.2 qr W A1 O;refine SA E1 (λ_ Wa A2=>?_);have⟨qr,W,A1,O,_⟩:=l7 Wa qr W A1 O;refine I ?_;refine clb eC (hc:=cN (pl:=(pl)) U) (hk:=?_);rintro _ _ Aq rfl;have⟨qr,W,A1,A2,O⟩:=eE Aq.2 qr W A1 A2 O;refine cl qE (hN1 cx _) ?_;rintro _ _ ny rfl;have⟨qr,W,A1,A2,O⟩:=eE ny.2 qr W A1 A2 O;refine I ?_;refine al aQ (λ_ od G3=>?_);have⟨qr,W,A1,A2,O⟩:=eE od.2 qr W A1 A2 O;refine SA G3 (λ_ T4 Ao=>?_)
 have⟨qr,W,A1,A2,O,_⟩:=vK T4 qr W A1 A2 O;refine I ?_;refine ac (aV (vs:=[(0,.agg #[S p1,S p2]),(1,.agg #[S q1,S q2])]) (cells:=#[S p1,S p2,S q1,S q2]) (pl:=[(0,2),(2,2)]) aJ ap nY Z nY ?_);refine SA W (λ_ Af T3=>?_);have⟨qr,A1,A2,Ao⟩:=wm Af qr A1 A2 Ao;have O:=bB Af O;refine I ?_;refine aI (v:=.tuple #[.agg #[S p1,S p2,S q1,S q2],.int .i64 0]) (cn (r1:=.cell 8 33) (r2:=.tmp 9) Z ?_ ?_) O Z;refine ag (t:=8) (cs:=[S p1,S p2,S q1,S q2]) (b:=Ad.heap.size) (o:=0) aJ Z ay ?_ ?_;exact Z;exact aa1 T3 (i:=0) Z;exact aD (t:=9) Rd _
def kh (hp:pl<=12)(hR:CR 151 #[.agg #[S x,S y],.agg #[S (([45])++(nS (10^13))),S [49]],.agg #[S (nS (10^13)),S [49]],.int .i64 pl] (.bool true))(hM:CR 43 #[S [49],S (nS (10^pl))] (.tuple #[.agg #[S s1,S s2],.int .i64 0]))(h8:CR 47 #[.agg #[S x,S y],.agg #[S [56],S [49]]] (.int .i64 c8))(h9:CR 47 #[.agg #[S x,S y],.agg #[S [45,56],S [49]]] (.int .i64 c9))(hS:CR 46 #[.agg #[S [49],S [49]],.agg #[S s1,S s2]] (.tuple #[.agg #[S u1,S u2],.int .i64 0]))(hC:¬0<=c8->¬c9<=0->¬(x,y)=z0->CR 155 #[.int .i64 2,.agg #[S x,S y],.int .i64 0,.int .i64 pl] (.tuple #[.agg #[S p1,S p2,S q1,S q2],.int .i64 0]))(kH:0<=c8->Value.tuple #[.agg #[S u1,S u2,S [49],S [49]],.int .i64 0]=v0)(kL:¬0<=c8->c9<=0->Value.tuple #[.agg #[S [48],S [49],S s1,S s2],.int .i64 0]=v0)(kZ:¬0<=c8->¬c9<=0->(x,y)=z0->Value.tuple #[.agg #[S [49],S [50],S [49],S [50]],.int .i64 0]=v0)(kC:¬0<=c8->¬c9<=0->¬(x,y)=z0->Value.tuple #[.agg #[S p1,S p2,S q1,S q2],.int .i64 0]=v0)(hpl0:0<pl):
 CL 109 #[.agg #[S x,S y],.int .i64 pl] w (aC w λv w'=>v=v0):=by
 refine aE func109 Z (I ?_);refine bx (λE4 bd qr=>?_);have O:=bd.2;refine al ap (λ_ e4 qn=>?_);have⟨qr,O⟩:=bD e4.2 qr O;refine I ?_;refine bY 7 ?_;refine sf ?_;refine aF (V:=S (nS (10^13))) (λ_ _ _ _=>?_) ?_;refine clb eC (hc:=cN (pl:=13) U) (hk:=?_);rintro _ _ b7 rfl;have aH:=b7.2;refine I ?_;exact fs ⟨aH,rfl⟩;refine bl (λ_ _ _ _=>by refine ac (km (a:=[45]) (b:=nS (10^13)) Z Z (by rw[Wj];decide) ?_);refine I ?_;exact cz) ?_;refine aF (V:=.agg #[S (([45])++(nS (10^13))),S [49]]) (λ_ _ _ _=>?_) ?_;refine cl lD fw ?_;rintro _ _ ZJ rfl;have en:=ZJ.2;refine I ?_;exact fs ⟨en,rfl⟩;refine aF (V:=S (nS (10^13))) (λ_ _ _ _=>?_) ?_;refine clb eC (hc:=cN (pl:=13) U) (hk:=?_);rintro _ _ Zy rfl;have Zl:=Zy.2;refine I ?_;exact fs ⟨Zl,rfl⟩;refine aF (V:=.agg #[S (nS (10^13)),S [49]]) (λ_ _ _ _=>?_) ?_;refine cl lD fw ?_;rintro _ _ ZS rfl;have cm:=ZS.2;refine I ?_;exact fs ⟨cm,rfl⟩;refine sf ?_;intro _ _ et _;have⟨qr,qn,O⟩:=bC et.2 qr qn O;refine cl QK (hR _) ?_;rintro _ _ f2 rfl;have⟨qr,qn,O⟩:=bC f2.2 qr qn O;refine I ?_;refine clb eC (hc:=cN (pl:=(pl)) U) (hk:=?_);rintro _ _ ch rfl;have⟨qr,qn,O⟩:=bC ch.2 qr qn O;refine cl qE (hM _) ?_
 rintro _ ZN Z9 rfl;have⟨qr,qn,O⟩:=bC Z9.2 qr qn O;refine I ?_;refine al aQ (λ_ ZD Zz=>?_);have⟨qr,qn,O⟩:=bC ZD.2 qr qn O;refine SA Zz (λ_ ZW Ad=>?_);have⟨qr,qn,O,_⟩:=mD ZW qr qn O;refine I ?_;refine bY 2 ?_;refine sf ?_;refine aF (V:=.agg #[S [56],S [49]]) (λ_ _ _ _=>?_) ?_;refine cl lD fw ?_;rintro _ _ e6 rfl;have cT:=e6.2;refine I ?_;exact fs ⟨cT,rfl⟩;refine sf ?_;intro _ _ cb _;have⟨qr,qn,Ad,O⟩:=bW cb.2 qr qn Ad O;refine cl BH (h8 _) ?_;rintro _ F2 Zu rfl;have⟨qr,qn,Ad,O⟩:=bW Zu.2 qr qn Ad O;refine I ?_;by_cases od:0<=c8;refine I ?_;have E1:=aa8 F2
 refine uh g8 8 (λe0 ls e W=>∃Af:Nat,(∀t,y9 [8,30,31,32,33,34,35] t=false->e t=e0 t)/\(bF w W)/\(F2.heap.size<=W.heap.size)/\(ls 0=true->e 31=.agg #[S [49],S [49]])/\(ls 1=true->e 32=.agg #[S s1,S s2])/\(ls 2=true->e 33=.tuple #[.agg #[S u1,S u2],.int .i64 0])/\(ls 3=true->e 30=.tuple #[.agg #[S u1,S u2],.int .i64 0])/\(ls 4=true->e 34=.agg #[S u1,S u2])/\(ls 5=true->e 35=.int .i64 0)/\(ls 6=true->e 8=pT Af)/\(ls 6=true->F2.heap.size<=Af)/\(au W w.heap.size 25 #[S x,S y])/\(au W E4.heap.size 33 #[S [],S [],S [],S []])/\(au W ZN.heap.size 25 #[S s1,S s2])/\(ls 6=true->ls 7=false->au W Af 25 #[S [],S []])/\(ls 7=true->au W Af 25 #[S u1,S u2])) ⟨0,(λ_ _=>rfl),(xt O E1),(bz E1),(ff Z),(ff Z),(ff Z),(ff Z),(ff Z),(ff Z),(ff Z),(ff Z),(be E1 qr),(be E1 qn),(be E1 Ad),(λh _=>ff Z h),(λh=>ff Z h)⟩ nY nY ?_ ?_;refine⟨λcw _ wr a3 F6 Z1 _=>?_,?_⟩;obtain⟨Af,TT,O,E0,Aq,Av,As,Ao,Ar,Aw,Ap,Am,A2,Ab,A1,Ax,Ay⟩:=a3;obtain⟨cw,rfl⟩:=aT TT;have ab:wr 2=false:=(js F6 (i:=0) (j:=2) Z Z1);have ZA:wr 7=false:=(js F6 (i:=0) (j:=7) Z Z1);have fc:wr 3=false:=(js F6 (i:=2) (j:=3) Z ab);have EE:=bt A2;have Ek:=bt Ab;have EP:=bt A1;refine cl lD fw ?_
 rintro _ _ Wb rfl;have⟨A2,Ab,A1,O⟩:=bW Wb.2 A2 Ab A1 O;refine I ?_;exact⟨rfl,_,(aw _ _ _ _ _).symm,Af,(bv Z TT),O,U,(λ_=>rfl),Av,As,Ao,Ar,Aw,Ap,Am,(A2),(Ab),(A1),(λco cv=>(be Wb.2 (Ax co cv))),(λZY=>ff ZA ZY)⟩;refine⟨λb6 _ F8 ZO G3 W2 _=>?_,?_⟩;obtain⟨Af,X2,O,E0,Aq,Av,As,Ao,Ar,Aw,Ap,Am,A2,Ab,A1,Ax,Ay⟩:=ZO;obtain⟨b6,rfl⟩:=aT X2;have ZX:F8 2=false:=(js G3 (i:=1) (j:=2) Z W2);have ZQ:F8 7=false:=(js G3 (i:=1) (j:=7) Z W2);have fx:F8 3=false:=(js G3 (i:=2) (j:=3) Z ZX);refine I ?_;exact⟨rfl,_,(aw _ _ _ _ _).symm,Af,(bv Z X2),O,U,Aq,(λ_=>rfl),As,Ao,Ar,Aw,Ap,Am,(A2),(Ab),(A1),(λZq dq=>Ax Zq dq),(λe2=>ff ZQ e2)⟩;refine⟨λF5 _ E9 dd W0 Kp Z6=>?_,?_⟩;obtain⟨Af,S1,O,E0,Aq,Av,As,Ao,Ar,Aw,Ap,Am,A2,Ab,A1,Ax,Ay⟩:=dd;obtain⟨F5,rfl⟩:=aT S1;have ZB:E9 0=true:=(Z6 0 Z);have arr:E9 1=true:=(Z6 1 Z);have fy:E9 3=false:=(js W0 (i:=2) (j:=3) Z Kp);have f6:E9 7=false:=(js W0 (i:=2) (j:=7) Z Kp);have an:F5 31=.agg #[S [49],S [49]]:=Aq ZB;have ct:F5 32=.agg #[S s1,S s2]:=Av arr;have EE:=bt A2;have Ek:=bt Ab;have EP:=bt A1;refine cl T0 (hS _) ?_ (ai an (ai ct Z));rintro _ _ No rfl;have⟨A2,Ab,A1,O⟩:=bW No.2 A2 Ab A1 O;refine I ?_
 exact⟨rfl,_,(aw _ _ _ _ _).symm,Af,(bv Z S1),O,U,Aq,Av,(λ_=>rfl),Ao,Ar,Aw,Ap,Am,(A2),(Ab),(A1),(λZE Zw=>(be No.2 (Ax ZE Zw))),(λcq=>ff f6 cq)⟩;refine⟨λR1 _ Wa er e5 ZR ZC=>?_,?_⟩;obtain⟨Af,N1,O,E0,Aq,Av,As,Ao,Ar,Aw,Ap,Am,A2,Ab,A1,Ax,Ay⟩:=er;obtain⟨R1,rfl⟩:=aT N1;have ed:Wa 2=true:=(ZC 2 Z);have d4:Wa 7=false:=(js e5 (i:=3) (j:=7) Z ZR);have f7:R1 33=.tuple #[.agg #[S u1,S u2],.int .i64 0]:=As ed;refine I ?_;exact⟨rfl,_,(aw _ _ _ _ _).symm,Af,(bv Z N1),O,U,Aq,Av,As,(λ_=>rfl),Ar,Aw,Ap,Am,(A2),(Ab),(A1),(λa7 Zs=>Ax a7 Zs),(λca=>ff d4 ca)⟩;refine⟨λK2 _ G4 d0 Z2 a0 ZP=>?_,?_⟩;obtain⟨Af,W1,O,E0,Aq,Av,As,Ao,Ar,Aw,Ap,Am,A2,Ab,A1,Ax,Ay⟩:=d0;obtain⟨K2,rfl⟩:=aT W1;have T3:G4 3=true:=(ZP 3 Z);have fD:G4 2=true:=(Z2 3 2 Z T3);have f0:G4 7=false:=(js Z2 (i:=4) (j:=7) Z a0);have fT:K2 30=.tuple #[.agg #[S u1,S u2],.int .i64 0]:=Ao T3;refine I ?_;exact⟨rfl,_,(aw _ _ _ _ _).symm,Af,(bv Z W1),O,U,Aq,Av,As,Ao,(λ_=>rfl),Aw,Ap,Am,(A2),(Ab),(A1),(λZm d6=>Ax Zm d6),(λZp=>ff f0 Zp)⟩;refine⟨λJx _ Z3 ZG e7 _ cf=>?_,?_⟩;obtain⟨Af,ask,O,E0,Aq,Av,As,Ao,Ar,Aw,Ap,Am,A2,Ab,A1,Ax,Ay⟩:=ZG
 obtain⟨Jx,rfl⟩:=aT ask;have W3:Z3 3=true:=(cf 3 Z);have fi:Z3 2=true:=(e7 3 2 Z W3);have f9:Jx 30=.tuple #[.agg #[S u1,S u2],.int .i64 0]:=Ao W3;refine I ?_;exact⟨rfl,_,(aw _ _ _ _ _).symm,Af,(bv Z ask),O,U,Aq,Av,As,Ao,Ar,(λ_=>rfl),Ap,Am,(A2),(Ab),(A1),(λd5 aL=>Ax d5 aL),(λZZ=>Ay ZZ)⟩;refine⟨λZV ZF aB ZM bc b9 _=>?_,?_⟩;obtain⟨Af,T4,O,E0,Aq,Av,As,Ao,Ar,Aw,Ap,Am,A2,Ab,A1,Ax,Ay⟩:=ZM;obtain⟨ZV,rfl⟩:=aT T4;have ad:aB 7=false:=(js bc (i:=6) (j:=7) Z b9);have EE:=bt A2;have Ek:=bt Ab;have EP:=bt A1;refine al aQ (λ_ Zo d3=>?_);have⟨A2,Ab,A1,O⟩:=bW Zo.2 A2 Ab A1 O;refine I ?_;exact⟨rfl,_,(aw _ _ _ _ _).symm,ZF.heap.size,(bv Z T4),O,U,Aq,Av,As,Ao,Ar,Aw,(λ_=>rfl),(λ_=>U),(A2),(Ab),(A1),(λ_ _=>d3),(λa4=>ff ad a4)⟩;refine⟨λF3 _ F1 ZT Z5 cy Z0=>?_,?_⟩;obtain⟨Af,Ix,O,E0,Aq,Av,As,Ao,Ar,Aw,Ap,Am,A2,Ab,A1,Ax,Ay⟩:=ZT;obtain⟨F3,rfl⟩:=aT Ix;have F7:F1 6=true:=(Z0 6 Z);have Ne:F1 4=true:=(Z0 4 Z);have Zv:F1 3=true:=(Z5 4 3 Z Ne);have fl:F1 2=true:=(Z5 3 2 Z Zv);have ft:F3 34=.agg #[S u1,S u2]:=Ar Ne;have fm:F3 8=pT Af:=Ap F7;have ZK:=Am F7;have EE:=bt A2;have Ek:=bt Ab;have EP:=bt A1;have dn:=Ax F7 cy
 refine SA dn (λ_ Zk a6=>?_);have⟨A2,Ab,A1,O,_⟩:=l7 Zk A2 Ab A1 O;refine I ?_;exact⟨rfl,undef,rfl,Af,Ix,O,U,Aq,Av,As,Ao,Ar,Aw,Ap,Am,(A2),(Ab),(A1),(λ_ a8=>tf Z a8),(λ_=>a6)⟩;exact trivial;intro F4 _ _ E7 ZU;obtain⟨Af,bT,O,E0,Aq,Av,As,Ao,Ar,Aw,Ap,Am,A2,Ab,A1,Ax,Ay⟩:=ZU;obtain⟨F4,rfl⟩:=aT bT;have ZK:=Am (E7 6 Z);have EE:=bt A2;have Ek:=bt Ab;have EP:=bt A1;have EW:=Ay (E7 7 Z);have fu:F4 35=.int .i64 (0):=(Aw (E7 5 Z));refine I ?_;have fN:F4 8=pT Af:=(Ap (E7 6 Z));refine bY 2 ?_;refine sf ?_;refine aF (V:=.agg #[S [49],S [49]]) (λ_ _ _ _=>?_) ?_;refine cl lD fw ?_;rintro _ _ a9 rfl;have em:=a9.2;refine I ?_;exact fs ⟨em,rfl⟩;refine sf ?_;intro _ _ f3 _;have⟨A2,Ab,A1,EW,O⟩:=eE f3.2 A2 Ab A1 EW O;refine ac (aV (vs:=[(0,.agg #[S u1,S u2]),(1,.agg #[S [49],S [49]])]) (cells:=#[S u1,S u2,S [49],S [49]]) (pl:=[(0,2),(2,2)]) aJ ap nY Z nY ?_);refine SA Ab (λ_ L2 Zn=>?_);have⟨A2,A1,EW⟩:=kt L2 A2 A1 EW;have O:=bB L2 O;refine I ?_;refine aI (v:=.tuple #[.agg #[S u1,S u2,S [49],S [49]],.int .i64 0]) (cn (r1:=.cell 4 33) (r2:=.tmp 5) Z ?_ ?_) O (kH od)
 refine ag (t:=4) (cs:=[S u1,S u2,S [49],S [49]]) (b:=E4.heap.size) (o:=0) aJ Z ay ?_ ?_;exact Z;exact aa1 Zn (i:=0) Z;exact aD (t:=5) Rd _;refine I ?_;refine bY 2 ?_;refine sf ?_;refine aF (V:=.agg #[S [45,56],S [49]]) (λ_ _ _ _=>?_) ?_;refine cl lD fw ?_;rintro _ _ bH rfl;have Zt:=bH.2;refine I ?_;exact fs ⟨Zt,rfl⟩;refine sf ?_;intro _ _ bq _;have⟨qr,qn,Ad,O⟩:=bW bq.2 qr qn Ad O;refine cl BH (h9 _) ?_;rintro _ _ ZI rfl;have⟨qr,qn,Ad,O⟩:=bW ZI.2 qr qn Ad O;refine I ?_;by_cases sc:c9<=0;refine I ?_;refine bY 2 ?_;refine aF (V:=.agg #[S [48],S [49]]) (λ_ _ _ _=>?_) ?_;refine cl lD fw ?_;rintro _ _ cd rfl;have Zr:=cd.2;refine I ?_;exact fs ⟨Zr,rfl⟩;refine sf ?_;intro _ _ e3 _;have⟨qr,qn,Ad,O⟩:=bW e3.2 qr qn Ad O;refine ac (aV (vs:=[(0,.agg #[S [48],S [49]]),(1,.agg #[S s1,S s2])]) (cells:=#[S [48],S [49],S s1,S s2]) (pl:=[(0,2),(2,2)]) aJ ap nY Z nY ?_);refine SA qn (λ_ Z8 Zx=>?_);have⟨qr,Ad⟩:=eR Z8 qr Ad;have O:=bB Z8 O;refine I ?_;refine aI (v:=.tuple #[.agg #[S [48],S [49],S s1,S s2],.int .i64 0]) (cn (r1:=.cell 4 33) (r2:=.tmp 5) Z ?_ ?_) O (kL od sc)
 refine ag (t:=4) (cs:=[S [48],S [49],S s1,S s2]) (b:=E4.heap.size) (o:=0) aJ Z ay ?_ ?_;exact Z;exact aa1 Zx (i:=0) Z;exact aD (t:=5) Rd _;refine I ?_;by_cases ny:(x,y)=z0;refine bY 2 ?_;refine sf ?_;refine aF (V:=.agg #[S [48],S [49]]) (λ_ _ _ _=>?_) ?_;refine cl lD fw ?_;rintro _ _ cx rfl;have e1:=cx.2;refine I ?_;exact fs ⟨e1,rfl⟩;refine sf ?_;intro _ _ eg _;have⟨qr,qn,Ad,O⟩:=bW eg.2 qr qn Ad O;refine ac (uR (a:=(x,y)) (b:=z0) (q:=decide ((x,y)=z0)) Z Z Z ?_);refine I ?_;refine cl QM C3 ?_;rintro _ _ cr rfl;have⟨qr,qn,Ad,O⟩:=bW cr.2 qr qn Ad O;refine I ?_;refine SA qn (λ_ T2 f5=>?_);have⟨qr,Ad⟩:=eR T2 qr Ad;have O:=bB T2 O;refine I ?_;refine aI (v:=.tuple #[.agg #[S [49],S [50],S [49],S [50]],.int .i64 0]) (cn (r1:=.cell 4 33) (r2:=.tmp 5) Z ?_ ?_) O (kZ od sc ny);refine ag (t:=4) (cs:=[S [49],S [50],S [49],S [50]]) (b:=E4.heap.size) (o:=0) aJ Z ay ?_ ?_;exact Z;exact aa1 f5 (i:=0) Z;exact aD (t:=5) Rd _;refine bY 2 ?_;refine sf ?_;refine aF (V:=.agg #[S [48],S [49]]) (λ_ _ _ _=>?_) ?_;refine cl lD fw ?_;rintro _ _ ZH rfl;have f4:=ZH.2;refine I ?_;exact fs ⟨f4,rfl⟩;refine sf ?_;intro _ _ bL _
 have⟨qr,qn,Ad,O⟩:=bW bL.2 qr qn Ad O;refine ac (uR (a:=(x,y)) (b:=z0) (q:=decide ((x,y)=z0)) Z Z Z ?_);refine I ?_;refine cl QY (hC od sc ny _) ?_;rintro _ _ a5 rfl;have⟨qr,qn,Ad,O⟩:=bW a5.2 qr qn Ad O;refine I ?_;refine SA qn (λ_ Z7 ZL=>?_);have⟨qr,Ad⟩:=eR Z7 qr Ad;have O:=bB Z7 O;refine I ?_;refine aI (v:=.tuple #[.agg #[S p1,S p2,S q1,S q2],.int .i64 0]) (cn (r1:=.cell 4 33) (r2:=.tmp 5) Z ?_ ?_) O (kC od sc ny);refine ag (t:=4) (cs:=[S p1,S p2,S q1,S q2]) (b:=E4.heap.size) (o:=0) aJ Z ay ?_ ?_;exact Z;exact aa1 ZL (i:=0) Z;exact aD (t:=5) Rd _
end
section
open Go Go.Eng Go.RowKit Proofs.Tryz
def A8 (u:Nat)(K:Nat->Nat->Bool):Bool:=fz (Nat.gcd u 1000000) λg=>fz (Nat.div u g) λn=>fz (Nat.div 1000000 g) λd=>VD NE 100 1000 (λl h=>VD NF 1000 100 (λl h=>VD VF 10000 10 (λl h=>VD VH 100000 1 K n d l h) n d l h) n d l h) n d 0 100000
def yP {K:Nat->Nat->Bool}(hu:0<u)(h:A8 u K=true):∃lo hi,(∀pl,2<=pl->pl<=5->∃f c,yy pl u f c/\f*10^(5-pl)<=lo/\hi<=c*10^(5-pl))/\K lo hi=true:=by
 unfold A8 at h
 rw[dl,dl,dl]at h
 have W:0<Nat.gcd u 1000000:=Nat.gcd_pos_of_pos_left _ hu
 have O:0<u/Nat.gcd u 1000000:=Nat.div_pos (Nat.le_of_dvd hu (Nat.gcd_dvd_left _ _)) W
 have hd:0<1000000/Nat.gcd u 1000000:=Nat.div_pos (Nat.le_of_dvd dc (Nat.gcd_dvd_right _ _)) W
 obtain⟨_,_,_,_,c0,h⟩:=yx JP dc O hd h
 obtain⟨_,_,_,_,c1,h⟩:=yx Sj dc O hd h
 obtain⟨_,_,_,_,c2,h⟩:=yx VG dc O hd h
 obtain⟨qr,h3,_,_,c3,h⟩:=yx XF dc O hd h
 refine⟨qr,h3,λpl _ _=>?_,h⟩
 have key:pE pl (10^(5-pl)) (u/Nat.gcd u 1000000) (1000000/Nat.gcd u 1000000) qr h3:=by
  rcases(by omega:pl=2\/pl=3\/pl=4\/pl=5)with rfl|rfl|rfl|rfl
  · exact c0.weak U U
  · exact c1.weak U U
  · exact c2.weak U U
  · exact c3
 obtain⟨f,c,a,b,e,g,k⟩:=key
 obtain⟨r1,r2⟩:=mT dc a
 exact⟨f,c,⟨r1,r2,b,e⟩,g,k⟩
def PV (dn up x:Nat):Prop:=∀pl,2<=pl->pl<=5->∃f c f' c',yy pl dn f c'/\yy pl up f' c/\f*10^(5-pl)<=x/\x<=c*10^(5-pl)
def WK (S K:Nat)(C:Nat->Bool):Bool:=fz (Nat.mul K 200000) λa=>fz (Nat.div a S) λdn=>fz (Nat.div (Nat.add a (Nat.pred S)) S) λup=>cond (Nat.beq dn up) (A8 dn λlo hi=>and (Nat.ble lo hi) (C lo)) (A8 dn λlo _=>A8 up λ_ hi=>and (Nat.ble lo hi) (C lo))
def N9 {dn up:Nat}(p1:0<dn)(p2:0<up)(h:cond (Nat.beq dn up) (A8 dn λlo hi=>and (Nat.ble lo hi) (C lo)) (A8 dn λlo _=>A8 up λ_ hi=>and (Nat.ble lo hi) (C lo))=true):∃x,PV dn up x/\C x=true:=by
 rcases ee h with⟨h1,hk⟩|⟨_,hk⟩
 · have h1:=qb3 h1
   subst h1
   obtain⟨lo,hi,ha,hb⟩:=yP p1 hk
   rw[Bool.and_eq_true,Nat.ble_eq]at hb
   refine⟨lo,λpl h1 h2=>?_,hb.2⟩
   obtain⟨f,c,a,b,e⟩:=ha pl h1 h2
   exact⟨f,c,f,c,a,a,b,by omega⟩
 · obtain⟨lo,_,ha,hk⟩:=yP p1 hk
   obtain⟨_,hi,hb,hk⟩:=yP p2 hk
   rw[Bool.and_eq_true,Nat.ble_eq]at hk
   refine⟨lo,λpl h1 h2=>?_,hk.2⟩
   obtain⟨f,O,a,b,_⟩:=ha pl h1 h2
   obtain⟨qr,c,a',_,W⟩:=hb pl h1 h2
   exact⟨f,c,qr,O,a,a',b,by omega⟩
def YX (S K:Nat):Nat:=K*200000/S
def YY (S K:Nat):Nat:=(K*200000+(S-1))/S
def SX {S K:Nat}(hS:0<S)(hK:S<=K*200000)(h:WK S K C=true):∃x,PV (YX S K) (YY S K) x/\C x=true:=by
 unfold WK at h
 rw[dl,dl,dl]at h
 exact N9 (Nat.div_pos hK hS) (Nat.div_pos (qa8 hK (Nat.le_add_right _ _)) hS) h
def SY (S:Nat)(C:Nat->Bool)(n:Nat):Nat->Nat->Bool:=Nat.rec (motive:=λ_=>Nat->Nat->Bool) (λ_ p=>C p) (λ_ ih K p=>WK S K λlo=>cond (Nat.ble p lo) (ih (Nat.succ K) lo) false) n
def Gs (S a b p r:Nat):Prop:=∃v:Nat->Nat,(∀K,a<=K->K<b->PV (YX S K) (YY S K) (v K)/\p<=v K/\v K<=r)/\∀K L,a<=K->K<=L->L<b->v K<=v L
def EZ {S r:Nat}(hS:0<S)(h5:S<=50000):∀{n a p:Nat},0<a->SY S (λq=>Nat.ble q r) n a p=true->p<=r/\Gs S a (a+n) p r
 |0,a,p,_,h=>⟨qa3 h,λ_=>0,λK h1 h2=>by omega,λK L h1 h2 h3=>by omega⟩
 | n + 1,a,p,ha,h=>by
   change WK S a (λlo=>cond (Nat.ble p lo) (SY S (λq=>Nat.ble q r) n (a+1) lo) false)=true at h
   obtain⟨x,hx,hk⟩:=SX hS U h
   rcases ee hk with⟨h1,hk⟩|⟨_,hk⟩
   · have h1:=qa3 h1
     obtain⟨h2,v,h3,h4⟩:=EZ hS h5 U hk
     refine⟨by omega,λK=>if K=a then x else v K,λK qr O=>?_,λK L qr O W=>?_⟩
     · by_cases e:K=a
       · subst e;simp only[if_pos];exact⟨hx,h1,h2⟩
       · simp only[if_neg e]
         obtain⟨b1,b2,b3⟩:=h3 K U U
         exact⟨b1,by omega,b3⟩
     · by_cases e:K=a
       · subst e
         by_cases e2:L=K
         · subst e2;exact qa0 _
         · simp only[if_pos,if_neg e2]
           exact(h3 L U U).2.1
       · simp only[if_neg e,if_neg (show¬L=a by omega)]
         exact h4 K L U O U
   · cases hk
def Gs.join {S a b c p q r:Nat}(h1:Gs S a b p q)(h2:Gs S b c q r)(hpq:p<=q)(hqr:q<=r):Gs S a c p r:=by
 obtain⟨v,a1,a2⟩:=h1
 obtain⟨u,b1,b2⟩:=h2
 refine⟨λK=>if K<b then v K else u K,λK qr O=>?_,λK L qr O W=>?_⟩
 · by_cases e:K<b
   · simp only[if_pos e]
     obtain⟨x,y,z⟩:=a1 K qr e
     exact⟨x,y,by omega⟩
   · simp only[if_neg e]
     obtain⟨x,y,z⟩:=b1 K U O
     exact⟨x,by omega,z⟩
 · by_cases e:K<b
   · by_cases e2:L<b
     · simp only[if_pos e,if_pos e2];exact a2 K L qr O e2
     · simp only[if_pos e,if_neg e2]
       have x:=(a1 K qr e).2.2
       have y:=(b1 L U W).2.1
       omega
   · simp only[if_neg e,if_neg (show¬L<b by omega)]
     exact b2 K L U O W
structure Wk (S b r:Nat):Prop where
 row:Gs S 1 b 50000 r
 r5:50000<=r
def Wk.zero {S:Nat}:Wk S 1 50000:=⟨⟨λ_=>0,λK h1 h2=>by omega,λK L h1 h2 h3=>by omega⟩,qa0 _⟩
def Wk.next {S b r n r':Nat}(c:Wk S b r)(hS:0<S)(h5:S<=50000)(hb:0<b)(h:SY S (λq=>Nat.ble q r') n b r=true):Wk S (b+n) r':=by
 obtain⟨h1,h2⟩:=EZ hS h5 hb h
 exact⟨c.row.join h2 c.r5 h1,qa8 c.r5 h1⟩
def SZ (pl:Nat)(n d f c:Int):Prop:=Sh pl n d f c/\Sh pl (-n) d (aa pl-c) (aa pl-f)
def SZ.neg (h:SZ pl n d f c):SZ pl (-n) d (aa pl-c) (aa pl-f):=by
 refine⟨h.2,?_⟩
 rw[Int.neg_neg,show aa pl-(aa pl-f)=f by omega,show aa pl-(aa pl-c)=c by omega]
 exact h.1
def pW (hd:0<d)(h1:1<=pl):SZ pl 0 d ((10^pl/2:Nat):Int) ((10^pl/2:Nat):Int):=by
 obtain⟨O,qr⟩:=uZ h1
 have hE:=rn h1
 have qn:(0:Int)<=((10^pl/2:Nat):Int):=Int.natCast_nonneg _
 generalize ((10^pl/2:Nat):Int)=H at *
 have key:Sh pl 0 d H H:=by
  have z0:∀n D:Int,n=0->dp n D (aa 6)=0/\dz n D (aa 6)=0:=by
   intro n D h;subst h
   unfold dp dz
   rw[Int.zero_mul,Int.zero_emod,if_pos Z,Int.zero_ediv]
   exact⟨rfl,rfl⟩
  have c2:eu 0 d=(0,d):=by unfold eu;rw[if_pos U,if_pos U]
  obtain⟨z1,W⟩:=z0 0 d Z
  refine⟨H,H,?_,?_,by omega,by omega,by omega⟩
  · rw[c2];simp only;rw[z1];exact Or.inl ⟨rfl,O.symm,qr.symm⟩
  · rw[c2];simp only;rw[W];exact Or.inl ⟨rfl,O.symm,qr.symm⟩
 refine⟨key,?_⟩
 rw[show aa pl-H=H by omega]
 exact key
def KJ (hd:0<d)(h:8*d<=n):Sh pl n d (aa pl-1) (aa pl):=by
 have c0:=iq (n:=n) hd
 have c8:=J1 hd h
 have h1:8*aa 6<=dp (eu n d).1 (eu n d).2 (aa 6):=by
  unfold dp
  refine Int.le_ediv_of_mul_le c0 ?_
  rw[show 8*aa 6*(eu n d).2=8*(eu n d).2*aa 6 by grind]
  exact Int.mul_le_mul_of_nonneg_right c8 (Int.le_of_lt (aZ 6))
 have h2:=lg (a:=(eu n d).1) (b:=(eu n d).2) (t:=aa 6)
 have hT:=aZ pl
 exact⟨aa pl-1,aa pl,Or.inr (Or.inl ⟨by omega,rfl,rfl⟩),Or.inr (Or.inl ⟨by omega,rfl,rfl⟩),by omega,by omega,by omega⟩
def E2 (hd:0<d)(h:n<=-8*d):Sh pl n d 0 1:=by
 have c0:=iq (n:=n) hd
 have c8:=J2 hd h
 have h1:dz (eu n d).1 (eu n d).2 (aa 6)<=-8*aa 6:=by
  have e:dz (eu n d).1 (eu n d).2 (aa 6)=-dp (-(eu n d).1) (eu n d).2 (aa 6):=by rw[j9 c0];omega
  rw[e]
  have:8*aa 6<=dp (-(eu n d).1) (eu n d).2 (aa 6):=by
   unfold dp
   refine Int.le_ediv_of_mul_le c0 ?_
   rw[show 8*aa 6*(eu n d).2=8*(eu n d).2*aa 6 by grind]
   exact Int.mul_le_mul_of_nonneg_right U (Int.le_of_lt (aZ 6))
  omega
 have h2:=lg (a:=(eu n d).1) (b:=(eu n d).2) (t:=aa 6)
 have hT:=aZ pl
 exact⟨0,1,Or.inr (Or.inr (Or.inl ⟨by omega,rfl,rfl⟩)),Or.inr (Or.inr (Or.inl ⟨by omega,rfl,rfl⟩)),by omega,by omega,by omega⟩
structure X3 (S:Nat)(v:Int->Int):Prop where
 mono:∀K L,K<=L->v K<=v L
 neg:∀K,v (-K)=100000-v K
 sh:∀(K:Int) (pl:Nat),2<=pl->pl<=5->∃f c,SZ pl K ((5*S:Nat):Int) f c/\f*aa (5-pl)<=v K/\v K<=c*aa (5-pl)
def vy {b:Int}(hb:0<b)(hd:0<d)(e:a*d=c*b):dp a b t=dp c d t/\dz a b t=dz c d t:=by
 have h1:a*t*d=c*t*b:=by grind
 have key:a*t/b=c*t/d/\((a*t%b=0)↔(c*t%d=0)):=by
  generalize a*t=x at *
  generalize c*t=y at *
  have O:x/b=x*d/(b*d):=(Int.mul_ediv_mul_of_pos_left _ _ hd).symm
  have qr:y/d=y*b/(d*b):=(Int.mul_ediv_mul_of_pos_left _ _ hb).symm
  refine⟨by rw[O,qr,h1,Int.mul_comm b d],?_⟩
  constructor
  · intro h
    have h2:=Int.mul_ediv_cancel' (Int.dvd_of_emod_eq_zero h)
    refine Int.emod_eq_zero_of_dvd ⟨x/b,?_⟩
    refine Int.eq_of_mul_eq_mul_right (a:=b) U ?_
    rw[<-h1]
    conv=>lhs;lhs;rw[<-h2]
    grind
  · intro h
    have h2:=Int.mul_ediv_cancel' (Int.dvd_of_emod_eq_zero h)
    refine Int.emod_eq_zero_of_dvd ⟨y/d,?_⟩
    refine Int.eq_of_mul_eq_mul_right (a:=d) U ?_
    rw[h1]
    conv=>lhs;lhs;rw[<-h2]
    grind
 unfold dp dz
 rw[key.1]
 refine⟨rfl,?_⟩
 by_cases h:a*t%b=0
 · rw[if_pos h,if_pos (key.2.1 h)]
 · rw[if_neg h,if_neg (λk=>h (key.2.2 k))]
def Gt {b:Int}(hb:0<b)(hd:0<d)(e:a*d=c*b):(eu a b).1*(eu c d).2=(eu c d).1*(eu a b).2:=by
 have h1:a<9*b↔c<9*d:=⟨λh=>uY hb hd e h,λh=>uY hd hb e.symm h⟩
 have h2:-9*b<a↔ -9*d<c:=⟨λh=>uX hb hd e h,λh=>uX hd hb e.symm h⟩
 unfold eu
 by_cases x:a<9*b
 · rw[if_pos x,if_pos (h1.1 x)]
   by_cases y:-9*b<a
   · rw[if_pos y,if_pos (h2.1 y)];exact e
   · rw[if_neg y,if_neg (λk=>y (h2.2 k))]
 · rw[if_neg x,if_neg (λk=>x (h1.2 k))]
def Sh.congr {b g:Int}(hb:0<b)(hd:0<d)(e:a*d=c*b)(h:Sh pl a b f g):Sh pl c d f g:=by
 obtain⟨x,y,h1,h2,h3⟩:=h
 obtain⟨O,qr⟩:=vy (t:=aa 6) (iq hb) (iq hd) (Gt hb hd e)
 exact⟨x,y,O▸h1,qr▸h2,h3⟩
def Sh.uniq {b f' c':Int}(h:Sh pl a b f c)(h':Sh pl a b f' c'):f=f'/\c=c':=by
 obtain⟨x,y,h1,h2,_⟩:=h
 obtain⟨_,_,O,qr,_⟩:=h'
 exact⟨(h1.uniq (aZ 6) O).1,(h2.uniq (aZ 6) qr).2⟩
structure Fc (S pl:Nat)(v F C:Int->Int):Prop where
 sh:∀K,Sh pl K ((5*S:Nat):Int) (F K) (C K)
 lo:∀K,F K*aa (5-pl)<=v K
 hi:∀K,v K<=C K*aa (5-pl)
 neg:∀K,F (-K)=aa pl-C K/\C (-K)=aa pl-F K
def X3.fc {S:Nat}{v:Int->Int}(h:X3 S v)(l3:2<=pl)(l5:pl<=5):∃F C,Fc S pl v F C:=by
 have hx:∀K:Int,∃y:Int×Int,SZ pl K ((5*S:Nat):Int) y.1 y.2/\y.1*aa (5-pl)<=v K/\v K<=y.2*aa (5-pl):=λK=>by
  obtain⟨f,c,a⟩:=h.sh K pl l3 l5
  exact⟨(f,c),a⟩
 let y:=λK=>Classical.choose (hx K)
 have hy:∀K,SZ pl K ((5*S:Nat):Int) (y K).1 (y K).2/\(y K).1*aa (5-pl)<=v K/\v K<=(y K).2*aa (5-pl):=λK=>Classical.choose_spec (hx K)
 exact⟨λK=>(y K).1,λK=>(y K).2,λK=>(hy K).1.1,λK=>(hy K).2.1,λK=>(hy K).2.2,λK=>(hy (-K)).1.1.uniq (hy K).1.2⟩
section
variable {S:Nat}{v F C:Int->Int}{K L:Int}
def Fc.bd (h:Fc S pl v F C):0<=F K/\F K<=C K/\C K<=aa pl:=by
 obtain⟨_,_,_,_,a,b,c⟩:=h.sh K
 exact⟨b,a,c⟩
def Fc.le (h:Fc S pl v F C)(hv:X3 S v)(hKL:K<=L):F K<=C L:=Gb (h.lo K) (hv.mono K L hKL) (h.hi L)
end
def Sz (a b:Int):Prop:=a.natAbs<10^12/\0<b/\b<10^12
def Sz.q9 {b:Int}(h:Sz a b):Q9 a b:=dK h.1 h.2.1 h.2.2
def Gu {b:Nat}(p12:pl<=12)(m:Sz n d)(x:Sh pl n d f c)(hbm:au w bm 89 #[.map (some b)])(hbp:au w bp 3 #[.int .i64 ((pl:Nat):Int)])(hbn:au w bn 25 #[S (qR 9 1).1,S (qR 9 1).2])(hbf:au w bf 57 #[.func (.func 68) #[] #[pT bm,pT bp]])(hM:jb w b (vV (yC pl)))(ht:Tb w):
 CL 70 #[QV n d,pT bn,pT bf] w (fp λv w'=>w.grownBy w' (some b)/\jb w' b (vV (yC pl))/\v=IV f (aa pl) c (aa pl)):=by
 obtain⟨_,_,a1,b1,_,_,_⟩:=x
 have z1:=iq (n:=n) m.2.1
 obtain⟨y1,y2⟩:=yD (n:=n) m.2.1
 obtain⟨_,_⟩:=ED z1 (aZ 6) y1 y2
 have t5:=lg (a:=(eu n d).1) (b:=(eu n d).2) (t:=aa 6)
 have O:∀x:Int,-9*aa 6<=x->x<=9*aa 6->x.natAbs<10^12/\x.natAbs<=1000000*(aa 6).natAbs:=by rw[kK];intro x _ _;omega
 have qr:aa 6<10^12:=by rw[kK];decide
 have q1:=yG (n:=n) m.1 m.2.1 m.2.2
 have A1:=a1.call (aZ 6) (O _ U U).1 qr (O _ U U).2 p12
 have B1:=b1.call (aZ 6) (O _ U U).1 qr (O _ U U).2 p12
 have G1:=a1.gf (aZ 6)
 have G2:=b1.gf (aZ 6)
 have hX:∀n d f c,Sp n d pl f c->yC pl (qR n d)=(qR f (aa pl),qR c (aa pl))->∀W,Tb W->CL 69 #[QV n d,.int .i64 ((pl:Nat):Int)] W (aC W λv _=>v=.tuple #[.agg #[S (yC pl (qR n d)).1.1,S (yC pl (qR n d)).1.2,S (yC pl (qR n d)).2.1,S (yC pl (qR n d)).2.2],.int .i64 0]):=by
  intro n d f c hc qn W hW
  rw[qn];exact hc W hW
 have R1:=rl (a:=n) (b0:=d) (Gf:=yC pl) m.q9 q1.1 q1.2 yE yF hbm hbp hbn hbf hM (hX _ _ _ _ A1 G1) (hX _ _ _ _ B1 G2) ht
 rw[G1,G2]at R1
 exact R1
def Oa (pl k:Nat)(c:N2)(N:Int)(d:Nat)(lo hi:Int):Prop:=∃r,N0 (10^(pl+k)) c N d=some r/\r.1/((10^k:Nat):Int)=lo/\vL r.2 ((10^k:Nat):Int)=hi
def KL {S d:Nat}{c:N2}{r:Int×Int}(hS:Sc S)(h:N0 S c N d=some r):r.1.natAbs<10^192/\r.2.natAbs<10^192:=by
 obtain⟨n,O,rfl⟩:=CW h
 obtain⟨_,_⟩:=ET hS O
 obtain⟨_,_⟩:=tj hS
 have h1:(10:Nat)^190+10^190<=10^192:=by decide
 split
 · unfold Ct;exact⟨by simp only;omega,by simp only;omega⟩
 · unfold fE zP;exact⟨by simp only;omega,by simp only;omega⟩
def A9 (ht:0<t)(h:a.natAbs<10^192):(a/t).natAbs<10^193/\(a/t+1).natAbs<10^193/\(vL a t).natAbs<10^193:=by
 have h1:(a/t).natAbs<=a.natAbs+1:=by
  rcases Int.lt_or_le a 0 with h0|h0
  · have h2:a*t<=a:=by
     have:=Int.mul_le_mul_of_nonneg_left (show(1:Int)<=t by omega) (show 0<=-a by omega)
     rw[Int.neg_mul,Int.neg_mul,Int.mul_one]at this
     omega
    have h3:=Int.le_ediv_of_mul_le ht h2
    have h4:=Int.ediv_neg_of_neg_of_pos h0 ht
    omega
  · have h3:=Int.ediv_le_self t h0
    have h4:=Int.ediv_nonneg h0 (Int.le_of_lt ht)
    omega
 have e:(10:Nat)^192+10^192<=10^193:=by decide
 have O:(100:Nat)<=10^192:=by decide
 unfold vL
 refine⟨by omega,by omega,?_⟩
 split <;>omega
def wZ {z:Int}(h:z.natAbs<10^193):Fz z:=Nat.lt_trans h dc
section
variable {lo hi:Int}{d:Nat}{cA cB:N2}
def Oa.bd (hp:pl<=12)(hk:k<=70){c:N2}(h:Oa pl k c N d lo hi):lo.natAbs<10^193/\hi.natAbs<10^193:=by
 obtain⟨r,hr,rfl,rfl⟩:=h
 have t:0<((10^k:Nat):Int):=by have:=Nat.pow_pos (n:=k) (show 0<10 by decide);omega
 have b:=KL (y8 (n:=pl+k) U) hr
 exact⟨(A9 t b.1).1,(A9 t b.2).2.2⟩
def yQ (ha:Fz a):CL 85 #[S (ae a),S [49]] w (aC w λv _=>v=.int .i64 (aG a 1)):=by
 have h:=nE (w:=w) ha A6
 rwa [<-loneD]at h
def Oa.calls (hp:pl<=12)(hk:k<=70){c:N2}(hN:N.natAbs<10^95)(hd:d<10^95)(hd0:0<d)(hc:mX (10^(pl+k)) c)(h:Oa pl k c N d lo hi):∃a b:Int,
 (∀W,CL 186 #[.int .i64 2,.agg #[S (ae N),S (nS d)],.int .i64 0,.int .i64 ((pl+k:Nat):Int)] W (aC W λv _=>v=.tuple #[.agg #[S (ae a),S (ae b)],.bool false]))/\
 (∀W,CL 187 #[S (ae a),S (nS (10^k)),.bool false] W (aC W λv _=>v=S (ae lo)))/\
 (∀W,CL 187 #[S (ae b),S (nS (10^k)),.bool true] W (aC W λv _=>v=S (ae hi)))/\
 (∀W,CL 188 #[S (ae hi),S (ae lo)] W (aC W λv _=>v=S (ae (hi-lo))))/\Fz (hi-lo):=by
 have hb:=h.bd hp hk
 obtain⟨r,hr,rfl,rfl⟩:=h
 have t:0<((10^k:Nat):Int):=by have:=Nat.pow_pos (n:=k) (show 0<10 by decide);omega
 have b:=KL (y8 (n:=pl+k) U) hr
 have z:=Wc (y8 (n:=pl+k) U) hr
 have c1:=A9 t b.1
 have c2:=A9 t b.2
 have tf:Fz ((10^k:Nat):Int):=(y8 (n:=k) U).fi.z
 have hs:Fz (vL r.2 ((10^k:Nat):Int)-r.1/((10^k:Nat):Int)):=by
  have e:(10:Nat)^193+10^193<=10^200:=by decide
  unfold Fz;omega
 exact⟨r.1,r.2,λW=>KC U hN hd hd0 hc hr,λW=>EM Z Z z.1 tf t,λW=>KG Z Z z.2 tf t (wZ c2.2.1),λW=>vr Z Z (wZ c2.2.2) (wZ c1.1) hs,hs⟩
def WL (hp:pl<=12)(h:lo.natAbs<10^193)(W:World):CL 43 #[S (ae lo),S (nS (10^pl))] W (aC W λv _=>v=.tuple #[QV lo (aa pl),.int .i64 0]):=
 Wg Z (show nS (10^pl)=ae (aa pl)from rfl) (wZ h) (y8 (n:=pl) U).fi.z (by have:=aZ pl;omega)
def WM (pl:Nat)(cA cB:N2)(N:Int)(d:Nat)(lo hi:Int):Prop:=(Oa pl 15 cA N d lo hi/\hi-lo<=1)\/∃l1 h1,Oa pl 15 cA N d l1 h1/\¬h1-l1<=1/\Oa pl 40 cB N d lo hi/\hi-lo<=1
def KM (hp:pl<=12)(hN:N.natAbs<10^95)(hd:d<10^95)(hd0:0<d)(hA:mX (10^(pl+15)) cA)(hB:mX (10^(pl+40)) cB)(h:WM pl cA cB N d lo hi):
 CL 155 #[.int .i64 2,.agg #[S (ae N),S (nS d)],.int .i64 0,.int .i64 ((pl:Nat):Int)] w (aC w λv _=>v=.tuple #[IV lo (aa pl) hi (aa pl),.int .i64 0]):=by
 rcases h with⟨h,h1⟩|⟨l1,h1,hr,O,h,h2⟩
 · obtain⟨a,b,f1,qn,A2,A1,qr⟩:=h.calls hp dc hN hd hd0 hA
   have z:=h.bd hp dc
   have O:¬0<aG (hi-lo) 1:=ja U
   exact wY (a2:=[]) (b2:=[]) (l2:=[]) (h2:=[]) (s2:=[]) (c2:=0) hp f1 qn A2 A1 (λW=>yQ qr) (λ_=>WL hp z.1) (λ_=>WL hp z.2) (λk=>absurd k O) (λk=>absurd k O) (λk=>absurd k O) (λk=>absurd k O) (λk=>absurd k O) (λk=>absurd k O) (λk=>absurd k O) (λk=>absurd k O)
 · obtain⟨a,b,f1,qn,A2,A1,qr⟩:=hr.calls hp dc hN hd hd0 hA
   obtain⟨_,_,Am,Ap,Af,Ao,Ad⟩:=h.calls hp dc hN hd hd0 hB
   have z:=h.bd hp dc
   have Ab:0<aG (h1-l1) 1:=ip U
   exact wY hp f1 qn A2 A1 (λW=>yQ qr) (λk=>absurd Ab k) (λk=>absurd Ab k) (λ_=>Am) (λ_=>Ap) (λ_=>Af) (λ_=>Ao) (λ_ W=>yQ Ad) (λ_=>WL hp z.1) (λ_=>WL hp z.2) (λ_=>ja U)
end
def XB (X:(Nat->Bool)->(Nat->Value)->World->Prop)(a t el m:Nat)(cs:Array Value)(ls:Nat->Bool)(e:Nat->Value)(w:World):Prop:=
 X ls e w/\(ls a=true->∃b,e t=.slice (some ⟨b,0,none⟩) m m/\au w b el cs)
section
variable {N:Nat}{ds:List Deferred}{X:(Nat->Bool)->(Nat->Value)->World->Prop}{L:List (Option (Nat×Value))}{ls:Nat->Bool}{e:Nat->Value}{i a t el:Nat}{cs:Array Value}{w' w0:World}
def XB.start (h:X (λ_=>false) e w):XB X a t el m cs (λ_=>false) e w:=⟨h,λh=>by cases h⟩
def dO {dst:Option Nat}{ex:Exit}{a':Act}(h:lO N ds X L ls e i dst ex a' w')(hB:XB X a t el m cs ls e w)(k:∀b,au w b el cs->au w' b el cs)(h1:Nat.beq a i=false:=by rfl)(h3:(match dst with|some d=>Nat.beq t d|none=>false)=false:=by rfl):lO N ds (XB X a t el m cs) L ls e i dst ex a' w':=by
 obtain⟨rfl,v,O,qr,W⟩:=h
 refine⟨rfl,v,O,qr,W,λha=>?_⟩
 rw[fP h1]at ha
 obtain⟨b,p,q⟩:=hB.2 ha
 refine⟨b,?_,k b q⟩
 cases dst with
 |none=>exact p
 |some d=>show upd e d v t=_;rw[jT h3];exact p
def Ba (hl:jS L a=some none)(hX:X (fH ls a) (upd e t (.slice (some ⟨w.heap.size,0,none⟩) m m)) w')(hb:au w' w.heap.size el cs):
 lO N ds (XB X a t el m cs) L ls e a (some t) .normal (act N (upd e t (.slice (some ⟨w.heap.size,0,none⟩) m m)) ds) w':=
 ⟨rfl,_,(aw ..).symm,(λ_ _ h=>by rw[hl]at h;cases h),hX,λ_=>⟨w.heap.size,jg ..,hb⟩⟩
def XB.up {d:Nat}(hB:XB X a t el m cs ls e w)(hX:X (fH ls i) (upd e d v) w')(k:bF w w')(h1:Nat.beq a i=false:=by rfl)(h3:Nat.beq t d=false:=by rfl):XB X a t el m cs (fH ls i) (upd e d v) w':=by
 refine⟨hX,λha=>?_⟩
 rw[fP h1]at ha
 obtain⟨b,p,q⟩:=hB.2 ha
 exact⟨b,by rw[jT h3];exact p,au.ext k q⟩
def XA.up {a s t ty d:Nat}{z u:Array Value}(hX:XA w0 a s t ty z u ls e w)(k:bF w w')(h1:Nat.beq a i=false:=by rfl)(h2:Nat.beq s i=false:=by rfl)(h3:Nat.beq t d=false:=by rfl):XA w0 a s t ty z u (fH ls i) (upd e d v) w':=by
 refine⟨ac4 hX.1 k,λha=>?_⟩
 rw[fP h1]at ha
 obtain⟨b,O,qr,W⟩:=hX.2 ha
 exact⟨b,by rw[jT h3];exact O,qr,by rw[fP h2];exact au.ext k W⟩
def jV {b el:Nat}{cs:List Value}(h:au w b el cs.toArray)(hs:cs.length=m*2)(hm:m<=maxLen:=by decide):w.ownsRow b el 2 (.slice (some ⟨b,0,none⟩) m m) m cs:=
 ⟨hs,.inr ⟨b,m,cs.toArray,rfl,qa0 _,h,qa0 _,hm,by simpa using hs,by rw[List.take_of_length_le (by simp[hs])]⟩⟩
end
def XK (X:(Nat->Bool)->(Nat->Value)->World->Prop)(n0 a1 t1 a t ty:Nat)(z:Array Value)(ls:Nat->Bool)(e:Nat->Value)(w:World):Prop:=
 X ls e w/\(ls a=true->∃b,e t=pT b/\n0<=b/\au w b ty z/\(ls a1=true->e t1≠pT b))
section
variable {N:Nat}{ds:List Deferred}{X:(Nat->Bool)->(Nat->Value)->World->Prop}{Rel:World->Prop}{L:List (Option (Nat×Value))}{ls:Nat->Bool}{e:Nat->Value}{n0 i a t ty a1 t1 ty1:Nat}{z z1:Array Value}{w':World}
def XK.start (h:X (λ_=>false) e w):XK X n0 a1 t1 a t ty z (λ_=>false) e w:=⟨h,λh=>by cases h⟩
def r9 {d:Nat}{ex:Exit}{a':Act}(h:lO N ds X L ls e i (some d) ex a' w')(hK:XK X n0 a1 t1 a t ty z ls e w)(k:∀b,n0<=b->au w b ty z->au w' b ty z)(h1:Nat.beq a i=false:=by rfl)(h2:Nat.beq a1 i=false:=by rfl)(h3:Nat.beq t d=false:=by rfl)(h4:Nat.beq t1 d=false:=by rfl):
 lO N ds (XK X n0 a1 t1 a t ty z) L ls e i (some d) ex a' w':=by
 obtain⟨rfl,v,O,qr,W⟩:=h
 refine⟨rfl,v,O,qr,W,λha=>?_⟩
 rw[fP h1]at ha
 obtain⟨b,p,q,r,s⟩:=hK.2 ha
 refine⟨b,?_,q,k b q r,λhb=>?_⟩
 · show upd e d v t=_;rw[jT h3];exact p
 · rw[fP h2]at hb
   show upd e d v t1≠_;rw[jT h4];exact s hb
def Wl (hl:jS L a1=some none)(hX:X (fH ls a1) (upd e t1 (pT w.heap.size)) w')(hK:XK X n0 a1 t1 a t ty z ls e w)(k:∀b,n0<=b->au w b ty z->au w' b ty z)(h1:Nat.beq a a1=false:=by rfl)(h3:Nat.beq t t1=false:=by rfl):
 lO N ds (XK X n0 a1 t1 a t ty z) L ls e a1 (some t1) .normal (act N (upd e t1 (pT w.heap.size)) ds) w':=by
 refine⟨rfl,_,(aw ..).symm,(λ_ _ h=>by rw[hl]at h;cases h),hX,λha=>?_⟩
 rw[fP h1]at ha
 obtain⟨b,p,q,r,s⟩:=hK.2 ha
 refine⟨b,?_,q,k b q r,λ_=>?_⟩
 · show upd e t1 _ t=_;rw[jT h3];exact p
 · show upd e t1 _ t1≠_
   rw[jg]
   intro O
   have:=au.lt r
   injection O with O;injection O with O;injection O with O
   omega
def Wm (hl:jS L a=some none)(hX:X (fH ls a) (upd e t (pT w.heap.size)) w')(hn:n0<=w.heap.size)(hb:au w' w.heap.size ty z)(hne:ls a1=true->e t1≠pT w.heap.size)(h1:Nat.beq a1 a=false:=by rfl)(h3:Nat.beq t1 t=false:=by rfl):
 lO N ds (XK X n0 a1 t1 a t ty z) L ls e a (some t) .normal (act N (upd e t (pT w.heap.size)) ds) w':=by
 refine⟨rfl,_,(aw ..).symm,(λ_ _ h=>by rw[hl]at h;cases h),hX,λ_=>⟨w.heap.size,?_,hn,hb,λhb=>?_⟩⟩
 · show upd e t _ t=_;rw[jg]
 · rw[fP h1]at hb
   show upd e t _ t1≠_
   rw[jT h3];exact hne hb
def XH.new (hX:XH Rel n0 a1 t1 ty1 z1 ls e w)(h:Rel w')(k:bF w w')(hb:au w' w.heap.size ty1 z1):XH Rel n0 a1 t1 ty1 z1 (fH ls a1) (upd e t1 (pT w.heap.size)) w':=
 ⟨h,qa8 hX.2.1 k.size,λ_=>⟨w.heap.size,jg ..,hX.2.1,hb⟩⟩
def XH.keep {d:Nat}(hX:XH Rel n0 a1 t1 ty1 z1 ls e w)(h:Rel w')(k:bF w w')(h1:Nat.beq a1 i=false:=by rfl)(h3:Nat.beq t1 d=false:=by rfl):XH Rel n0 a1 t1 ty1 z1 (fH ls i) (upd e d v) w':=by
 refine⟨h,qa8 hX.2.1 k.size,λha=>?_⟩
 rw[fP h1]at ha
 obtain⟨b,p,q,r⟩:=hX.2.2 ha
 exact⟨b,by rw[jT h3];exact p,q,r.ext k⟩
def XH.ne (hX:XH Rel n0 a1 t1 ty1 z1 ls e w)(ha:ls a1=true):e t1≠pT w.heap.size:=by
 obtain⟨b,p,q,r⟩:=hX.2.2 ha
 rw[p]
 intro O
 have:=au.lt r
 injection O with O;injection O with O;injection O with O
 omega
def KN {b c:Nat}(h1:v=pT b)(h2:v≠pT c):b≠c:=λh=>h2 (by rw[h1,h])
end
end
section
set_option maxRecDepth 100000
open Go Go.Eng Go.RowKit Proofs.Tryz
attribute [local irreducible] wpListIn Code.wpIn Oper.wpIn Exit.then Exit.inBlock Exit.noGoto
set_option maxHeartbeats 40000000
def Tb.low (h:Tb w):∀{W W':World} {c:Nat},fU W W' c->w.heap.size<=c->Tb W->Tb W':=by
 unfold Tb at *
 obtain⟨x,hx⟩:=h
 intro W W' c k hc ⟨y,hy⟩
 have O:=(Array.getElem?_eq_some_iff.1 hx).1
 exact⟨y,(k.block _ U).trans hy⟩
structure cR (w:World)(n0 b bm bp bn bf pl:Nat):Prop where
 mp:jb w b (vV (yC pl))
 hm:au w bm 89 #[.map (some b)]
 hp:au w bp 3 #[.int .i64 pl]
 hn:au w bn 25 #[S (qR 9 1).1,S (qR 9 1).2]
 hf:au w bf 57 #[.func (.func 68) #[] #[pT bm,pT bp]]
 tb:Tb w
 tp:∀{W W':World} {c:Nat},fU W W' c->n0<=c->Tb W->Tb W'
 lt:b<n0/\bm<n0/\bp<n0/\bn<n0/\bf<n0
section
variable {w':World}{n0 b c:Nat}
def cR.ext (k:bF w w')(h:cR w n0 b bm bp bn bf pl):cR w' n0 b bm bp bn bf pl:=⟨h.mp.ext k,h.hm.ext k,h.hp.ext k,h.hn.ext k,h.hf.ext k,h.tb.ext k,h.tp,h.lt⟩
def aa5:=@cR.ext
def cR.put (k:fU w w' c)(hc:n0<=c)(h:cR w n0 b bm bp bn bf pl):cR w' n0 b bm bp bn bf pl:=by
 have l:=h.lt
 exact⟨h.mp.put k U,pb k h.hm,pb k h.hp,pb k h.hn,pb k h.hf,h.tp k hc h.tb,h.tp,l⟩
def ab4:=@cR.put
def cR.gr (k:w.grownBy w' (some b))(hm:jb w' b (vV (yC pl)))(h:cR w n0 b bm bp bn bf pl):cR w' n0 b bm bp bn bf pl:=
 ⟨hm,aa0 k (λe=>by cases e;exact absurd Z (jb.ne h.mp h.hm)) h.hm,aa0 k (λe=>by cases e;exact absurd Z (jb.ne h.mp h.hp)) h.hp,aa0 k (λe=>by cases e;exact absurd Z (jb.ne h.mp h.hn)) h.hn,aa0 k (λe=>by cases e;exact absurd Z (jb.ne h.mp h.hf)) h.hf,Tb.grm k h.mp h.tb,h.tp,h.lt⟩
def nF {c:Int}(p12:pl<=12)(m:Sz n d)(x:Sh pl n d f c)(h:cR w n0 b bm bp bn bf pl):
 CL 70 #[QV n d,pT bn,pT bf] w (fp λv w'=>w.grownBy w' (some b)/\cR w' n0 b bm bp bn bf pl/\v=IV f (aa pl) c (aa pl)):=
 (Gu p12 m x h.hm h.hp h.hn h.hf h.mp h.tb).mono λe W' hr=>by
  match e,hr with
  | .returned v,⟨g,hm,hv⟩=>exact⟨g,h.gr g hm,hv⟩
end
def Bb {n:Nat}{l:List R}{M:Nat->R}{k:Nat->Int}(hr:Rw w lo A (eX l))(hn:l.length=n)(h1:1<=n)(hb:n<=1000)(hM1:M 1=iw l 0)(hM:∀i,1<=i->i<n->M (i+1)=sB (decide (k i<0)) (M i) (iw l i))(hc:∀i,1<=i->i<n->∀W,bF w W->CL 77 #[.agg #[S (iw l i).1,S (iw l i).2],.agg #[S (M i).1,S (M i).2]] W (aC W λv _=>v=.int .i64 (k i))):
 CL 82 #[.slice A n cp,.func (.func 77) #[] #[]] w (aC w λv w'=>v=.agg #[S (M n).1,S (M n).2]):=by
 obtain⟨LX,Am,hA0,Ax⟩:=ik hr (i:=0) U;refine aE func82 Z (I ?_);refine al aQ (λE0 Ao O=>?_);have A1:=Ao.2;refine I ?_;refine ac (ah (i:=0) (oo:=Am+0*2) kS aM Z hA0 Z U Z ?_);refine ac (ar (cs:=[S (iw l 0).1,S (iw l 0).2]) (b:=LX) (o:=Am+0*2) eB Z aM Z (λj u A2=>ac1 A1 (Ax j u A2)) ?_);refine al aQ (λ_ E1 ny=>?_);have⟨O,A1⟩:=bD E1.2 O A1;refine SA ny (λod Ad qn=>?_);have O:=pb Ad O;have A1:=bB Ad A1;refine I ?_;refine JT [(6,6),(14,31)] (λAr e W=>∃i:Nat,(n-i=Ar)/\(e 6=.int .i64 i)/\(1<=i/\i<=n)/\(od.heap.size<=W.heap.size)/\(bF w W)/\(au W w.heap.size 25 #[S [],S []])/\(au W E0.heap.size 25 #[S ((M i).1),S ((M i).2)])) (n-1) ⟨1,rfl,rfl,U,(qa0 _),A1,O,(by rw[hM1];exact qn)⟩ ?_;rintro _ _ _ ⟨i,rfl,E4,hi,E7,qr,O,qn⟩;by_cases h0:i<n;obtain⟨bk1,o1,hA1,Ab⟩:=ik hr (i:=i) U;refine I ?_;refine bY 6 ?_;refine sf ?_;refine bl (λ_ _ _ _=>by refine ac (ah (i:=i) (oo:=o1+i*2) kS aM Z hA1 Z U Z ?_);refine I ?_;exact cz) ?_;refine bl (λ_ _ Ap _=>by refine ac (ar (cs:=[S (iw l i).1,S (iw l i).2]) (b:=bk1) (o:=o1+i*2) eB Z aM Z (λj u A2=>ac1 (xt qr Ap) (Ab j u A2)) ?_);refine I ?_;exact cz) ?_;refine sf ?_;intro _ _ Aw _
 have⟨O,qn,qr⟩:=bC Aw.2 O qn qr;refine ac (uo (vs:=[.agg #[S (iw l i).1,S (iw l i).2],.agg #[S (M i).1,S (M i).2]]) (lb:=[]) ko Z Z (hc i U U _ qr) ?_);rintro _ _ Ay rfl;have⟨O,qn,qr⟩:=bC Ay.2 O qn qr;refine I ?_;by_cases cy:(k i)<0;refine I ?_;refine ac (ah (i:=i) (oo:=o1+i*2) kS aM Z hA1 Z U Z ?_);refine ac (ar (cs:=[S (iw l i).1,S (iw l i).2]) (b:=bk1) (o:=o1+i*2) eB Z aM Z (λj u A2=>ac1 qr (Ab j u A2)) ?_);refine SA qn (λ_ As Av=>?_);have⟨O,qr,_⟩:=ks As O qr;refine I ?_;refine ac (bb (a:=(i:Int)) (b:=1) (c:=((i+1:Nat):Int)) Z Z L7 U ?_);refine I ?_;exact c6 ⟨i+1,rfl,rfl,U,U,qr,O,(by rw[hM i U U,ri (decide_eq_true cy)];exact Av)⟩;refine I ?_;refine ac (bb (a:=(i:Int)) (b:=1) (c:=((i+1:Nat):Int)) Z Z L7 U ?_);refine I ?_;exact c6 ⟨i+1,rfl,rfl,U,U,qr,O,(by rw[hM i U U,rj (decide_eq_false cy)];exact qn)⟩;obtain rfl:i=n:=J
 refine I ?_;refine SA O (λ_ Af Aq=>?_);have qn:=pb Af qn;have qr:=bB Af qr;refine I ?_;refine aI (v:=.agg #[S ((M i).1),S ((M i).2)]) (cF  rfl ?_) qr Z;refine ag (t:=4) (cs:=[S ((M i).1),S ((M i).2)]) (b:=w.heap.size) (o:=0) eB Z aM ?_ ?_;exact Z;exact aa1 Aq (i:=0) Z
def Bc {n:Nat}{l:List R}{M:Nat->R}{k:Nat->Int}(hr:Rw w lo A (eX l))(hn:l.length=n)(h1:1<=n)(hb:n<=1000)(hM1:M 1=iw l 0)(hM:∀i,1<=i->i<n->M (i+1)=sB (decide (0<k i)) (M i) (iw l i))(hc:∀i,1<=i->i<n->∀W,bF w W->CL 77 #[.agg #[S (iw l i).1,S (iw l i).2],.agg #[S (M i).1,S (M i).2]] W (aC W λv _=>v=.int .i64 (k i))):
 CL 104 #[.slice A n cp,.func (.func 77) #[] #[]] w (aC w λv w'=>v=.agg #[S (M n).1,S (M n).2]):=by
 obtain⟨LX,Am,hA0,Ax⟩:=ik hr (i:=0) U;refine aE func104 Z (I ?_);refine al aQ (λE0 Ao O=>?_);have A1:=Ao.2;refine I ?_;refine ac (ah (i:=0) (oo:=Am+0*2) kS aM Z hA0 Z U Z ?_);refine ac (ar (cs:=[S (iw l 0).1,S (iw l 0).2]) (b:=LX) (o:=Am+0*2) eB Z aM Z (λj u A2=>ac1 A1 (Ax j u A2)) ?_);refine al aQ (λ_ E1 ny=>?_);have⟨O,A1⟩:=bD E1.2 O A1;refine SA ny (λod Ad qn=>?_);have O:=pb Ad O;have A1:=bB Ad A1;refine I ?_;refine JT [(6,6),(14,31)] (λAr e W=>∃i:Nat,(n-i=Ar)/\(e 6=.int .i64 i)/\(1<=i/\i<=n)/\(od.heap.size<=W.heap.size)/\(bF w W)/\(au W w.heap.size 25 #[S [],S []])/\(au W E0.heap.size 25 #[S ((M i).1),S ((M i).2)])) (n-1) ⟨1,rfl,rfl,U,(qa0 _),A1,O,(by rw[hM1];exact qn)⟩ ?_;rintro _ _ _ ⟨i,rfl,E4,hi,E7,qr,O,qn⟩;by_cases h0:i<n;obtain⟨bk1,o1,hA1,Ab⟩:=ik hr (i:=i) U;refine I ?_;refine bY 6 ?_;refine sf ?_;refine bl (λ_ _ _ _=>by refine ac (ah (i:=i) (oo:=o1+i*2) kS aM Z hA1 Z U Z ?_);refine I ?_;exact cz) ?_;refine bl (λ_ _ Ap _=>by refine ac (ar (cs:=[S (iw l i).1,S (iw l i).2]) (b:=bk1) (o:=o1+i*2) eB Z aM Z (λj u A2=>ac1 (xt qr Ap) (Ab j u A2)) ?_);refine I ?_;exact cz) ?_;refine sf ?_;intro _ _ Aw _
 have⟨O,qn,qr⟩:=bC Aw.2 O qn qr;refine ac (uo (vs:=[.agg #[S (iw l i).1,S (iw l i).2],.agg #[S (M i).1,S (M i).2]]) (lb:=[]) ko Z Z (hc i U U _ qr) ?_);rintro _ _ Ay rfl;have⟨O,qn,qr⟩:=bC Ay.2 O qn qr;refine I ?_;by_cases cy:0<(k i);refine I ?_;refine ac (ah (i:=i) (oo:=o1+i*2) kS aM Z hA1 Z U Z ?_);refine ac (ar (cs:=[S (iw l i).1,S (iw l i).2]) (b:=bk1) (o:=o1+i*2) eB Z aM Z (λj u A2=>ac1 qr (Ab j u A2)) ?_);refine SA qn (λ_ As Av=>?_);have⟨O,qr,_⟩:=ks As O qr;refine I ?_;refine ac (bb (a:=(i:Int)) (b:=1) (c:=((i+1:Nat):Int)) Z Z L7 U ?_);refine I ?_;exact c6 ⟨i+1,rfl,rfl,U,U,qr,O,(by rw[hM i U U,ri (decide_eq_true cy)];exact Av)⟩;refine I ?_;refine ac (bb (a:=(i:Int)) (b:=1) (c:=((i+1:Nat):Int)) Z Z L7 U ?_);refine I ?_;exact c6 ⟨i+1,rfl,rfl,U,U,qr,O,(by rw[hM i U U,rj (decide_eq_false cy)];exact qn)⟩;obtain rfl:i=n:=J
 refine I ?_;refine SA O (λ_ Af Aq=>?_);have qn:=pb Af qn;have qr:=bB Af qr;refine I ?_;refine aI (v:=.agg #[S ((M i).1),S ((M i).2)]) (cF  rfl ?_) qr Z;refine ag (t:=4) (cs:=[S ((M i).1),S ((M i).2)]) (b:=w.heap.size) (o:=0) eB Z aM ?_ ?_;exact Z;exact aa1 Aq (i:=0) Z
def nZ {p:Prop}(h:p:=by kernel_rfl):p:=h
def dP :bF w w:=aa2 _
def Wn {x y:Int}(hT:0<T):li 0 1 (x*T-y*T) (T*T)=qR (max 0 (x-y)) T:=by
 have hTT:=Int.mul_pos hT hT
 unfold li
 by_cases h:0<x-y
 · rw[ri (decide_eq_true (ip ?_)),show max 0 (x-y)=x-y by omega]
   · exact aU hTT hT ka5
   · rw[Int.zero_mul,Int.mul_one,<-Int.sub_mul];exact Int.mul_pos h hT
 · rw[rj (decide_eq_false (ja ?_)),show max 0 (x-y)=0 by omega]
   · exact aU dc hT U
   · rw[Int.zero_mul,Int.mul_one,<-Int.sub_mul]
     intro k
     have:=Int.mul_le_mul_of_nonneg_right (show x-y<=0 by omega) (Int.le_of_lt hT)
     omega
def PF {x y:Int}(h1:x.natAbs<=10^12)(h2:y.natAbs<=10^12)(h0:0<T)(h3:T<=10^12):Q9 (x*T-y*T) (T*T):=by
 have O:(x*T-y*T).natAbs<=10^13*10^12:=by
  rw[<-Int.sub_mul,Int.natAbs_mul]
  exact qb7 U U
 have qr:(T*T).natAbs<=10^12*10^12:=by
  rw[Int.natAbs_mul]
  exact qb7 U U
 refine⟨Nat.lt_of_le_of_lt O dc,Int.mul_pos h0 h0,?_⟩
 have:0<=T*T:=Int.le_of_lt (Int.mul_pos h0 h0)
 omega
def KO:Q9 0 1:=⟨by decide,by decide,by decide⟩
def S0:Q9 1 1:=⟨by decide,by decide,by decide⟩
set_option maxRecDepth 100000 in
def Ob {xa xb ya yb va vb sa sb n1 d1 n2 d2 f1 f2:Int}{n0 b:Nat}(p12:pl<=12)(hT0:0<aa pl)(qx:Q9 xa xb)(qy:Q9 ya yb)(qv:Q9 va vb)(qs:Q9 sa sb)(hs0:0<sa)(r1:Q9 (ya*vb-va*yb) (yb*vb))(r2:Q9 (xa*vb-va*xb) (xb*vb))(e1:qR ((ya*vb-va*yb)*sb) (yb*vb*sa)=qR n1 d1)(e2:qR ((xa*vb-va*xb)*sb) (xb*vb*sa)=qR n2 d2)(m1:Sz n1 d1)(m2:Sz n2 d2)(x1:Sh pl n1 d1 f1 c1)(x2:Sh pl n2 d2 f2 c2)(qf1:Q9 f1 (aa pl))(qc1:Q9 c1 (aa pl))(qf2:Q9 f2 (aa pl))(qc2:Q9 c2 (aa pl))(qA:Q9 (f1*aa pl-c2*aa pl) (aa pl*aa pl))(qB:Q9 (c1*aa pl-f2*aa pl) (aa pl*aa pl))(hT:cR w n0 b bm bp bn bf pl)(hn0:n0<=w.heap.size):
 CL 32 #[.agg #[.int .i64 pl,.func (.func 70) #[] #[pT bn,pT bf]],IV xa xb ya yb,QV va vb,QV sa sb] w (fp λv w'=>w.grownBy w' (some b)/\cR w' n0 b bm bp bn bf pl/\v=IV (max 0 (f1-c2)) (aa pl) (max 0 (c1-f2)) (aa pl)):=by
 have G:=World.grownBy.refl w (some b);have i9:=hT.lt;refine nM func32 Z (I ?_);refine bx (λwr Zs O=>?_);have hT:=aa5 Zs.2 hT;have G:=aS G Zs.2;refine bx (λ_ ZK qr=>?_);have hT:=aa5 ZK.2 hT;have O:=be ZK.2 O;have G:=aS G ZK.2;refine bx (λ_ Z0 qn=>?_);have hT:=aa5 Z0.2 hT;have⟨O,qr⟩:=jk Z0.2 O qr;have G:=aS G Z0.2;refine bx (λg5 Z9 A2=>?_);have hT:=aa5 Z9.2 hT;have⟨O,qr,qn⟩:=rQ Z9.2 O qr qn;have G:=aS G Z9.2;refine al ap (λE0 ZA Aw=>?_);have hT:=aa5 ZA.2 hT;have⟨O,qr,qn,A2⟩:=DW ZA.2 O qr qn A2;have G:=aS G ZA.2;refine I ?_
 refine kJ g8 18 [9,10,11,12,13,14,15,16,17,18,19,20,21,22,23,24,25,26] [some (11,.pointer (some ⟨w.heap.size,1,none⟩)),some (12,.func (.func 70) #[] #[pT bn,pT bf]),some (13,.pointer (some ⟨wr.heap.size,2,none⟩)),some (14,QV ya yb),some (15,QV va vb),some (16,QV sa sb),some (17,QV n1 d1),some (18,IV f1 (aa pl) c1 (aa pl)),some (19,.pointer (some ⟨w.heap.size,1,none⟩)),some (20,.func (.func 70) #[] #[pT bn,pT bf]),some (21,pT wr.heap.size),some (22,QV xa xb),some (23,QV va vb),some (24,QV sa sb),some (25,QV n2 d2),some (26,IV f2 (aa pl) c2 (aa pl)),none,none] (XK (XH (λW=>E0.grownBy W (some b)/\cR W n0 b bm bp bn bf pl) E0.heap.size 16 9 33 #[S [],S [],S [],S []]) E0.heap.size 16 9 17 10 33 #[S [],S [],S [],S []]) (XK.start (XH.start ⟨aS (World.grownBy.refl E0 _) (aa8 E0),aa5 (aa8 E0) hT⟩)) nZ nZ nZ ?_ ?_;refine⟨λf0 _ _ ct _ W0 _ _ _=>?_,?_⟩;obtain⟨f0,rfl⟩:=aT ct;refine ac (ak (b:=w.heap.size) (o:=0) (off:=1) (oo:=1) rJ Z Z oi Z Z ?_);refine I ?_;exact r9 (c7 Z W0.1 W0.1.1 dP) W0 (λb _ h=>h);refine⟨λhF _ _ hD hG T2 _ _ _=>?_,?_⟩;obtain⟨hF,rfl⟩:=aT hD;have kc:=ba (hG 0 _ _ Z Z);have j2:=(aa0 T2.1.1.1 Hx O);refine I ?_
 exact r9 (c7 Z T2.1 T2.1.1 dP) T2 (λb _ h=>h);refine⟨λg0 _ _ a4 _ W1 _ _ _=>?_,?_⟩;obtain⟨g0,rfl⟩:=aT a4;refine I ?_;exact r9 (c7 Z W1.1 W1.1.1 dP) W1 (λb _ h=>h);refine⟨λarr _ _ h5 hw F5 _ _ _=>?_,?_⟩;obtain⟨arr,rfl⟩:=aT h5;have k8:=ba (hw 2 _ _ Z Z);have kL:=(aa0 F5.1.1.1 Hx qr);refine I ?_;exact r9 (c7 Z F5.1 F5.1.1 dP) F5 (λb _ h=>h);refine⟨λd4 _ _ a5 _ Jx _ _ _=>?_,?_⟩;obtain⟨d4,rfl⟩:=aT a5;have k1:=(aa0 Jx.1.1.1 Hx qn);refine I ?_;exact r9 (c7 Z Jx.1 Jx.1.1 dP) Jx (λb _ h=>h);refine⟨λf7 _ _ gb _ G4 _ _ _=>?_,?_⟩;obtain⟨f7,rfl⟩:=aT gb;have i5:=(aa0 G4.1.1.1 Hx A2);refine I ?_;exact r9 (c7 Z G4.1 G4.1.1 dP) G4 (λb _ h=>h);refine⟨λhK _ _ e3 ZJ Ax _ _ _=>?_,?_⟩;obtain⟨hK,rfl⟩:=aT e3;have hY:=ba (ZJ 3 _ _ Z Z);have a0:=ba (ZJ 4 _ _ Z Z);have aH:=ba (ZJ 5 _ _ Z Z);have hT:=Ax.1.1.2;have G:=aY G Ax.1.1.1;refine clb xx (hc:=fM (Y:=QV n1 d1) (ni qy qv qs r1 hs0 (cR.tb hT)) (by rw[e1])) (hk:=?_) (hv:=ai hY (ai a0 (ai aH Z)));rintro _ _ F1 rfl;have G:=aS G F1.2;refine I ?_
 exact r9 (c7 Z Ax.1 ⟨aS Ax.1.1.1 F1.2,aa5 F1.2 Ax.1.1.2⟩ F1.2) Ax (λb _ h=>be F1.2 h);refine⟨λhE _ _ ad Zt Ab _ _ _=>?_,?_⟩;obtain⟨hE,rfl⟩:=aT ad;have h7:=ba (Zt 1 _ _ Z Z);have bH:=ba (Zt 6 _ _ Z Z);have O:=(aa0 Ab.1.1.1 Hx O);have qr:=(aa0 Ab.1.1.1 Hx qr);have qn:=(aa0 Ab.1.1.1 Hx qn);have A2:=(aa0 Ab.1.1.1 Hx A2);have Aw:=(aa0 Ab.1.1.1 Hx Aw);have hT:=Ab.1.1.2;have ed:=bt O;have cw:=bt qr;have fu:=bt qn;have a3:=bt A2;have h0:=bt Aw;have G:=aY G Ab.1.1.1;refine ac (jc (vs:=[QV n1 d1]) (lb:=[pT bn,pT bf]) qK h7 (ai bH Z) (nF p12 m1 x1 hT) ?_);rintro _ _ ⟨T4,dn,rfl⟩;have G:=aY G T4;refine I ?_;exact r9 (JR Z Ab.1 ⟨aY Ab.1.1.1 T4,dn⟩ T4 (λg Z5=>by cases Z5;omega)) Ab (λb hb h=>aa0 T4 Hx h);refine⟨λbL _ _ an _ W3 _ _ _=>?_,?_⟩;obtain⟨bL,rfl⟩:=aT an;refine ac (ak (b:=w.heap.size) (o:=0) (off:=1) (oo:=1) rJ Z Z oi Z Z ?_);refine I ?_;exact r9 (c7 Z W3.1 W3.1.1 dP) W3 (λb _ h=>h);refine⟨λf3 _ _ hH hZ K2 _ _ _=>?_,?_⟩;obtain⟨f3,rfl⟩:=aT hH;have k2:=ba (hZ 8 _ _ Z Z);have j3:=(aa0 K2.1.1.1 Hx O);refine I ?_
 exact r9 (c7 Z K2.1 K2.1.1 dP) K2 (λb _ h=>h);refine⟨λg2 _ _ hC _ Wb _ _ _=>?_,?_⟩;obtain⟨g2,rfl⟩:=aT hC;refine I ?_;exact r9 (c7 Z Wb.1 Wb.1.1 dP) Wb (λb _ h=>h);refine⟨λcr _ _ dq Zx L2 _ _ _=>?_,?_⟩;obtain⟨cr,rfl⟩:=aT dq;have hz:=ba (Zx 10 _ _ Z Z);have kH:=(aa0 L2.1.1.1 Hx qr);refine I ?_;exact r9 (c7 Z L2.1 L2.1.1 dP) L2 (λb _ h=>h);refine⟨λgn _ _ ask _ F6 _ _ _=>?_,?_⟩;obtain⟨gn,rfl⟩:=aT ask;have j1:=(aa0 F6.1.1.1 Hx qn);refine I ?_;exact r9 (c7 Z F6.1 F6.1.1 dP) F6 (λb _ h=>h);refine⟨λhS _ _ hA _ N1 _ _ _=>?_,?_⟩;obtain⟨hS,rfl⟩:=aT hA;have k5:=(aa0 N1.1.1.1 Hx A2);refine I ?_;exact r9 (c7 Z N1.1 N1.1.1 dP) N1 (λb _ h=>h);refine⟨λhR _ _ bq ZG E1 _ _ _=>?_,?_⟩;obtain⟨hR,rfl⟩:=aT bq;have cT:=ba (ZG 11 _ _ Z Z);have a6:=ba (ZG 12 _ _ Z Z);have en:=ba (ZG 13 _ _ Z Z);have hT:=E1.1.1.2;have G:=aY G E1.1.1.1;refine clb xx (hc:=fM (Y:=QV n2 d2) (ni qx qv qs r2 hs0 (cR.tb hT)) (by rw[e2])) (hk:=?_) (hv:=ai cT (ai a6 (ai en Z)));rintro _ _ EE rfl;have G:=aS G EE.2;refine I ?_
 exact r9 (c7 Z E1.1 ⟨aS E1.1.1.1 EE.2,aa5 EE.2 E1.1.1.2⟩ EE.2) E1 (λb _ h=>be EE.2 h);refine⟨λet _ _ hL ZN Am _ _ _=>?_,?_⟩;obtain⟨et,rfl⟩:=aT hL;have ab:=ba (ZN 9 _ _ Z Z);have fl:=ba (ZN 14 _ _ Z Z);have O:=(aa0 Am.1.1.1 Hx O);have qr:=(aa0 Am.1.1.1 Hx qr);have qn:=(aa0 Am.1.1.1 Hx qn);have A2:=(aa0 Am.1.1.1 Hx A2);have Aw:=(aa0 Am.1.1.1 Hx Aw);have hT:=Am.1.1.2;have ed:=bt O;have cw:=bt qr;have fu:=bt qn;have a3:=bt A2;have h0:=bt Aw;have G:=aY G Am.1.1.1;refine ac (jc (vs:=[QV n2 d2]) (lb:=[pT bn,pT bf]) qK ab (ai fl Z) (nF p12 m2 x2 hT) ?_);rintro _ _ ⟨F7,f9,rfl⟩;have G:=aY G F7;refine I ?_;exact r9 (JR Z Am.1 ⟨aY Am.1.1.1 F7,f9⟩ F7 (λg Z5=>by cases Z5;omega)) Am (λb hb h=>aa0 F7 Hx h);refine⟨λhP _ _ fi _ EW _ _ _=>?_,?_⟩;obtain⟨hP,rfl⟩:=aT fi;have G:=aY G EW.1.1.1;refine al ap (λ_ EP dd=>?_);have G:=aS G EP.2;refine I ?_;exact Wl Z (XH.new EW.1 ⟨aS EW.1.1.1 EP.2,aa5 EP.2 EW.1.1.2⟩ EP.2 dd) EW (λb _ h=>be EP.2 h);refine⟨λgr _ _ b7 _ Ay _ _ _=>?_,?_⟩;obtain⟨gr,rfl⟩:=aT b7;have G:=aY G Ay.1.1.1;refine al ap (λ_ R1 er=>?_);have G:=aS G R1.2
 refine I ?_;exact Wm Z (XH.keep Ay.1 ⟨aS Ay.1.1.1 R1.2,aa5 R1.2 Ay.1.1.2⟩ R1.2) Ay.1.2.1 er (XH.ne Ay.1);exact trivial;intro ZL _ _ Z8 h6 Zv Ao;obtain⟨ZL,rfl⟩:=aT h6;have Af:=Ao.1.1.2;have F4:=(aa0 Ao.1.1.1 Hx O);have E4:=(aa0 Ao.1.1.1 Hx qr);have E7:=(aa0 Ao.1.1.1 Hx qn);have E9:=(aa0 Ao.1.1.1 Hx A2);have F2:=(aa0 Ao.1.1.1 Hx Aw);have G:=aY G Ao.1.1.1;obtain⟨ZC,Ne,_,hV⟩:=Ao.1.2.2 (Z8 16 Z);obtain⟨Z6,Z1,_,ZH,ZT⟩:=Ao.2 (Z8 17 Z);have ZT:=KN Ne (ZT (Z8 16 Z));have Z1:=ba Z1;have Ne:=ba Ne;have kl:ZL 9=pT ZC:=(Ne);have k4:=ba (Zv 7 _ _ Z Z);refine SA hV (λ_ Ix Ek=>?_);have Af:=ab4 Ix U Af;have⟨F4,E4,E7,E9,F2⟩:=jv Ix F4 E4 E7 E9 F2;have ZH:=pb Ix ZH;have G:=de G Ix U;have i0:ZL 10=pT Z6:=(Z1);have i3:=ba (Zv 15 _ _ Z Z);refine SA ZH (λZB TT Wa=>?_);have Af:=ab4 TT U Af;have⟨F4,E4,E7,E9,F2⟩:=jv TT F4 E4 E7 E9 F2;have Ek:=pb TT Ek;have G:=de G TT U;refine I ?_;have ZZ:=aa2 ZB
 refine kJ g8 19 [27,28,29,30,31,32,33,34,35,36,37,38,39,40,41,42,43,44,45] [some (27,QV 0 1),some (28,pT ZC),some (29,QV f1 (aa pl)),some (30,.pointer (some ⟨Z6,2,none⟩)),some (31,QV c2 (aa pl)),some (32,.tuple #[QV (f1*aa pl-c2*aa pl) (aa pl*aa pl),.int .i64 0]),some (33,QV (f1*aa pl-c2*aa pl) (aa pl*aa pl)),some (34,.int .i64 0),some (35,QV (f1*aa pl-c2*aa pl) (aa pl*aa pl)),none,some (37,QV (max 0 (f1-c2)) (aa pl)),some (38,QV 0 1),some (39,.pointer (some ⟨ZC,2,none⟩)),some (40,QV c1 (aa pl)),some (41,pT Z6),some (42,QV f2 (aa pl)),some (43,.tuple #[QV (c1*aa pl-f2*aa pl) (aa pl*aa pl),.int .i64 0]),some (44,QV (c1*aa pl-f2*aa pl) (aa pl*aa pl)),some (45,.int .i64 0)] (XB (XE ZB) 9 36 25 2 #[S (qR 0 1).1,S (qR 0 1).2,S ((qR (f1*aa pl-c2*aa pl) (aa pl*aa pl)).1),S ((qR (f1*aa pl-c2*aa pl) (aa pl*aa pl)).2)]) (XB.start (aa8 ZB)) nZ nZ nZ ?_ ?_;refine⟨λhg _ _ fy _ ZD _ _ _=>?_,?_⟩;obtain⟨hg,rfl⟩:=aT fy;have h8:=(aa5 ZD.1 Af);refine clb gQ (hc:=eA (n:=0) Rg (cR.tb h8)) (hk:=?_);rintro _ _ ZS rfl;refine I ?_;exact dO (dX Z ZD.1 ZS.2) ZD (λ_ h=>be ZS.2 h);refine⟨λfD _ _ gs _ Zl _ _ _=>?_,?_⟩
 obtain⟨fD,rfl⟩:=aT gs;refine I ?_;exact dO (dX Z Zl.1 dP) Zl (λ_ h=>be dP h);refine⟨λZw _ _ hX d3 ZE _ _ _=>?_,?_⟩;obtain⟨Zw,rfl⟩:=aT hX;have kF:=ba (d3 1 _ _ Z Z);have kC:=(be ZE.1 Ek);refine I ?_;exact dO (dX Z ZE.1 dP) ZE (λ_ h=>be dP h);refine⟨λfc _ _ a9 _ ZW _ _ _=>?_,?_⟩;obtain⟨fc,rfl⟩:=aT a9;refine I ?_;exact dO (dX Z ZW.1 dP) ZW (λ_ h=>be dP h);refine⟨λe6 _ _ e5 e7 Z3 _ _ _=>?_,?_⟩;obtain⟨e6,rfl⟩:=aT e5;have i4:=ba (e7 3 _ _ Z Z);have k9:=(be Z3.1 Wa);refine I ?_;exact dO (dX Z Z3.1 dP) Z3 (λ_ h=>be dP h);refine⟨λcb _ _ fT Zr W2 _ _ _=>?_,?_⟩;obtain⟨cb,rfl⟩:=aT fT;have g4:=ba (Zr 2 _ _ Z Z);have d5:=ba (Zr 4 _ _ Z Z);have b6:=(aa5 W2.1 Af);refine cl oT (uV qf1 qc2 (cR.tb b6)) ?_ (ai g4 (ai d5 Z));rintro _ _ Zk rfl;refine I ?_;exact dO (dX Z W2.1 Zk.2) W2 (λ_ h=>be Zk.2 h);refine⟨λhW _ _ em co Zm _ _ _=>?_,?_⟩;obtain⟨hW,rfl⟩:=aT em;have k0:=ba (co 5 _ _ Z Z);refine I ?_;exact dO (dX Z Zm.1 dP) Zm (λ_ h=>be dP h);refine⟨λcv _ _ f6 d6 Zq _ _ _=>?_,?_⟩;obtain⟨cv,rfl⟩:=aT f6;have kd:=ba (d6 5 _ _ Z Z);refine I ?_
 exact dO (dX Z Zq.1 dP) Zq (λ_ h=>be dP h);refine⟨λg3 _ _ aB Zn ZV _ _ _=>?_,?_⟩;obtain⟨g3,rfl⟩:=aT aB;have hn:=ba (Zn 6 _ _ Z Z);have hj:=ba (Zn 7 _ _ Z Z);refine cl gd dU ?_ (ai hn (ai hj Z));rintro _ _ Zu rfl;refine I ?_;exact dO (dX Z ZV.1 Zu.2) ZV (λ_ h=>be Zu.2 h);refine⟨λcm _ _ h9 Zo ZU _ _ _=>?_,?_⟩;obtain⟨cm,rfl⟩:=aT h9;have a8:=ba (Zo 0 _ _ Z Z);have fx:=ba (Zo 8 _ _ Z Z);have kk:=xt ZZ ZU.1;refine ac (je (vs:=[(0,QV 0 1),(1,QV (f1*aa pl-c2*aa pl) (aa pl*aa pl))]) (cells:=#[S (qR 0 1).1,S (qR 0 1).2,S ((qR (f1*aa pl-c2*aa pl) (aa pl*aa pl)).1),S ((qR (f1*aa pl-c2*aa pl) (aa pl*aa pl)).2)]) kS aQ (aK a8 (aK fx Z)) dc dc nZ (λ_ ft cd=>?_));refine I ?_;exact Ba Z (xt ZU.1 ft.2) cd;refine⟨λhe _ _ Zz _ G3 _ _ hM=>?_,?_⟩;obtain⟨he,rfl⟩:=aT Zz;have Zy:=(aa5 G3.1 Af);obtain⟨_,ZI,hI⟩:=G3.2 (hM 9 Z);have ZI:=ba ZI;refine clb mo (hc:=fM (Y:=QV (max 0 (f1-c2)) (aa pl)) (ke (a:=0) (b:=1) (c:=f1*aa pl-c2*aa pl) (d:=aa pl*aa pl) (aa4 (jV (m:=2) hI Z)) KO qA (cR.tb Zy)) (by rw[Wn hT0])) (hk:=?_) (hv:=ai ZI Z);rintro _ _ ZY rfl;refine I ?_
 exact dO (dX Z G3.1 ZY.2) G3 (λ_ h=>be ZY.2 h);refine⟨λbT _ _ bc _ Z7 _ _ _=>?_,?_⟩;obtain⟨bT,rfl⟩:=aT bc;have hQ:=(aa5 Z7.1 Af);refine clb gQ (hc:=eA (n:=0) Rg (cR.tb hQ)) (hk:=?_);rintro _ _ ZO rfl;refine I ?_;exact dO (dX Z Z7.1 ZO.2) Z7 (λ_ h=>be ZO.2 h);refine⟨λfN _ _ aL _ ZX _ _ _=>?_,?_⟩;obtain⟨fN,rfl⟩:=aT aL;refine I ?_;exact dO (dX Z ZX.1 dP) ZX (λ_ h=>be dP h);refine⟨λcq _ _ hN f4 ZF _ _ _=>?_,?_⟩;obtain⟨cq,rfl⟩:=aT hN;have ih:=ba (f4 12 _ _ Z Z);have k6:=(be ZF.1 Ek);refine I ?_;exact dO (dX Z ZF.1 dP) ZF (λ_ h=>be dP h);refine⟨λhh _ _ a7 _ ZM _ _ _=>?_,?_⟩;obtain⟨hh,rfl⟩:=aT a7;refine I ?_;exact dO (dX Z ZM.1 dP) ZM (λ_ h=>be dP h);refine⟨λeg _ _ cf hB X2 _ _ _=>?_,?_⟩;obtain⟨eg,rfl⟩:=aT cf;have kZ:=ba (hB 14 _ _ Z Z);have k3:=(be X2.1 Wa);refine I ?_;exact dO (dX Z X2.1 dP) X2 (λ_ h=>be dP h);refine⟨λga _ _ d0 Zp Z2 _ _ _=>?_,?_⟩;obtain⟨ga,rfl⟩:=aT d0;have g1:=ba (Zp 13 _ _ Z Z);have bd:=ba (Zp 15 _ _ Z Z);have ca:=(aa5 Z2.1 Af);refine cl oT (uV qc1 qf2 (cR.tb ca)) ?_ (ai g1 (ai bd Z));rintro _ _ ZQ rfl
 refine I ?_;exact dO (dX Z Z2.1 ZQ.2) Z2 (λ_ h=>be ZQ.2 h);refine⟨λcx _ _ b9 at2 ZP _ _ _=>?_,?_⟩;obtain⟨cx,rfl⟩:=aT b9;have at3:=ba (at2 16 _ _ Z Z);refine I ?_;exact dO (dX Z ZP.1 dP) ZP (λ_ h=>be dP h);refine⟨λat4 _ _ gp e4 ZR _ _ _=>?_,?_⟩;obtain⟨at4,rfl⟩:=aT gp;have i1:=ba (e4 16 _ _ Z Z);refine I ?_;exact dO (dX Z ZR.1 dP) ZR (λ_ h=>be dP h);exact trivial;intro hU _ _ _ at8 T3 A1;obtain⟨hU,rfl⟩:=aT at8;have A1:=A1.1;have Ad:=(aa5 A1 Af);have As:=(be A1 F4);have ny:=(be A1 E4);have od:=(be A1 E7);have Ap:=(be A1 E9);have Ar:=(be A1 F2);have i2:=bt Ar;have Aq:=(be A1 Ek);have Av:=(be A1 Wa);have at9:=xt ZZ A1;have G:=aS G A1;have hp:=ba (T3 17 _ _ Z Z);have ch:=ba (T3 18 _ _ Z Z);refine cl gd dU ?_ (ai hp (ai ch Z));rintro _ _ Kp rfl;have Ad:=aa5 Kp.2 Ad;have⟨As,ny,od,Ap,Ar⟩:=dY Kp.2 As ny od Ap Ar;have⟨Aq,Av⟩:=jk Kp.2 Aq Av;have G:=aS G Kp.2;have fm:=ba (T3 11 _ _ Z Z)
 refine ac (je (vs:=[(0,QV 0 1),(1,QV (c1*aa pl-f2*aa pl) (aa pl*aa pl))]) (cells:=#[S (qR 0 1).1,S (qR 0 1).2,S ((qR (c1*aa pl-f2*aa pl) (aa pl*aa pl)).1),S ((qR (c1*aa pl-f2*aa pl) (aa pl*aa pl)).2)]) kS aQ (aK fm (aK Z Z)) dc dc nZ (λ_ F8 F3=>?_));have Ad:=aa5 F8.2 Ad;have⟨As,ny,od,Ap,Ar⟩:=dY F8.2 As ny od Ap Ar;have⟨Aq,Av⟩:=jk F8.2 Aq Av;have G:=aS G F8.2;refine clb mo (hc:=fM (Y:=QV (max 0 (c1-f2)) (aa pl)) (ke (a:=0) (b:=1) (c:=c1*aa pl-f2*aa pl) (d:=aa pl*aa pl) (aa4 (jV (m:=2) F3 Z)) KO qB (cR.tb Ad)) (by rw[Wn hT0])) (hk:=?_);rintro _ _ S1 rfl;have Ad:=aa5 S1.2 Ad;have⟨As,ny,od,Ap,Ar⟩:=dY S1.2 As ny od Ap Ar;have⟨Aq,Av,F3⟩:=rQ S1.2 Aq Av F3;have G:=aS G S1.2;have cy:=ba (T3 10 _ _ Z Z);refine ac (aV (vs:=[(0,QV (max 0 (f1-c2)) (aa pl)),(1,QV (max 0 (c1-f2)) (aa pl))]) (cells:=#[S ((qR (max 0 (f1-c2)) (aa pl)).1),S ((qR (max 0 (f1-c2)) (aa pl)).2),S ((qR (max 0 (c1-f2)) (aa pl)).1),S ((qR (max 0 (c1-f2)) (aa pl)).2)]) (pl:=[(0,2),(2,2)]) aJ ap nZ (aK cy (aK Z Z)) nZ ?_);refine SA Ar (λ_ No f5=>?_);have Ad:=ab4 No U Ad;have⟨As,ny,od,Ap,Aq⟩:=jv No As ny od Ap Aq;have⟨Av,F3⟩:=eR No Av F3;have G:=de G No U;refine I ?_
 refine ge (v:=IV (max 0 (f1-c2)) (aa pl) (max 0 (c1-f2)) (aa pl)) (cF  rfl ?_) ⟨G,Ad,rfl⟩;refine ag (t:=8) (cs:=[S ((qR (max 0 (f1-c2)) (aa pl)).1),S ((qR (max 0 (f1-c2)) (aa pl)).2),S ((qR (max 0 (c1-f2)) (aa pl)).1),S ((qR (max 0 (c1-f2)) (aa pl)).2)]) (b:=g5.heap.size) (o:=0) aJ Z ay ?_ ?_;exact Z;exact aa1 f5 (i:=0) Z
end
end Go.Proofs.YthpinljhfnodeaaGreatDoor
