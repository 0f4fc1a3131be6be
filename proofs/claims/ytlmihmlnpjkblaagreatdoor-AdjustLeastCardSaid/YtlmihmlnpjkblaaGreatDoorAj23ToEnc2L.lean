/- Part of the proof of a statement about an adjustment. -/
import Derived.Test.YtlmihmlnpjkblaaGreatDoorLaFToAj22L
set_option linter.all false
namespace Go.Proofs.YtlmihmlnpjkblaaGreatDoor
open Go Go.Eng Go.RowKit Proofs.Tryz
variable {args lb lbn:Array Value}{x0 x1 o0:Int}{xs:List Int}{lo k C M xn CX n N D CB lo2 a b sO pl g b1 b2 gn i cp gf:Nat}{e1 e e' G:Nat->Value}{A X B Y:Option Addr}{w w0:World}
section
attribute [local irreducible] wpListIn Code.wpIn Oper.wpIn Exit.then Exit.inBlock Exit.noGoto
set_option maxHeartbeats 40000000
def Yf (lo:Nat)(w:World)(v:Value)(k:Nat)(xs:List R)(C:Rows)(chi:R)(fr:Int):Prop:=∃A cp B D H,v=.agg #[.slice A k cp,.slice B k D,S chi.1,S chi.2,.int .i64 fr]/\k<=cp/\Rw w lo A (ag xs)/\k<=D/\Mt w lo B k H C
def ow.m {v:Value}{xs:List R}{C:Rows}{chi:R}{fr:Int}(hl:xs.length=k)(h:ow lo w v k xs C chi fr):Yf lo w v k xs C chi fr:=by
 subst hl;exact h
def Vd {m:Nat}{b:List R}(hb:Rw w lo A (ag b))(hl:b.length=m)(hbl:m<=8):
 CL 30 #[.slice A m C] w (aG w λv w'=>dy w.heap.size w' v m (bA b)):=by
 subst hl;exact kf hb U
def Yg {l:List (Nat×Nat)}{ops:List Oper}(hs:((ops.take M).all λo=>match o.dst with|some d=>lZ l d|none=>true)=true)(h:∀t,lZ l t=false->e' t=e1 t):
 ∀t,lZ l t=false->ov (jl ops M) e e' t=e1 t:=by
 intro t ht
 have:jl ops M t=false:=by
  cases hm:jl ops M t with
  |false=>rfl
  | true=>
    unfold jl at hm
    obtain⟨o,ho,h1⟩:=List.any_eq_true.1 hm
    have h2:=List.all_eq_true.1 hs o ho
    cases hd:o.dst with
    |none=>rw[hd]at h1;cases h1
    | some d=>
      rw[hd]at h1 h2
      have h3:d=t:=qb4 h1
      simp only at h2
      rw[h3]at h2;rw[h2]at ht;cases ht
 unfold ov;rw[this];exact h t ht
def Yh {l:List (Nat×Nat)}(h:∀t,lZ l t=false->e' t=e t:=by
 repeat first
  |with_reducible exact I8
  |((with_reducible refine I7 ?_ ?_);· exact Z)
  |((with_reducible refine Q4 ?_ ?_);· kernel_rfl)
  |((with_reducible refine Yg ?_ ?_);· kernel_rfl)
  |((with_reducible refine Q5 ?_ ?_);· kernel_rfl)):∀t,lZ l t=false->e' t=e t:=h
set_option maxRecDepth 100000 in
def Du {o1:Int}{m:Nat}{L V:Rows}{ys:List R}(hm:ys.length=m)(hmn:1<=m/\m<=8)(hn:1<=n/\n<=2)(hk:(L 0).length=n)(hv:vM m L=true)(hv3:vM m V=true)(hS:∀W,aO w W->CL 9 #[] W (aG W λv _=>v=.bool true))(hMd:∀W,aO w W->CL 10 #[.agg #[.int .i64 x0,.int .i64 x1,.slice X xn CX]] W (aG W λv w'=>∃A C Y CY B CB,v=.agg #[.slice A m C,.slice Y m CY,.slice B m CB]/\gl W.heap.size w' A C Y CY B CB L V ys))(hFit:∀A C Y CY B CB W,ey W A C Y CY B CB L V ys->aO w W->CL 14 #[.agg #[.slice A m C,.slice Y m CY,.slice B m CB]] W (aG W λv w'=>v=.tuple #[.agg #[.slice none 0 0,.slice none 0 0,S [],S [],.int .i64 0],.int .i64 140]))(hRk:∀A C H lo W,Mt W lo A m H L->aO w W->CL 23 #[.slice A m C] W (aG W λv _=>v=.tuple #[.int .i64 (k:Nat),.int .i64 0]))(hkn:k<n):
 CL 7 #[.agg #[.int .i64 x0,.int .i64 x1,.slice X xn CX],.agg #[.int .i64 o0,.int .i64 o1]] w (aG w λv w'=>v=.bool true):=by
 refine aC func7 Z (I ?_);refine bx (λ_ Cr O=>?_);have E:=Cr.2;refine bx (λ_ B1 A0=>?_);have⟨O,E⟩:=bn B1.2 O E;refine I ?_;refine cl Iw (hS _ E) ?_;rintro _ _ Ax rfl;have⟨O,A0,E⟩:=cj Ax.2 O A0 E;refine I ?_;(try refine aa (aP (cs:=[.int .i64 x0,.int .i64 x1,.slice X xn CX]) (b:=w.heap.size) (o:=0) v8 Z H6 Z (aa0 O (i:=0) Z) ?_));refine cl Iy (hMd _ E) ?_;rintro _ Av Az ⟨Ar,As,Aw,ny,od,Aq,rfl,E0⟩;have⟨O,A0,E⟩:=cj Az.2 O A0 E;have A2:=mM.of E0;obtain⟨_,A1⟩:=(A2).m;rw[hm]at A1;obtain⟨_,C1⟩:=(A2).v;rw[hm]at C1;refine al ee (λ_ nm wr=>?_);have⟨O,A0⟩:=dZ nm.2 O A0;have A2:=ab7 nm.2 A2;have A1:=aa1 nm.2 A1;have E:=xt E nm.2;refine aa (bF (b:=Av.heap.size) (o:=0) (vs:=[.slice Ar m As,.slice Aw m ny,.slice od m Aq]) bj Z Z KK wr (qa3 Z) (λ_ Af Ab=>?_));have⟨O,A0⟩:=jU Af O A0;have A2:=ad8 Af U A2;have A1:=ac1 Af U A1;have E:=bi Af E;have E4:=iM Af;refine I ?_;(try refine aa (aP (cs:=[.slice Ar m As,.slice Aw m ny,.slice od m Aq]) (b:=Av.heap.size) (o:=0) da Z bj Z (aa0 Ab (i:=0) Z) ?_));refine cl tl (hFit _ _ _ _ _ _ _ (A2).des E) ?_;rintro _ E1 Ao rfl;have⟨O,A0⟩:=dZ Ao.2 O A0
 have A1:=aa1 Ao.2 A1;have⟨Ab,E⟩:=bn Ao.2 Ab E;refine I ?_;refine al dN (λ_ Ap B2=>?_);have⟨O,A0⟩:=dZ Ap.2 O A0;have A1:=aa1 Ap.2 A1;have⟨Ab,E⟩:=bn Ap.2 Ab E;refine aa (bF (b:=E1.heap.size) (o:=0) (vs:=[.slice none 0 0,.slice none 0 0,S [],S [],.int .i64 0]) dG Z Z KK B2 (qa3 Z) (λ_ Am _=>?_));have⟨O,A0⟩:=jU Am O A0;have A1:=ac1 Am U A1;have Ab:=pb Am Ab;have E:=bi Am E;have Ay:=ab1 (A1).mt (i:=0) U;refine I ?_;refine gN Ay ?_ (i:=0);refine I ?_;try rw[hk];refine I ?_;refine cl YI (hRk _ _ _ _ _ (A1).mt E) ?_;rintro _ _ CG rfl;have E:=xt E CG.2;refine I ?_;exact am (t:=4) (v:=.bool (decide ((k:Int)<(n:Int)))) Z E (qb2 Value.bool (qa1 U)) Z
set_option maxHeartbeats 4000000 in
set_option maxRecDepth 100000 in
def HA {o1 c:Int}{xs1 rs1 rs2:List R}{q1 q2:R}{C0 W0 B0 Z0:Rows}(ho0:In64 o0)(ho1:In64 o1){m:Nat}{L V:Rows}{ys:List R}(hm:ys.length=m)(hmn:1<=m/\m<=8)(hn:1<=n/\n<=2)(hk:(L 0).length=n)(hv:vM m L=true)(hv3:vM m V=true)(hx1:xs1.length=n)(hr1l:rs1.length=m)(hS:∀W,aO w W->CL 9 #[] W (aG W λv _=>v=.bool true))(hMd:∀W,aO w W->CL 10 #[.agg #[.int .i64 x0,.int .i64 x1,.slice X xn CX]] W (aG W λv w'=>∃A C Y CY B CB,v=.agg #[.slice A m C,.slice Y m CY,.slice B m CB]/\gl W.heap.size w' A C Y CY B CB L V ys))(hFit:∀A C Y CY B CB W,ey W A C Y CY B CB L V ys->aO w W->CL 14 #[.agg #[.slice A m C,.slice Y m CY,.slice B m CB]] W (aG W λv w'=>∃u,v=.tuple #[u,.int .i64 0]/\Yf W.heap.size w' u n xs1 C0 q1 ((m:Int)-(n:Int))))(hRes1:∀A C Y CY B CB X CX lo W,ey W A C Y CY B CB L V ys->Rw W lo X (ag xs1)->aO w W->CL 24 #[.agg #[.slice A m C,.slice Y m CY,.slice B m CB],.slice X n CX] W (aG W λv w'=>∃u,v=.tuple #[u,.int .i64 0]/\∃P cp,u=.slice P m cp/\Rw w' W.heap.size P (ag rs1)))(hRes2:∀A C Y CY B CB X CX lo W,ey W A C Y CY B CB L V ys->Rw W lo X (ag ([(br (aV o0 81-40) 4),(br (aV o1 81-40) 4)].take n))->aO w W->CL 24 #[.agg #[.slice A m C,.slice Y m CY,.slice B m CB],.slice X n CX] W (aG W λv w'=>∃u,v=.tuple #[u,.int .i64 0]/\∃P cp,u=.slice P m cp/\Rw w' W.heap.size P (ag rs2)))(hWt1:∀B CB G lo X CX lo2 W,Mt W lo B m G V->Rw W lo2 X (ag rs1)->aO w W->CL 25 #[.slice B m CB,.slice X m CX] W (aG W λv _=>v=.tuple #[.agg #[S q1.1,S q1.2],.bool true]))(hWt2:∀B CB G lo X CX lo2 W,Mt W lo B m G V->Rw W lo2 X (ag rs2)->aO w W->CL 25 #[.slice B m CB,.slice X m CX] W (aG W λv _=>v=.tuple #[.agg #[S q2.1,S q2.2],.bool true]))(hCmp:∀W,aO w W->CL 26 #[.agg #[S q2.1,S q2.2],.agg #[S q1.1,S q1.2]] W (aG W λv _=>v=.int .i64 c))(hc:0<=c)(eW:ep m V=some W0)(eB:c6 n (λj=>kX L m j) m W0=some B0)(hvr:vM m (bA rs1)=true)(eZ:c6 n B0 m (bA rs1)=some Z0)(hZ:∀p,p<n->(Z0 p).length=1/\ar (Z0 p) 0=br 0 1)(ht:Tb w):
 CL 7 #[.agg #[.int .i64 x0,.int .i64 x1,.slice X xn CX],.agg #[.int .i64 o0,.int .i64 o1]] w (aG w λv w'=>v=.bool true):=by
 have f7:decide (q1=q1)=true:=qa1 Z;have fl:=du o0 81 dc;have fu:=du o1 81 dc;refine aC func7 Z (I ?_);refine bx (λL4 cy H=>?_);have E:=cy.2;refine bx (λ_ S9 A0=>?_);have⟨H,E⟩:=bn S9.2 H E;refine I ?_;refine cl Iw (hS _ E) ?_;rintro _ _ an rfl;have⟨H,A0,E⟩:=cj an.2 H A0 E;refine I ?_;(try refine aa (aP (cs:=[.int .i64 x0,.int .i64 x1,.slice X xn CX]) (b:=w.heap.size) (o:=0) v8 Z H6 Z (aa0 H (i:=0) Z) ?_));refine cl Iy (hMd _ E) ?_;rintro _ G0 d5 ⟨ny,Ix,KC,KM,H4,K3,rfl,W2⟩;have⟨H,A0,E⟩:=cj d5.2 H A0 E;have O:=mM.of W2;obtain⟨cc,A2⟩:=(O).m;rw[hm]at A2;obtain⟨ej,A1⟩:=(O).v;rw[hm]at A1;refine al ee (λ_ Kp a5=>?_);have⟨H,A0⟩:=dZ Kp.2 H A0;have O:=ab7 Kp.2 O;have A2:=aa1 Kp.2 A2;have A1:=aa1 Kp.2 A1;have E:=xt E Kp.2;refine aa (bF (b:=G0.heap.size) (o:=0) (vs:=[.slice ny m Ix,.slice KC m KM,.slice H4 m K3]) bj Z Z KK a5 (qa3 Z) (λP1 K2 Ab=>?_));have⟨H,A0⟩:=jU K2 H A0;have O:=ad8 K2 U O;have A2:=ac1 K2 U A2;have A1:=ac1 K2 U A1;have E:=bi K2 E;have et:=iM K2;refine I ?_
 (try refine aa (aP (cs:=[.slice ny m Ix,.slice KC m KM,.slice H4 m K3]) (b:=G0.heap.size) (o:=0) da Z bj Z (aa0 Ab (i:=0) Z) ?_));refine cl tl (hFit _ _ _ _ _ _ _ (O).des E) ?_;rintro _ L2 KY ⟨fW,rfl,La,P0,Li,Lk,eD,rfl,fi,cz,fS,cm⟩;have⟨H,A0⟩:=dZ KY.2 H A0;have O:=ab7 KY.2 O;have A2:=aa1 KY.2 A2;have A1:=aa1 KY.2 A1;have⟨Ab,E⟩:=bn KY.2 Ab E;have Af:=ab6 cz;have Am:=ab2 cm;refine I ?_;refine al dN (λ_ GC cf=>?_);have⟨H,A0⟩:=dZ GC.2 H A0;have O:=ab7 GC.2 O;have A2:=aa1 GC.2 A2;have A1:=aa1 GC.2 A1;have Ab:=be GC.2 Ab;have Af:=aa5 GC.2 Af;have Am:=aa1 GC.2 Am;have E:=xt E GC.2;refine aa (bF (b:=L2.heap.size) (o:=0) (vs:=[.slice La n P0,.slice Li n Lk,S q1.1,S q1.2,.int .i64 ((m:Int)-(n:Int))]) dG Z Z KK cf (qa3 Z) (λ_ FR Ao=>?_));have⟨H,A0⟩:=jU FR H A0;have O:=ad8 FR U O;have A2:=ac1 FR U A2;have A1:=ac1 FR U A1;have Ab:=pb FR Ab;have Af:=ab9 FR U Af;have Am:=ac1 FR U Am;have E:=bi FR E;have fD:=iM FR;have a0:=ab1 (A2).mt (i:=0) U;refine I ?_;refine gN a0 ?_ (i:=0);refine I ?_;try rw[hk];refine I ?_;refine bL 14 ?_
 refine aA (λ_ _ _ _=>by refine aa (wj (m:=2) (b:=L4.heap.size) (o:=0) (i:=0) (oo:=0) Z2 iT Z Z dc Z ?_);refine I ?_;exact aH) ?_;refine sf ?_;refine aR (V:=.int .i64 (aV o0 81)) (λ_ _ _ _=>?_) ?_;refine clb Iz (hc:=vd o0 81 _ ho0 U) (hk:=?_);rintro _ _ eG rfl;refine I ?_;exact fs ⟨eG.2,rfl⟩;refine aA (λ_ _ _ _=>by refine oE ?_;refine I ?_;exact aH) ?_;refine aR (V:=.agg #[S ((br ((aV o0 81)-40) 4).1),S ((br ((aV o0 81)-40) 4).2)]) (λ_ _ _ _=>?_) ?_;refine clb eF (hc:=cZ ((aV o0 81)-40) 4 U U) (hk:=?_);rintro _ _ Wa rfl;refine I ?_;exact fs ⟨Wa.2,rfl⟩;refine aA (λ_ _ _ _=>by refine aa (wj (m:=2) (b:=L4.heap.size) (o:=0) (i:=1) (oo:=1) Z2 iT Z Z dc Z ?_);refine I ?_;exact aH) ?_;refine sf ?_;refine aR (V:=.int .i64 (aV o1 81)) (λ_ _ _ _=>?_) ?_;refine clb Iz (hc:=vd o1 81 _ ho1 U) (hk:=?_);rintro _ _ Vm rfl;refine I ?_;exact fs ⟨Vm.2,rfl⟩;refine aA (λ_ _ _ _=>by refine oE ?_;refine I ?_;exact aH) ?_;refine aR (V:=.agg #[S ((br ((aV o1 81)-40) 4).1),S ((br ((aV o1 81)-40) 4).2)]) (λ_ _ _ _=>?_) ?_;refine clb eF (hc:=cZ ((aV o1 81)-40) 4 U U) (hk:=?_);rintro _ _ dL rfl;refine I ?_;exact fs ⟨dL.2,rfl⟩
 refine bR (fun(v:Value) (W:World)=>∃P,v=Value.slice P 2 2/\Rw W 0 P (ag [(br (aV o0 81-40) 4),(br (aV o1 81-40) 4)])) (hs:=λ_ _ _ k h=>by obtain⟨P,e,r⟩:=h;exact⟨P,e,r.ext k⟩) (λ_ Lj _ _=>?_) ?_;refine Q6 (λN0 cq _ ce=>?_);have d3:m6 N0 Lj.heap.size N0.heap.size (some ⟨Lj.heap.size,0,none⟩) (ag [br ((aV o0 81)-40) 4,br ((aV o1 81)-40) 4]):=ab6 (aa8 ce);refine I ?_;exact fs ⟨cq,⟨_,rfl,((d3).rw).mono (Nat.zero_le _)⟩⟩;refine sf ?_;refine bR (fun(v:Value) (W:World)=>∃P,v=Value.slice P n 2/\Rw W 0 P (ag ([(br (aV o0 81-40) 4),(br (aV o1 81-40) 4)].take n))) (hs:=λ_ _ _ k h=>by obtain⟨P,e,r⟩:=h;exact⟨P,e,r.ext k⟩) (λe5 b0 _ X2=>?_) ?_;have eQ:∃P,e5 73=Value.slice P 2 2/\Rw b0 0 P (ag [(br (aV o0 81-40) 4),(br (aV o1 81-40) 4)]):=(X2 10 73 Z Z);(with_reducible obtain⟨cT,d4,eq⟩:=eQ);have dq:=ab6 eq;refine aa (oL (A:=cT) (m:=2) (c:=2) (j:=n) tc bX (by exact d4) Z U ?_);have W3:=ab6 (Rw.takeR (dq).rw n);refine I ?_;exact fs ⟨aa4 _,⟨_,rfl,((W3).rw).mono (Nat.zero_le _)⟩⟩;refine bR (fun(v:Value) (W:World)=>∃P,v=Value.slice P n 2/\Rw W 0 P (ag ([(br (aV o0 81-40) 4),(br (aV o1 81-40) 4)].take n))) (hs:=λ_ _ _ k h=>by obtain⟨P,e,r⟩:=h;exact⟨P,e,r.ext k⟩) (λeg a9 _ cx=>?_) ?_
 have arr:∃P,eg 75=Value.slice P n 2/\Rw a9 0 P (ag ([(br (aV o0 81-40) 4),(br (aV o1 81-40) 4)].take n)):=(cx 12 75 Z Z);(with_reducible obtain⟨_,_,e3⟩:=arr);have d0:=ab6 e3;refine I ?_;exact fs ⟨aa4 _,⟨_,rfl,((d0).rw).mono (Nat.zero_le _)⟩⟩;refine sf ?_;intro bv L3 H2 T2;have⟨H,A0⟩:=dZ H2.2 H A0;have O:=ab7 H2.2 O;have A2:=aa1 H2.2 A2;have A1:=aa1 H2.2 A1;have Ab:=be H2.2 Ab;have Af:=aa5 H2.2 Af;have Am:=aa1 H2.2 Am;have⟨Ao,E⟩:=bn H2.2 Ao E;have cb:∃P,bv 12=Value.slice P n 2/\Rw L3 0 P (ag ([(br (aV o0 81-40) 4),(br (aV o1 81-40) 4)].take n)):=(T2 13 12 Z Z);(with_reducible obtain⟨bZ,_,eX⟩:=cb);have Ap:=ab6 eX;refine I ?_;(try refine aa (aP (cs:=[.slice ny m Ix,.slice KC m KM,.slice H4 m K3]) (b:=G0.heap.size) (o:=0) da Z bj Z (aa0 Ab (i:=0) Z) ?_));refine I ?_;refine cl BQ (hRes1 _ _ _ _ _ _ _ _ _ _ (O).des (Af).rw E) ?_;rintro _ Q0 ES ⟨fx,rfl,VW,fT,rfl,bp⟩;have⟨H,A0⟩:=dZ ES.2 H A0;have O:=ab7 ES.2 O;have A2:=aa1 ES.2 A2;have A1:=aa1 ES.2 A1;have Ab:=be ES.2 Ab;have Af:=aa5 ES.2 Af;have Am:=aa1 ES.2 Am;have Ao:=be ES.2 Ao;have Ap:=aa5 ES.2 Ap;have E:=xt E ES.2;have Aq:=ab6 bp;refine I ?_
 (try refine aa (aP (cs:=[.slice ny m Ix,.slice KC m KM,.slice H4 m K3]) (b:=G0.heap.size) (o:=0) da Z bj Z (aa0 Ab (i:=0) Z) ?_));refine I ?_;refine cl BQ (hRes2 _ _ _ _ _ _ _ _ _ _ (O).des (Ap).rw E) ?_;rintro _ co E9 ⟨fR,rfl,X0,fb,rfl,ac⟩;have⟨H,A0⟩:=dZ E9.2 H A0;have O:=ab7 E9.2 O;have A2:=aa1 E9.2 A2;have A1:=aa1 E9.2 A1;have Ab:=be E9.2 Ab;have Af:=aa5 E9.2 Af;have Am:=aa1 E9.2 Am;have Ao:=be E9.2 Ao;have Ap:=aa5 E9.2 Ap;have Aq:=aa5 E9.2 Aq;have E:=xt E E9.2;have Ar:=ab6 ac;refine I ?_;refine cl IA (hWt1 _ _ _ _ _ _ _ _ (A1).mt (Aq).rw E) ?_;rintro _ bW E4 rfl;have⟨H,A0⟩:=dZ E4.2 H A0;have O:=ab7 E4.2 O;have A2:=aa1 E4.2 A2;have A1:=aa1 E4.2 A1;have Ab:=be E4.2 Ab;have Af:=aa5 E4.2 Af;have Am:=aa1 E4.2 Am;have Ao:=be E4.2 Ao;have Ap:=aa5 E4.2 Ap;have Aq:=aa5 E4.2 Aq;have Ar:=aa5 E4.2 Ar;have E:=xt E E4.2;refine I ?_;refine al aS (λ_ E7 e4=>?_);have⟨H,A0⟩:=dZ E7.2 H A0;have O:=ab7 E7.2 O;have A2:=aa1 E7.2 A2;have A1:=aa1 E7.2 A1;have Ab:=be E7.2 Ab;have Af:=aa5 E7.2 Af;have Am:=aa1 E7.2 Am;have Ao:=be E7.2 Ao;have Ap:=aa5 E7.2 Ap;have Aq:=aa5 E7.2 Aq;have Ar:=aa5 E7.2 Ar;have E:=xt E E7.2;refine SA e4 (λ_ C1 Av=>?_);have⟨H,A0⟩:=jU C1 H A0
 have O:=ad8 C1 U O;have A2:=ac1 C1 U A2;have A1:=ac1 C1 U A1;have Ab:=pb C1 Ab;have Af:=ab9 C1 U Af;have Am:=ac1 C1 U Am;have Ao:=pb C1 Ao;have Ap:=ab9 C1 U Ap;have Aq:=ab9 C1 U Aq;have Ar:=ab9 C1 U Ar;have E:=bi C1 E;have fz:=iM C1;refine I ?_;refine cl IA (hWt2 _ _ _ _ _ _ _ _ (A1).mt (Ar).rw E) ?_;rintro _ a2 E1 rfl;have⟨H,A0⟩:=dZ E1.2 H A0;have O:=ab7 E1.2 O;have A2:=aa1 E1.2 A2;have A1:=aa1 E1.2 A1;have Ab:=be E1.2 Ab;have Af:=aa5 E1.2 Af;have Am:=aa1 E1.2 Am;have Ao:=be E1.2 Ao;have Ap:=aa5 E1.2 Ap;have Aq:=aa5 E1.2 Aq;have Ar:=aa5 E1.2 Ar;have⟨Av,E⟩:=bn E1.2 Av E;refine I ?_;refine al aS (λ_ E5 dC=>?_);have⟨H,A0⟩:=dZ E5.2 H A0;have O:=ab7 E5.2 O;have A2:=aa1 E5.2 A2;have A1:=aa1 E5.2 A1;have Ab:=be E5.2 Ab;have Af:=aa5 E5.2 Af;have Am:=aa1 E5.2 Am;have Ao:=be E5.2 Ao;have Ap:=aa5 E5.2 Ap;have Aq:=aa5 E5.2 Aq;have Ar:=aa5 E5.2 Ar;have⟨Av,E⟩:=bn E5.2 Av E;refine SA dC (λ_ CG Ay=>?_);have⟨H,A0⟩:=jU CG H A0;have O:=ad8 CG U O;have A2:=ac1 CG U A2;have A1:=ac1 CG U A1;have Ab:=pb CG Ab;have Af:=ab9 CG U Af;have Am:=ac1 CG U Am;have Ao:=pb CG Ao;have Ap:=ab9 CG U Ap;have Aq:=ab9 CG U Aq;have Ar:=ab9 CG U Ar;have Av:=pb CG Av
 have E:=bi CG E;refine I ?_;refine aa (mE (a:=q1) (b:=q1) (q:=!decide (q1=q1)) Z Z Z ?_);refine I ?_;refine cl nL (hCmp _ E) ?_;rintro _ ed Cr rfl;have⟨H,A0⟩:=dZ Cr.2 H A0;have O:=ab7 Cr.2 O;have A2:=aa1 Cr.2 A2;have A1:=aa1 Cr.2 A1;have Ab:=be Cr.2 Ab;have Af:=aa5 Cr.2 Af;have Am:=aa1 Cr.2 Am;have Ao:=be Cr.2 Ao;have Ap:=aa5 Cr.2 Ap;have Aq:=aa5 Cr.2 Aq;have Ar:=aa5 Cr.2 Ar;have⟨Av,Ay,E⟩:=cj Cr.2 Av Ay E;refine I ?_;refine cl M7 (pQ (o':=some W0) (sJ (A1).mt (dM hv3) (ht.ext E)) eW) ?_;rintro _ Ne E6 ⟨fP,rfl,bq,ft,ct,rfl,fN,a8⟩;have⟨H,A0⟩:=dZ E6.2 H A0;have O:=ab7 E6.2 O;have A2:=aa1 E6.2 A2;have A1:=aa1 E6.2 A1;have Ab:=be E6.2 Ab;have Af:=aa5 E6.2 Af;have Am:=aa1 E6.2 Am;have Ao:=be E6.2 Ao;have Ap:=aa5 E6.2 Ap;have Aq:=aa5 E6.2 Aq;have Ar:=aa5 E6.2 Ar;have⟨Av,Ay,E⟩:=cj E6.2 Av Ay E;have nm:=ab2 a8;refine I ?_;refine clb M8 (hc:=O9 (m:=n) (E8 (A2).mt (dM hv) (ht.ext E)) (by rw[if_pos hv];exact hk)) (hk:=?_);rintro _ S0 B2 ⟨c9,f0,cv,rfl,fy,bb⟩;have⟨H,A0⟩:=dZ B2.2 H A0;have O:=ab7 B2.2 O;have A2:=aa1 B2.2 A2;have A1:=aa1 B2.2 A1;have Ab:=be B2.2 Ab;have Af:=aa5 B2.2 Af;have Am:=aa1 B2.2 Am;have Ao:=be B2.2 Ao;have Ap:=aa5 B2.2 Ap;have Aq:=aa5 B2.2 Aq
 have Ar:=aa5 B2.2 Ar;have⟨Av,Ay⟩:=dZ B2.2 Av Ay;have nm:=aa1 B2.2 nm;have E:=xt E B2.2;have E0:=ab2 bb;refine I ?_;refine cl H8 (pQ (o':=some B0) (pL (E0).mt (uW hv hk) (nm).mt (kU eW) (ht.ext E)) eB) ?_;rintro _ P2 B1 ⟨fB,rfl,eb,f3,ad,rfl,fC,WV⟩;have⟨H,A0⟩:=dZ B1.2 H A0;have O:=ab7 B1.2 O;have A2:=aa1 B1.2 A2;have A1:=aa1 B1.2 A1;have Ab:=be B1.2 Ab;have Af:=aa5 B1.2 Af;have Am:=aa1 B1.2 Am;have Ao:=be B1.2 Ao;have Ap:=aa5 B1.2 Ap;have Aq:=aa5 B1.2 Aq;have Ar:=aa5 B1.2 Ar;have⟨Av,Ay⟩:=dZ B1.2 Av Ay;have nm:=aa1 B1.2 nm;have E0:=aa1 B1.2 E0;have E:=xt E B1.2;have EW:=ab2 WV;refine I ?_;refine clb xr (hc:=Vd (b:=rs1) (Aq).rw hr1l U) (hk:=?_);rintro _ Rm Az d6;have⟨H,A0⟩:=dZ Az.2 H A0;have O:=ab7 Az.2 O;have A2:=aa1 Az.2 A2;have A1:=aa1 Az.2 A1;have Ab:=be Az.2 Ab;have Af:=aa5 Az.2 Af;have Am:=aa1 Az.2 Am;have Ao:=be Az.2 Ao;have Ap:=aa5 Az.2 Ap;have Aq:=aa5 Az.2 Aq;have Ar:=aa5 Az.2 Ar;have⟨Av,Ay⟩:=dZ Az.2 Av Ay;have nm:=aa1 Az.2 nm;have E0:=aa1 Az.2 E0;have EW:=aa1 Az.2 EW;have E:=xt E Az.2;obtain⟨eP,_,bd,rfl,_,d1⟩:=d6;have H3:=ab2 d1;refine cl H8 (pQ (o':=some Z0) (pL (EW).mt (eR eB) (H3).mt (dM hvr) (ht.ext E)) eZ) ?_
 rintro _ No Ax ⟨fX,rfl,T3,fc,er,rfl,fQ,ch⟩;have⟨H,A0⟩:=dZ Ax.2 H A0;have O:=ab7 Ax.2 O;have A2:=aa1 Ax.2 A2;have A1:=aa1 Ax.2 A1;have Ab:=be Ax.2 Ab;have Af:=aa5 Ax.2 Af;have Am:=aa1 Ax.2 Am;have Ao:=be Ax.2 Ao;have Ap:=aa5 Ax.2 Ap;have Aq:=aa5 Ax.2 Aq;have Ar:=aa5 Ax.2 Ar;have⟨Av,Ay⟩:=dZ Ax.2 Av Ay;have nm:=aa1 Ax.2 nm;have E0:=aa1 Ax.2 E0;have EW:=aa1 Ax.2 EW;have H3:=aa1 Ax.2 H3;have E:=xt E Ax.2;have As:=ab2 ch;refine I ?_
 refine cg [(4,4),(27,27),(166,186)] (λa4 e W=>∃p:Nat,(n-p=a4)/\(e 27=.int .i64 p)/\(p<=n)/\(No.heap.size<=W.heap.size)/\(aO w W)/\(ap W w.heap.size 24 #[.int .i64 x0,.int .i64 x1,.slice X xn CX])/\(ap W L4.heap.size 25 #[.int .i64 o0,.int .i64 o1])/\(mM G0.heap.size W ny Ix KC KM H4 K3 L V ys)/\(lS W 0 G0.heap.size ny m cc L)/\(lS W 0 G0.heap.size H4 m ej V)/\(ap W G0.heap.size 30 #[.slice ny m Ix,.slice KC m KM,.slice H4 m K3])/\(m6 W P1.heap.size L2.heap.size La (ag xs1))/\(lS W P1.heap.size L2.heap.size Li n eD C0)/\(ap W L2.heap.size 40 #[.slice La n P0,.slice Li n Lk,S q1.1,S q1.2,.int .i64 ((m:Int)-(n:Int))])/\(m6 W 0 L3.heap.size bZ (ag ([(br (aV o0 81-40) 4),(br (aV o1 81-40) 4)].take n)))/\(m6 W L3.heap.size Q0.heap.size VW (ag rs1))/\(m6 W Q0.heap.size co.heap.size X0 (ag rs2))/\(ap W bW.heap.size 33 #[S q1.1,S q1.2])/\(ap W a2.heap.size 33 #[S q2.1,S q2.2])/\(lS W ed.heap.size Ne.heap.size bq m ct W0)/\(lS W Ne.heap.size S0.heap.size c9 n cv (λj=>kX L m j))/\(lS W S0.heap.size P2.heap.size eb n ad B0)/\(lS W P2.heap.size Rm.heap.size eP m bd (bA rs1))/\(lS W Rm.heap.size No.heap.size T3 n er Z0)) (n-0) ⟨0,rfl,rfl,(qa7 _),(qa0 _),E,H,A0,O,A2,A1,Ab,Af,Am,Ao,Ap,Aq,Ar,Av,Ay,nm,E0,EW,H3,As⟩ ?_
 rintro _ _ _ ⟨p,rfl,f9,hi_p,fa,L1,H,A0,O,A2,A1,Ab,Af,Am,Ao,Ap,Aq,Ar,Av,Ay,nm,E0,EW,H3,As⟩;by_cases hlp:p<n;have eC:=hZ p hlp;refine I ?_;refine bL 16 ?_;refine sf ?_;refine aA (λ_ _ cr _=>by have As:=aa1 cr As;have W1:=ab1 (As).mt (i:=(p)) U;refine I ?_;refine gN W1 ?_;refine I ?_;exact aH) ?_;refine aA (λ_ _ eS _=>by have As:=aa1 eS As;have g0:=ab1 (As).mt (i:=(p)) U;refine I ?_;exact aH) ?_;refine sf ?_;refine aA (λ_ _ a3 _=>by have As:=aa1 a3 As;have a6:=ab1 (As).mt (i:=(p)) U;refine I ?_;refine gN a6 ?_;refine I ?_;exact aH) ?_;refine aA (λ_ _ ea _=>by have As:=aa1 ea As;have fG:=ab1 (As).mt (i:=(p)) U;refine I ?_;exact aH) ?_;refine aA (λ_ _ dd _=>by have As:=aa1 dd As;have cw:=ad3 (As).mt (i:=(p)) (k:=0) U U;refine I ?_;refine mu cw ?_ (i:=0);refine I ?_;exact aH) ?_;refine aA (λ_ _ e6 _=>by have As:=aa1 e6 As;have g1:=ad3 (As).mt (i:=(p)) (k:=0) U U;refine I ?_;exact aH) ?_;refine aR (V:=.agg #[S ((br 0 1).1),S ((br 0 1).2)]) (λ_ _ _ _=>?_) ?_;refine I ?_;refine clb eF (hc:=cZ 0 1 U U) (hk:=?_);rintro _ _ od rfl;refine I ?_;exact fs ⟨od.2,rfl⟩
 refine aA (λ_ _ _ _=>by refine I ?_;refine aa (mE (a:=ar (Z0 p) 0) (b:=br 0 1) (q:=!decide ((ar (Z0 p) 0)=(br 0 1))) Z Z Z ?_);refine I ?_;exact aH) ?_;refine sf ?_;intro _ _ Aw _;have⟨H,A0⟩:=dZ Aw.2 H A0;have O:=ab7 Aw.2 O;have A2:=aa1 Aw.2 A2;have A1:=aa1 Aw.2 A1;have Ab:=be Aw.2 Ab;have Af:=aa5 Aw.2 Af;have Am:=aa1 Aw.2 Am;have Ao:=be Aw.2 Ao;have Ap:=aa5 Aw.2 Ap;have Aq:=aa5 Aw.2 Aq;have Ar:=aa5 Aw.2 Ar;have⟨Av,Ay⟩:=dZ Aw.2 Av Ay;have nm:=aa1 Aw.2 nm;have E0:=aa1 Aw.2 E0;have EW:=aa1 Aw.2 EW;have H3:=aa1 Aw.2 H3;have As:=aa1 Aw.2 As;have L1:=xt L1 Aw.2;refine I ?_;refine fh (qb2 Value.bool (qb2 Bool.not (qa1 eC.2))) (I ?_);refine gP (I ?_);exact bI ⟨p+1,rfl,rfl,U,U,L1,H,A0,O,A2,A1,Ab,Af,Am,Ao,Ap,Aq,Ar,Av,Ay,nm,E0,EW,H3,As⟩ (hs:=Yh);refine I ?_;refine oE (I ?_);exact am (t:=4) (v:=.bool (decide (((m:Int)-(n:Int))=((m:Int)-(n:Int))))) Z L1 (qb2 Value.bool (qa1 Z)) Z
end
section
open La
section
variable {m:Nat}{L V W:Rows}{ys zs rs:List R}
def yR (h:mN m n L V ys W)(zl:zs.length=n)(rz:RB n 1 (bA zs) 24186470400000000000000000000 151165440000000000000000000):
 PT m L ys zs/\RB m 1 (bA (qT m L ys zs)) 2358180864000000000000000000000 604661760000000000000000000/\∀i,i<m->qv (ar (qT m L ys zs) i)=qv (ar ys i)-sm n (λk=>Q L i k*qv (ar zs k)):=by
 have A0:1<=m/\m<=8:=⟨h.hm.1,by have:=h.hm.2;omega⟩
 have H:1<=n/\n<=8:=⟨h.hn.1,by have:=h.hn.2;omega⟩
 have E:1<=1/\1<=8:=by decide
 obtain⟨O,_⟩:=kW H.1 H.2 E.1 E.2 rz.1
 obtain⟨P,eP,rP,vP⟩:=RB.mul (N:=580475289600000000000000000000) (D:=151165440000000000000000000) A0 H E h.rL rz Hx Hx zd zd
 have fP:Dr m L zs=P:=by unfold Dr;rw[zl,eP];rfl
 obtain⟨key,rR⟩:=RB.sub (N:=2358180864000000000000000000000) (D:=604661760000000000000000000) h.rY rP Hx Hx zd zd
 refine⟨⟨by rw[zl];exact O,by rw[fP,zl];exact eP,λi hi=>by rw[fP,(rP.1 i hi).1];decide,λi hi=>by rw[fP];exact(key i hi).1⟩,by unfold qT;rw[fP];exact rR,λi hi=>?_⟩
 rw[qT,gC hi,fP,(key i hi).2.2,vP i hi 0 zd]
 rfl
def vi (h:mN m n L V ys W)(rl:rs.length=m)(rR:RB m 1 (bA rs) 2358180864000000000000000000000 604661760000000000000000000):
 YC V rs/\RB 1 1 (vE V rs) 800786446176353255424000000000000000000000000000000000000000000000000 4113178245070848000000000000000000000000000000000000000000000/\Q (vE V rs) 0 0=qf m (Q W) (λi=>qv (ar rs i)):=by
 subst rl
 have E:1<=rs.length/\rs.length<=8:=⟨h.hm.1,by have:=h.hm.2;omega⟩
 have H:1<=1/\1<=8:=by decide
 obtain⟨A2,_⟩:=kW E.1 E.2 H.1 H.2 rR.1
 obtain⟨A0,_⟩:=kW E.1 E.2 E.1 E.2 h.okV
 obtain⟨Q9,eQ,rQ,vQ⟩:=RB.mul (N:=42447255552000000000000000000000000000) (D:=6802444800000000000000000000000000) H E E rR.tr h.rW Hx Hx zd zd
 have fQ:Vu V rs=Q9:=by unfold Vu;rw[h.fW,eQ];rfl
 obtain⟨S9,eS,rS,vS⟩:=RB.mul (N:=800786446176353255424000000000000000000000000000000000000000000000000) (D:=4113178245070848000000000000000000000000000000000000000000000) H E H rQ rR Hx Hx zd zd
 have fS:vE V rs=S9:=by unfold vE;rw[fQ,eS];rfl
 refine⟨⟨A2,A0,by rw[h.fW];exact h.eW,by rw[h.fW,fQ];exact eQ,by rw[fQ,fS];exact eS,by rw[fS];exact(rS.1 0 zd).1⟩,by rw[fS];exact rS,?_⟩
 rw[fS,vS 0 zd 0 zd]
 have A1:∀j,j<rs.length->Q Q9 0 j=sm rs.length (λi=>qv (ar rs i)*Q W i j):=λj O=>by
  rw[vQ 0 zd j O]
  exact au λi hi=>by rw[PZ (m:=1) 0 i hi];rfl
 show sm rs.length (λj=>Q Q9 0 j*Q (bA rs) j 0)=_
 rw[au (n:=rs.length) (g:=λj=>sm rs.length (λi=>qv (ar rs i)*(Q W i j*qv (ar rs j)))) λj O=>by
  rw[A1 j O]
  show _*qv (ar rs j)=_
  rw[<-nd];exact au λi _=>by grind]
 rw[iO]
 exact au λi _=>by rw[dm]
def Ve (v:Hz m n L V ys W):RB n 1 (bA (sY m n L V ys)) 24186470400000000000000000000 151165440000000000000000000:=v.rX.congr λi hi=>(v.fxX i hi).symm
def Qd (h:mN m n L V ys W)(v:Hz m n L V ys W):PT m L ys (sY m n L V ys)/\qT m L ys (sY m n L V ys)=oC m n L V ys:=by
 obtain⟨h1,h2,h3⟩:=yR h v.fxl (Ve v)
 refine⟨h1,Bc (m:=m) kV v.rl λi hi=>yw ((h2.1 i hi).2 0 zd) ((v.rR.1 i hi).2 0 zd) ?_⟩
 show qv (ar (qT m L ys (sY m n L V ys)) i)=qv (ar (oC m n L V ys) i)
 rw[h3 i hi,v.rv i hi]
def Qe (h:mN m n L V ys W)(v:Hz m n L V ys W):YC V (oC m n L V ys)/\ar (vE V (oC m n L V ys) 0) 0=ar (HR m n L V ys 0) 0:=by
 obtain⟨h1,h2,h3⟩:=vi h v.rl v.rR
 refine⟨h1,yw ((h2.1 0 zd).2 0 zd) ((v.okS 0 zd).2 0 zd) ?_⟩
 exact h3.trans v.sv.symm
def MG (h:mN m n L V ys W)(rB:∃N D,N<=54000000/\D<=11250000/\RB n m (vU m n L V) N D)(v:Hz m n L V ys W):
 ∃kd,c6 n (vU m n L V) m (bA (oC m n L V ys))=some kd/\∀p,p<n->(kd p).length=1/\ar (kd p) 0=br 0 1:=by
 have O:1<=m/\m<=8:=⟨h.hm.1,by have:=h.hm.2;omega⟩
 have H:1<=n/\n<=8:=⟨h.hn.1,by have:=h.hn.2;omega⟩
 obtain⟨N,D,h1,h2,rB⟩:=rB
 obtain⟨kd,eZ,rZ,vZ⟩:=RB.mul (N:=1018734133248000000000000000000000000000) (D:=6802444800000000000000000000000000) H O zd (rB.mono h1 h2) v.rR Hx Hx zd zd
 refine⟨kd,eZ,λp E=>⟨(rZ.1 p E).1,?_⟩⟩
 rw[<-MC]
 refine(Fo ((rZ.1 p E).2 0 zd)).1 ?_
 show Q kd p 0=0
 rw[vZ p E 0 zd]
 exact v.ne p E
def Yi (h:mN m n L V ys W):∃N D,N<=54000000/\D<=11250000/\RB n m (vU m n L V) N D:=by
 have E:1<=m/\m<=8:=⟨h.hm.1,by have:=h.hm.2;omega⟩
 have H:1<=n/\n<=8:=⟨h.hn.1,by have:=h.hn.2;omega⟩
 obtain⟨B,eB,rB,_⟩:=RB.mul (N:=54000000) (D:=11250000) H E E h.rL.tr h.rW Hx Hx zd zd
 have fB:vU m n L V=B:=by unfold vU;rw[h.fW,eB];rfl
 exact⟨_,_,qa0 _,qa0 _,by rw[fB];exact rB⟩
def HB (h:mN m n L V ys W)(v:Hz m n L V ys W)(zl:zs.length=n)(rz:RB n 1 (bA zs) 24186470400000000000000000000 151165440000000000000000000):Q (vE V (oC m n L V ys)) 0 0<=Q (vE V (qT m L ys zs)) 0 0:=by
 obtain⟨_,h2,h3⟩:=yR h zl rz
 rw[(vi h v.rl v.rR).2.2,(vi h kV h2).2.2]
 exact least (L:=Q L) (x:=λk=>qv (ar (sY m n L V ys) k)) (x':=λk=>qv (ar zs k)) (y:=λi=>qv (ar ys i)) (n:=n) h.sW h.pdW (λk hk=>by rw[<-v.ne k hk];exact au λi hi=>by rw[v.bv k hk i hi]) v.rv h3
def Vf (o0 o1:Int)(hn:1<=n/\n<=2):([br (aV o0 81-40) 4,br (aV o1 81-40) 4].take n).length=n/\RB n 1 (bA ([br (aV o0 81-40) 4,br (aV o1 81-40) 4].take n)) 40 4:=by
 have E:=du o0 81 zd
 have h1:=du o1 81 zd
 have v0:=lL (a:=aV o0 81-40) (b:=4) J zd
 have v1:=lL (a:=aV o1 81-40) (b:=4) J zd
 refine⟨by rw[List.length_take];show min n 2=n;omega,λi hi=>⟨rfl,λk _=>?_⟩,4,by decide,by decide,λi _=>if i=0 then aV o0 81-40 else aV o1 81-40,λi hi j _=>⟨?_,?_⟩⟩
 · rw[show k=0 by omega]
   show bJ (ar (List.take n _) i)=true
   rw[pZ hi]
   have:i=0\/i=1:=J
   rcases this with rfl|rfl
   · exact v0.1
   · exact v1.1
 · rw[show j=0 by omega]
   show qv (ar (List.take n _) i)=_
   rw[pZ hi]
   have:i=0\/i=1:=J
   rcases this with rfl|rfl
   · exact v0.2
   · exact v1.2
 · show(if i=0 then aV o0 81-40 else aV o1 81-40).natAbs<=40
   split <;>omega
def Qf {a b:R}(ha:bJ a=true)(hb:bJ b=true)(h:qv b<=qv a):0<=aN (ah a.1*ah b.2) (ah b.1*ah a.2):=by
 have H:=cE ha
 have p2:=cE hb
 have:ah b.1*ah a.2<=ah a.1*ah b.2:=by
  unfold qv at h
  have q1:(0:Rat)<(ah a.2:Rat):=by have:=Rat.intCast_lt_intCast.2 H;simpa using this
  have E:(0:Rat)<(ah b.2:Rat):=by have:=Rat.intCast_lt_intCast.2 p2;simpa using this
  have h1:(ah b.1:Rat)/(ah b.2:Rat)*((ah a.2:Rat)*(ah b.2:Rat))<=(ah a.1:Rat)/(ah a.2:Rat)*((ah a.2:Rat)*(ah b.2:Rat)):=Rat.mul_le_mul_of_nonneg_right h (Rat.le_of_lt (Rat.mul_pos q1 E))
  have h2:((ah b.1*ah a.2:Int):Rat)<=((ah a.1*ah b.2:Int):Rat):=by
   rw[Rat.intCast_mul,Rat.intCast_mul]
   have e1:(ah b.1:Rat)/(ah b.2:Rat)*((ah a.2:Rat)*(ah b.2:Rat))=(ah b.1:Rat)*(ah a.2:Rat):=by grind
   have e2:(ah a.1:Rat)/(ah a.2:Rat)*((ah a.2:Rat)*(ah b.2:Rat))=(ah a.1:Rat)*(ah b.2:Rat):=by grind
   rw[e1,e2]at h1;exact h1
  exact Rat.intCast_le_intCast.1 h2
 unfold aN;split
 · omega
 · split <;>omega
end
section
variable {m:Nat}{L V W:Rows}{ys zs rs:List R}
def Vg {f:Nat}{R R':Value->World->Prop}(h:CL f args w (aG w R))(hr:∀v w',R v w'->R' v w'):CL f args w (aG w R'):=
 h.mono λe w' E=>by cases e <;>first|exact⟨E.1,hr _ _ E.2⟩|exact E
def FZ {z:Int}(h:z.natAbs<=N)(hN:N<dD):Fz z:=Nat.lt_of_le_of_lt h hN
def Qg {a b:R}(ha:Bq a (qv a) N D)(hb:Bq b (qv b) N D)(hN:N<dD)(hD:D<dD)(ht:Tb w):
 CL 26 #[.agg #[S a.1,S a.2],.agg #[S b.1,S b.2]] w (aG w λv w'=>v=.int .i64 (aN (ah a.1*ah b.2) (ah b.1*ah a.2))):=by
 have e1:=iv (ii ha.ok)
 have e2:=iv (fK ha.ok)
 have E:=iv (ii hb.ok)
 have H:=iv (fK hb.ok)
 have h:=AR (N1:=ah a.1) (D1:=ah a.2) (N2:=ah b.1) (D2:=ah b.2) (w:=w) (by rw[e1,e2];exact ha.ok) (by rw[E,H];exact hb.ok) (FZ ha.num hN) (FZ ha.den hD) (FZ hb.num hN) (FZ hb.den hD) ht
 rw[e1,e2,E,H]at h
 exact h
def MH (hl:rs.length=m)(hV:Mt w lo B m G V)(hx:Rw w lo2 X (ag rs))(h:YC V rs)(ht:Tb w):
 CL 25 #[.slice B m CB,.slice X m CX] w (aG w λv _=>v=.tuple #[.agg #[S (ar (vE V rs 0) 0).1,S (ar (vE V rs 0) 0).2],.bool true]):=by
 subst hl
 exact Ye hV hx h ht
def F0 {CY lo4:Nat}(hD:ey w A C Y CY B CB L V ys)(ok:eT L V ys)(hm:ys.length=m)(hl:zs.length=n)(hz:Rw w lo4 X (ag zs))(h:PT m L ys zs)(ht:Tb w):
 CL 24 #[.agg #[.slice A m C,.slice Y m CY,.slice B m CB],.slice X n CX] w (aG w λv w'=>∃u,v=.tuple #[u,.int .i64 0]/\∃P cp,u=.slice P m cp/\Rw w' w.heap.size P (ag (qT m L ys zs))):=by
 subst hl
 refine Vg (PU hD ok hm hz h ht) λv w' E=>?_
 obtain⟨u,e,P,cp,e2,_,hr⟩:=E
 refine⟨u,e,P,cp,?_,hr⟩
 rw[e2,kV]
def Qh (x0 x1:Int):∃m n:Nat,2+aV x0 4=((m:Nat):Int)/\1+aV x1 2=((n:Nat):Int)/\(2<=m/\m<=5)/\(1<=n/\n<=2):=by
 have E:=du x0 4 zd
 have h1:=du x1 2 zd
 exact⟨(2+aV x0 4).toNat,(1+aV x1 2).toNat,by omega,by omega,by omega,by omega⟩
def MI {m:Nat}(hx0:In64 x0)(hx1:In64 x1)(hm:2+aV x0 4=((m:Nat):Int))(hn:1+aV x1 2=((n:Nat):Int))(hx:Rw w lo X (nk xs))(hxc:xs.length<=CX):
 CL 10 #[.agg #[.int .i64 x0,.int .i64 x1,.slice X xs.length CX]] w (aG w λv w'=>∃A C Y CY B CB,v=.agg #[.slice A m C,.slice Y m CY,.slice B m CB]/\gl w.heap.size w' A C Y CY B CB (fm (xs.take 40) n) (g8 (xs.take 40) m) (yA (xs.take 40) m)):=by
 refine Vg (PQ hx0 hx1 hm hn hx hxc) λv w' E=>?_
 obtain⟨A,C,Y,CY,B,CB,H,G,lo,_,h1,_,e,h3⟩:=E
 exact⟨A,C,Y,CY,B,CB,e,gl.mono h1 h3.des⟩
def RH:Prop:=∀(W:World) (a:Addr),Er W a->Tb W->CL 9 #[] W (aG W λv _=>v=.bool true)
def r7 (hSn:RH){o1:Int}{a:Addr}(hx0:In64 x0)(hx1:In64 x1)(ho0:In64 o0)(ho1:In64 o1)(hx:Rw w lo X (nk xs))(hxc:xs.length<=CX)(hE:Er w a)(ht:Tb w):
 CL 7 #[.agg #[.int .i64 x0,.int .i64 x1,.slice X xs.length CX],.agg #[.int .i64 o0,.int .i64 o1]] w (aG w λv _=>v=.bool true):=by
 obtain⟨m,n,hm,Af,Ar,A0⟩:=Qh x0 x1
 obtain⟨W,h,_⟩:=MF (xs:=xs.take 40) Ar A0
 have ok:=h.ok
 have E:=h.yl
 have hk:(fm (xs.take 40) n 0).length=n:=by simp[fm]
 have hv:vM m (fm (xs.take 40) n)=true:=by have:=ok.hv;rwa [E]at this
 have A2:vM m (g8 (xs.take 40) m)=true:=by have:=ok.hv3;rwa [E]at this
 have hS:∀W,aO w W->CL 9 #[] W (aG W λv _=>v=.bool true):=λW q=>hSn W a (hE.ext q) (ht.ext q)
 have hMd:=fun(W:World) (q:aO w W)=>MI (CX:=CX) hx0 hx1 hm Af (hx.ext q) hxc
 obtain⟨r,Ap,_,_,eB,eG,hs⟩:=Qb h
 rcases hs with⟨h1,eC⟩|⟨h1,hf,v⟩
 · exact Du (k:=r) E J A0 hk hv A2 hS hMd (λA C Y CY B CB W hD q=>PW hD ok E hk (hE.ext q) (by rw[h.fW];exact h.eW) (by rw[h.fW];exact eB) eG eC (ht.ext q))
    (λA C H lo W hM q=>nc (KR hM (dM hv) (ht.ext q)) (qb2 GT Ap)) h1
 · obtain⟨hR1,eR1⟩:=Qd h v
   obtain⟨hW1,eW1⟩:=Qe h v
   obtain⟨A1,Am⟩:=Vf o0 o1 A0
   have rz':=Am.mono (by decide:40<=24186470400000000000000000000) (by decide:4<=151165440000000000000000000)
   obtain⟨hR2,rR2,_⟩:=yR h A1 rz'
   obtain⟨hW2,rS2,_⟩:=vi h kV rR2
   obtain⟨_,rS1,_⟩:=vi h v.rl v.rR
   obtain⟨kd,eZ,hZ⟩:=MG h (Yi h) v
   have Ab:=HB h v A1 rz'
   have b1:=rS1.bq (by decide:0<1) (by decide:0<1)
   have b2:=rS2.bq (by decide:0<1) (by decide:0<1)
   obtain⟨Aq,_⟩:=kW h.hm.1 (by omega:m<=8) (by decide:1<=1) (by decide:1<=8) v.rR.1
   exact HA (q1:=ar (vE (g8 (xs.take 40) m) (oC m n (fm (xs.take 40) n) (g8 (xs.take 40) m) (yA (xs.take 40) m)) 0) 0) (xs1:=sY m n (fm (xs.take 40) n) (g8 (xs.take 40) m) (yA (xs.take 40) m)) (rs1:=oC m n (fm (xs.take 40) n) (g8 (xs.take 40) m) (yA (xs.take 40) m)) (C0:=xc m n (fm (xs.take 40) n) (g8 (xs.take 40) m)) (W0:=W) (B0:=vU m n (fm (xs.take 40) n) (g8 (xs.take 40) m)) (Z0:=kd) ho0 ho1 E J A0 hk hv A2 v.fxl v.rl hS hMd
    (λA C Y CY B CB W hD q=>Vg (PV hD ok E hk hf (ht.ext q)) λ_ _ Ao=>by
     obtain⟨u,e,hF⟩:=Ao
     exact⟨u,e,by rw[eW1];exact hF.m v.fxl⟩)
    (λA C Y CY B CB X CX lo W hD O q=>by have:=F0 (CX:=CX) hD ok E v.fxl O hR1 (ht.ext q);rwa [eR1]at this)
    (λA C Y CY B CB X CX lo W hD O q=>F0 (CX:=CX) hD ok E A1 O hR2 (ht.ext q))
    (λB CB G lo X CX lo2 W hV O q=>MH v.rl hV O hW1 (ht.ext q))
    (λB CB G lo X CX lo2 W hV O q=>MH kV hV O hW2 (ht.ext q))
    (λW q=>Qg (N:=800786446176353255424000000000000000000000000000000000000000000000000) (D:=4113178245070848000000000000000000000000000000000000000000000) ⟨b2.ok,rfl,b2.num,b2.den⟩ ⟨b1.ok,rfl,b1.num,b1.den⟩ Hx Hx (ht.ext q))
    (Qf b2.ok b1.ok Ab) h.eW eB Aq eZ hZ ht
end
end
section
set_option maxRecDepth 100000
attribute [local irreducible] wpListIn Code.wpIn Oper.wpIn Exit.then Exit.inBlock Exit.noGoto
set_option maxHeartbeats 40000000
def vN (p:N2):Value:=.agg #[S (nS p.1),S (nS p.2)]
def fv (g:Nat)(lb:Array Value):Value:=.func (.func g) #[] lb
def Dv (t0:N2)(f:Value)(W:World)(v:Value):Prop:=∃b1 b2,v=.func (.func 224) #[] #[pT b1,pT b2]/\ap W b1 191 #[S (nS t0.1),S (nS t0.2)]/\ap W b2 245 #[f]
def Dv.ext {t0:N2}{f v:Value}{A B:World}(k:aO A B)(h:Dv t0 f A v):Dv t0 f B v:=by
 obtain⟨b1,b2,e,h1,h2⟩:=h
 exact⟨b1,b2,e,h1.ext k,h2.ext k⟩
def rq (q:Bool)(t l:N2):Bool:=q&&(decide (t.2<=2)&&decide (t.2*2<=l.2+2))
section
variable {q:Bool}{t l:N2}
def ZS (h:q=false):Value.bool q=.bool (rq q t l):=by subst h;rfl
def ZT (h:q=true)(h1:¬aN ((t.2:Nat):Int) ((2:Nat):Int)<=0):Value.bool false=.bool (rq q t l):=by
 rw[c7]at h1;subst h;unfold rq;rw[decide_eq_false U];rfl
def ZU (h:q=true)(h1:aN ((t.2:Nat):Int) ((2:Nat):Int)<=0):Value.bool (decide (aN ((t.2*2:Nat):Int) ((l.2+2:Nat):Int)<=0))=.bool (rq q t l):=by
 rw[c7]at h1;subst h;unfold rq;rw[decide_eq_true (show t.2<=2 by omega),Bool.true_and,Bool.true_and]
 congr 1;rw[decide_eq_decide,c7];omega
end
def vV (T:Nat->N2):Nat->N2
 |0=>(0,0)
 |k+1=>T k
def AF.last {T:Nat->N2}{m:Nat}(h:AF T m)(hk:k<=m):rq (decide (k≠0)) (T k) (vV T k)=decide (k=m):=by
 unfold rq
 by_cases e:k=m
 · subst e
   have E:=h.pos
   obtain⟨p,rfl⟩:∃p,k=p+1:=⟨k-1,by omega⟩
   have:=h.stop
   rw[decide_eq_true U,decide_eq_true this.1,decide_eq_true (show(T (p+1)).2*2<=(vV T (p+1)).2+2 from this.2),decide_eq_true Z];rfl
 · rw [decide_eq_false e]
   rcases h.go k U with h0|h0
   · rw[decide_eq_false U];rfl
   · cases k with
     |zero=>rfl
     | succ p=>
       have h1:¬((T (p+1)).2<=2/\(T (p+1)).2*2<=(vV T (p+1)).2+2):=h0
       by_cases h2:(T (p+1)).2<=2
       · rw[decide_eq_false (λe=>h1 ⟨h2,e⟩)];simp
       · rw[decide_eq_false h2];simp
def MJ {l m:List UInt8}(hl:l=nS a)(hm:m=nS b)(ha:Fi a)(hb:Fi b):CL 64 #[S l,S m] w (aG w λv _=>v=.int .i64 (aN (a:Int) (b:Int))):=by
 subst hl hm
 exact nc (pf _ _ _) (qb2 (Value.int .i64) (KX ha.z hb.z))
def rr (hS:Sc sO)(ht:Tb w):CL 191 #[.agg #[.int .i64 pl,S (nS sO)],.int .i64 0] w (aG w λv _=>v=.agg #[S (nS 0),S (nS 0)]):=by
 have h:=iI (n:=0) (pl:=pl) hS dc (by rw[Nat.zero_mul];unfold Fi;decide) ht
 simp only[Nat.zero_mul]at h
 exact h
def vj {t0:N2}:
 CL 190 #[.agg #[S (nS t0.1),S (nS t0.2)],.func (.func g) #[] lb] w (aG w λv w'=>Dv t0 (fv g lb) w' v):=by
 refine aC func190 Z (I ?_);refine bx (λA0 A2 E=>?_);have H:=A2.2;refine bx (v:=.func (.func g) #[] lb) (hx:=rfl) (λ_ O A1=>?_);have E:=be O.2 E;have H:=xt H O.2;refine aa (aK (v:=.nilFunc) Z ?_);refine I ?_;refine aa (aD (vf:=[]) (vc:=[pT w.heap.size,pT A0.heap.size]) Z Z ?_);refine I ?_;exact am (t:=4) (v:=.func (.func 224) #[] #[pT w.heap.size,pT A0.heap.size]) Z H ⟨_,_,rfl,E,A1⟩ Z
def Qi {q:Bool}{t l:N2}(h1:ap w b1 4 #[.bool q])(h2:ap w b2 191 #[S (nS l.1),S (nS l.2)])(ht2:Bk 99 t)(hl:Bk 99 l)(ht:Tb w):
 CL 221 #[.agg #[S (nS t.1),S (nS t.2)],pT b1,pT b2] w (aG w λv w'=>v=.bool (rq q t l)):=by
 have H:=(ht2.fi dc).2;have f2:Fi (t.2*2):=by have:=ht2.2;unfold Fi;omega
 have A0:Fi (l.2+2):=by have:=hl.2;unfold Fi;omega
 refine aC func221 Z (I ?_);refine bx (λ_ O _=>?_);have h1:=be O.2 h1;have h2:=be O.2 h2;have E:=O.2;refine I ?_;rcases qa4 q with cm|cm;by_cases cr:(aN ((t.2:Nat):Int) ((2:Nat):Int))<=0;refine bL 13 ?_;refine sf ?_;refine aR (V:=.int .i64 (aN ((t.2:Nat):Int) ((2:Nat):Int))) (λ_ _ _ _=>?_) ?_;refine I ?_;refine clb xm (hc:=MJ Z wQ H (g5 (k:=1) dc dc)) (hk:=?_);rintro _ _ Ab rfl;have Af:=Ab.2;refine I ?_;exact fs ⟨Af,rfl⟩;refine sf ?_;refine aR (V:=S (nS (t.2*2))) (λ_ _ Am _=>?_) ?_;refine I ?_;refine clb ir (hc:=gd Z wQ H (g5 (k:=1) dc dc) f2 (ht.ext (xt E Am))) (hk:=?_);rintro _ _ Aq rfl;have Ar:=Aq.2;refine I ?_;exact fs ⟨Ar,rfl⟩;refine sf ?_;intro _ _ Aw _;have E:=xt E Aw.2;with_reducible refine iu Z ?_
 refine I ?_;refine cl mj (ke Z wQ A0 (ht.ext E)) ?_;rintro _ _ Ao rfl;have E:=xt E Ao.2;refine I ?_;refine cl xm (MJ Z Z f2 A0) ?_;rintro _ _ Ap rfl;have E:=xt E Ap.2;refine I ?_;exact am (t:=4) (v:=.bool (decide ((aN ((t.2*2:Nat):Int) ((l.2+2:Nat):Int))<=0))) Z E (ZU cm cr) Z;refine bL 13 ?_;refine sf ?_;refine aR (V:=.int .i64 (aN ((t.2:Nat):Int) ((2:Nat):Int))) (λ_ _ _ _=>?_) ?_;refine I ?_;refine clb xm (hc:=MJ Z wQ H (g5 (k:=1) dc dc)) (hk:=?_);rintro _ _ As rfl;have Av:=As.2;refine I ?_;exact fs ⟨Av,rfl⟩;refine sf ?_;intro _ _ A2 _;have E:=xt E A2.2;with_reducible refine iu Z ?_
 refine I ?_;exact am (t:=4) (v:=.bool false) Z E (ZT cm cr) Z;refine bL 13 ?_;refine sf ?_;intro _ _ A1 _;have E:=xt E A1.2;with_reducible refine iu Z ?_
 refine I ?_;exact am (t:=4) (v:=.bool false) Z E ((qb2 Value.bool cm).symm.trans (ZS cm)) Z
def Qj {P:Program}{f:FuncId}{vs:List Value}{R:Ending->World->Prop}(h:Calls P f (vs.toArray++lb) w R):Calls P f (vs++lb.toList).toArray w R:=by rw[show(vs++lb.toList).toArray=vs.toArray++lb from Array.toList_inj.1 Wf];exact h
def Dw {T:Nat->N2}{m:Nat}{bs:List Nat}(E:aO w0 w)(h1:ap w0 b1 191 #[S (nS (T 0).1),S (nS (T 0).2)])(h2:ap w0 b2 245 #[fv gn lbn])(hbs:∀b∈bs,w0.heap.size<=b/\b<w.heap.size)(hen:Enters prog gn)(hm:m<100000)(hn:∀k<m,∀W,aO w0 W->CL gn (#[vN (T k),.int .i64 ((k+1:Nat):Int)]++lbn) W (aG W λv _=>v=vN (T (k+1)))):
 Rz prog 224 [pT b1,pT b2] (λk=>[vN (T k)]) bs (λW=>aO w0 W) (m+1) w:=by
 intro l k6 Jx W hW hJ0 hJx0 hM hY H;have E:=xt E hW;have zE:=bz E;have GC:=bt h1;have Ix:=bt h2;have h1:=be E h1;have h2:ap W b2 245 #[.func (.func gn) #[] lbn]:=be E h2;have ES:=bz hW;obtain⟨hW0,_⟩:∃n,n=W.heap.size:=⟨_,rfl⟩;refine qn ?_;refine D3 func224 Z (I ?_);have H2:=bt h1;have wr:=bt h2;refine bL 3 ?_;refine aA (λ_ _ Aw _=>by have h1:=be Aw h1;have H:=(hJ0 _).ext Aw H;refine I ?_;exact aH) ?_;refine bR (λv CG=>∃b:Nat,v=pT b/\W.heap.size<=b/\ap CG b 191 #[S [],S []]) (hs:=λ_ _ _ k ⟨b,e,l,h⟩=>⟨b,e,l,h.ext k⟩) (λ_ _ Av _=>?_) ?_;have H:=(hJ0 _).ext Av H;refine al bM (λ_ As E6=>?_);have H:=(hJ0 _).ext As.2 H;have ny:=As.2;refine I ?_;exact fs ⟨ny,⟨_,rfl,(by have:=bz Av;omega),E6⟩⟩;refine aA (λ_ _ Ax _=>by have H:=(hJ0 _).ext Ax H;refine I ?_;exact aH) ?_;refine sf ?_;intro _ _ Ap od;have h1:=be Ap.2 h1;have h2:=be Ap.2 h2;have H:=(hJ0 _).ext Ap.2 H;have E:=xt E Ap.2;obtain⟨E5,C1,_,nm⟩:=(od 1 5 Z Z);refine SA nm (λ_ Am B1=>?_);have h1:=pb Am h1;have h2:=pb Am h2;have H:=(hJ0 _).put Am U H;have E:=bi Am E;refine I ?_;refine cg [(4,5),(7,16)] (λE0 e W=>∃k:Nat,∃Aq:Nat,(m+1-k=E0)/\(e 4=.int .i64 ((k+1:Nat):Int))/\(e 5=pT Aq)/\(hW0<=Aq)/\(aO w0 W)/\(ap W b1 191 #[S (nS ((T 0).1)),S (nS ((T 0).2))])/\(ap W b2 245 #[.func (.func gn) #[] lbn])/\(ap W Aq 191 #[S (nS ((T k).1)),S (nS ((T k).2))])/\(k6 k W)) (m+1-0) ⟨0,E5,rfl,rfl,C1,U,E,h1,h2,B1,H⟩ ?_
 rintro _ _ Az ⟨k,Aq,rfl,FR,EW,E9,O,h1,h2,A1,q1⟩;have G0:=bt A1;refine I ?_;refine aa (xB (l:=l) (vs:=[vN (T k)]) Z (av Z Z) (hY k Az q1) ?_);rintro _ _ Cr;obtain⟨q,rfl,E4,E1⟩:=rb Cr;show wpListIn _ _ _ _ _ _ _ _;refine I ?_;refine xi (q:=q) Z (λAr=>?_) (λAr=>?_);obtain⟨hJ,hC,hK⟩:=E4 Ar;have h1:=hC.blk (λh=>by have:=hbs _ h;omega) h1;have h2:=hC.blk (λh=>by have:=hbs _ h;omega) h2;have A1:=hC.blk (λh=>by have:=hbs _ h;omega) A1;have O:=hK O;have zC:=hC.size;have H3:=hM _ _ hJ;refine I ?_;refine aa (lW (vs:=[.agg #[S (nS ((T k).1)),S (nS ((T k).2))],.int .i64 ((k+1:Nat):Int)]) (lb:=lbn.toList) hen Z Z (Qj (hn k U _ O)) ?_);rintro _ _ Ab rfl;have h1:=be Ab.2 h1;have h2:=be Ab.2 h2;have A1:=be Ab.2 A1;have hJ:=(hJ0 _).ext Ab.2 hJ;have O:=xt O Ab.2;refine SA A1 (λAy A2 Ao=>?_);have h1:=pb A2 h1;have h2:=pb A2 h2;have hJ:=(hJ0 _).put A2 U hJ;have O:=bi A2 O;have E7:=iM A2;refine I ?_;refine al bM (λ_ Af CY=>?_);have h1:=be Af.2 h1;have h2:=be Af.2 h2;have Ao:=be Af.2 Ao;have hJ:=(hJ0 _).ext Af.2 hJ;have O:=xt O Af.2;refine SA CY (λ_ A0 B2=>?_);have h1:=pb A0 h1
 have h2:=pb A0 h2;have Ao:=pb A0 Ao;have hJ:=(hJ0 _).put A0 U hJ;have O:=bi A0 O;have H4:=iM A0;refine I ?_;refine gP (I ?_);exact bI ⟨k+1,Ay.heap.size,rfl,rfl,rfl,U,O,h1,h2,B2,hJ⟩;refine I ?_;exact sh Z λv=>⟨⟨v,rfl⟩,_,E1 CA⟩
def Qk {T:Nat->N2}{m:Nat}(h:AF T m)(hk:k<=m):Bk 99 (vV T k):=by
 cases k with
 |zero=>exact⟨by simp[vV],by simp[vV]⟩
 |succ p=>exact(h.bd p U).mono dc
set_option maxRecDepth 100000 in
def Dx {T:Nat->N2}{m:Nat}(hR:AF T m)(hS:Sc sO)(hB1:ap w b1 191 #[S (nS (T 0).1),S (nS (T 0).2)])(hB2:ap w b2 245 #[fv gn lbn])(hen:Enters prog gn)(hn:∀k<m,∀W,aO w W->CL gn (#[vN (T k),.int .i64 ((k+1:Nat):Int)]++lbn) W (aG W λv _=>v=vN (T (k+1))))(ht:Tb w):
 CL 189 #[.agg #[.int .i64 pl,S (nS sO)],.func (.func 224) #[] #[pT b1,pT b2]] w (aG w λv w'=>v=.agg #[S (nS ((vO T m).1)),S (nS ((vO T m).2))]):=by
 refine ra func189 Z (I ?_);refine bx (λE0 cr Vm=>?_);have O:=cr.2;refine al bM (λLi cc eD=>?_);have⟨Vm,O⟩:=bn cc.2 Vm O;refine I ?_;have Ne:=ac3 Li
 refine IP tm 7 (λe0 ls e W=>∃Ab:Nat,∃A2:Nat,∃A1:Nat,(∀t,F8 [5,6,7,10,11,12,13] t=false->e t=e0 t)/\(aO w W)/\(Li.heap.size<=W.heap.size)/\(ls 0=true->e 10=.agg #[.int .i64 pl,S (nS sO)])/\(ls 1=true->e 11=.agg #[S (nS 0),S (nS 0)])/\(ls 2=true->e 12=.agg #[.int .i64 pl,S (nS sO)])/\(ls 3=true->e 13=.agg #[S (nS 0),S (nS 0)])/\(ls 4=true->e 5=pT Ab)/\(ls 5=true->e 6=pT A2)/\(ls 6=true->e 7=pT A1)/\(ls 4=true->Li.heap.size<=Ab)/\(ls 5=true->Li.heap.size<=A2)/\(ls 6=true->Li.heap.size<=A1)/\(ls 4=true->ls 5=true->Ab≠A2)/\(ls 4=true->ls 6=true->Ab≠A1)/\(ls 5=true->ls 6=true->A2≠A1)/\(ap W w.heap.size 189 #[.int .i64 pl,S (nS sO)])/\(ap W E0.heap.size 191 #[S [],S []])/\(ls 4=true->ap W Ab 191 #[S [],S []])/\(ls 5=true->ap W A2 191 #[S [],S []])/\(ls 6=true->ap W A1 4 #[.bool false])) ⟨0,0,0,(λ_ _=>rfl),(xt O Ne),(bz Ne),(ff Z),(ff Z),(ff Z),(ff Z),(ff Z),(ff Z),(ff Z),(ff Z),(ff Z),(ff Z),(λh _=>ff Z h),(λh _=>ff Z h),(λh _=>ff Z h),(be Ne Vm),(be Ne eD),(λh=>ff Z h),(λh=>ff Z h),(λh=>ff Z h)⟩ q0 q0 ?_ ?_;refine⟨λfa an eg e5 fT fG _=>?_,?_⟩;obtain⟨Ab,A2,A1,a9,O,K3,B1,B2,Az,nm,Aw,Ax,Ay,C1,ny,od,CY,CG,Cr,As,Av,Ar,Ap,Aq⟩:=e5
 obtain⟨fa,rfl⟩:=dX a9;have gr:eg 1=false:=(bS fT (i:=0) (j:=1) Z fG);have eQ:ap an w.heap.size 189 #[.int .i64 pl,S (nS sO)]:=As;have cx:ap an E0.heap.size 191 #[S [],S []]:=Av;refine I ?_;exact⟨rfl,_,(aw _ _ _ _ _).symm,Ab,A2,A1,(c8 Z a9),O,U,(λ_=>rfl),B2,Az,nm,Aw,Ax,Ay,C1,ny,od,CY,CG,Cr,(eQ),(cx),(λeG=>Ar eG),(λd0=>Ap d0),(λce=>Aq ce)⟩;refine⟨λbW ad fy cm _ _ cv=>?_,?_⟩;obtain⟨Ab,A2,A1,bv,O,K3,B1,B2,Az,nm,Aw,Ax,Ay,C1,ny,od,CY,CG,Cr,As,Av,Ar,Ap,Aq⟩:=cm;obtain⟨bW,rfl⟩:=dX bv;have eX:fy 0=true:=(cv 0 Z);have fR:bW 10=.agg #[.int .i64 pl,S (nS sO)]:=B1 eX;have P0:ap ad w.heap.size 189 #[.int .i64 pl,S (nS sO)]:=As;have Q0:ap ad E0.heap.size 191 #[S [],S []]:=Av;refine cl nN (rr hS (ht.ext O)) ?_ (av fR (av Z Z));rintro _ _ Lj rfl;have⟨P0,Q0,O⟩:=cj Lj.2 P0 Q0 O;refine I ?_;exact⟨rfl,_,(aw _ _ _ _ _).symm,Ab,A2,A1,(c8 Z bv),O,U,B1,(λ_=>rfl),Az,nm,Aw,Ax,Ay,C1,ny,od,CY,CG,Cr,(P0),(Q0),(λfW=>(be Lj.2 (Ar fW))),(λfu=>(be Lj.2 (Ap fu))),(λd4=>(be Lj.2 (Aq d4)))⟩;refine⟨λeC a8 _ cq _ _ _=>?_,?_⟩;obtain⟨Ab,A2,A1,b0,O,K3,B1,B2,Az,nm,Aw,Ax,Ay,C1,ny,od,CY,CG,Cr,As,Av,Ar,Ap,Aq⟩:=cq;obtain⟨eC,rfl⟩:=dX b0
 have cw:ap a8 w.heap.size 189 #[.int .i64 pl,S (nS sO)]:=As;have fQ:ap a8 E0.heap.size 191 #[S [],S []]:=Av;refine I ?_;exact⟨rfl,_,(aw _ _ _ _ _).symm,Ab,A2,A1,(c8 Z b0),O,U,B1,B2,(λ_=>rfl),nm,Aw,Ax,Ay,C1,ny,od,CY,CG,Cr,(cw),(fQ),(λfl=>Ar fl),(λf7=>Ap f7),(λeq=>Aq eq)⟩;refine⟨λbZ bb a2 ed _ _ bp=>?_,?_⟩;obtain⟨Ab,A2,A1,c9,O,K3,B1,B2,Az,nm,Aw,Ax,Ay,C1,ny,od,CY,CG,Cr,As,Av,Ar,Ap,Aq⟩:=ed;obtain⟨bZ,rfl⟩:=dX c9;have h5:a2 1=true:=(bp 1 Z);have cy:a2 2=true:=(bp 2 Z);have ft:bZ 12=.agg #[.int .i64 pl,S (nS sO)]:=Az cy;have Rm:ap bb w.heap.size 189 #[.int .i64 pl,S (nS sO)]:=As;have T2:ap bb E0.heap.size 191 #[S [],S []]:=Av;refine cl nN (rr hS (ht.ext O)) ?_ (av ft (av Z Z));rintro _ _ N0 rfl;have⟨Rm,T2,O⟩:=cj N0.2 Rm T2 O;refine I ?_;exact⟨rfl,_,(aw _ _ _ _ _).symm,Ab,A2,A1,(c8 Z c9),O,U,B1,B2,Az,(λ_=>rfl),Aw,Ax,Ay,C1,ny,od,CY,CG,Cr,(Rm),(T2),(λeZ=>(be N0.2 (Ar eZ))),(λfD=>(be N0.2 (Ap fD))),(λg2=>(be N0.2 (Aq g2)))⟩;refine⟨λe6 WV _ fS _ _ _=>?_,?_⟩;obtain⟨Ab,A2,A1,a4,O,K3,B1,B2,Az,nm,Aw,Ax,Ay,C1,ny,od,CY,CG,Cr,As,Av,Ar,Ap,Aq⟩:=fS;obtain⟨e6,rfl⟩:=dX a4
 have W3:ap WV w.heap.size 189 #[.int .i64 pl,S (nS sO)]:=As;have a0:ap WV E0.heap.size 191 #[S [],S []]:=Av;refine al bM (λ_ T3 g1=>?_);have⟨W3,a0,O⟩:=cj T3.2 W3 a0 O;refine I ?_;exact⟨rfl,_,(aw _ _ _ _ _).symm,WV.heap.size,A2,A1,(c8 Z a4),O,U,B1,B2,Az,nm,(λ_=>rfl),Ax,Ay,(λ_=>U),ny,od,(λ_ dL=>(by have:=bt (Ap dL);omega)),(λ_ f3=>(by have:=bt (Aq f3);omega)),Cr,(W3),(a0),(λ_=>g1),(λarr=>(be T3.2 (Ap arr))),(λd5=>(be T3.2 (Aq d5)))⟩;refine⟨λg0 W2 _ dd _ _ _=>?_,?_⟩;obtain⟨Ab,A2,A1,bq,O,K3,B1,B2,Az,nm,Aw,Ax,Ay,C1,ny,od,CY,CG,Cr,As,Av,Ar,Ap,Aq⟩:=dd;obtain⟨g0,rfl⟩:=dX bq;have S9:ap W2 w.heap.size 189 #[.int .i64 pl,S (nS sO)]:=As;have S0:ap W2 E0.heap.size 191 #[S [],S []]:=Av;refine al bM (λ_ Wa fB=>?_);have⟨S9,S0,O⟩:=cj Wa.2 S9 S0 O;refine I ?_;exact⟨rfl,_,(aw _ _ _ _ _).symm,Ab,W2.heap.size,A1,(c8 Z bq),O,U,B1,B2,Az,nm,Aw,(λ_=>rfl),Ay,C1,(λ_=>U),od,(λeW _=>(by have:=bt (Ar eW);omega)),CG,(λ_ ch=>(by have:=bt (Aq ch);omega)),(S9),(S0),(λea=>(be Wa.2 (Ar ea))),(λ_=>fB),(λf9=>(be Wa.2 (Aq f9)))⟩;refine⟨λd6 W1 _ fx _ _ _=>?_,?_⟩
 obtain⟨Ab,A2,A1,ac,O,K3,B1,B2,Az,nm,Aw,Ax,Ay,C1,ny,od,CY,CG,Cr,As,Av,Ar,Ap,Aq⟩:=fx;obtain⟨d6,rfl⟩:=dX ac;have VW:ap W1 w.heap.size 189 #[.int .i64 pl,S (nS sO)]:=As;have X0:ap W1 E0.heap.size 191 #[S [],S []]:=Av;refine al YF (λ_ X2 er=>?_);have⟨VW,X0,O⟩:=cj X2.2 VW X0 O;refine I ?_;exact⟨rfl,_,(aw _ _ _ _ _).symm,Ab,A2,W1.heap.size,(c8 Z ac),O,U,B1,B2,Az,nm,Aw,Ax,(λ_=>rfl),C1,ny,(λ_=>U),CY,(λdq _=>(by have:=bt (Ar dq);omega)),(λfc _=>(by have:=bt (Ap fc);omega)),(VW),(X0),(λfP=>(be X2.2 (Ar fP))),(λfz=>(be X2.2 (Ap fz))),(λ_=>er)⟩;exact trivial;intro L2 L3 _ Ao et;obtain⟨Ab,A2,A1,eb,O,K3,B1,B2,Az,nm,Aw,Ax,Ay,C1,ny,od,CY,CG,Cr,As,Av,Ar,Ap,Aq⟩:=et;obtain⟨L2,rfl⟩:=dX eb;have h0:=C1 (Ao 4 Z);have at8:=ny (Ao 5 Z);have at9:=od (Ao 6 Z);have hF:=CY (Ao 4 Z) (Ao 5 Z);have hB:=CG (Ao 4 Z) (Ao 6 Z);have h7:=Cr (Ao 5 Z) (Ao 6 Z);have E5:ap L3 w.heap.size 189 #[.int .i64 pl,S (nS sO)]:=As;have E6:ap L3 E0.heap.size 191 #[S [],S []]:=Av;have a3:ap L3 Ab 191 #[S [],S []]:=Ar (Ao 4 Z);have h9:=bt a3;have No:ap L3 A2 191 #[S [],S []]:=Ap (Ao 5 Z);have hC:=bt No;have KY:ap L3 A1 4 #[.bool false]:=Aq (Ao 6 Z);have h6:=bt KY
 have gW:L2 5=pT Ab:=(Aw (Ao 4 Z));have gv:L2 11=.agg #[S (nS 0),S (nS 0)]:=(B2 (Ao 1 Z));refine SA a3 (λ_ eP wr=>?_);have⟨E5,E6,No,KY,O,_⟩:=QX eP E5 E6 No KY O;have co:L2 6=pT A2:=(Ax (Ao 5 Z));have g4:L2 13=.agg #[S (nS 0),S (nS 0)]:=(nm (Ao 3 Z));refine SA No (λ_ cf H3=>?_);have⟨E5,E6,wr,KY,O,_⟩:=QX cf E5 E6 wr KY O;have fN:L2 7=pT A1:=(Ay (Ao 6 Z));refine SO KY (λP1 d3 KM=>?_);have⟨E5,E6,wr,H3,O,_⟩:=QX d3 E5 E6 wr H3 O;refine I ?_;refine aa (aD (vf:=[]) (vc:=[pT A1,pT A2]) Z (av fN (av co Z)) ?_);refine al M4 (λ_ g3 f0=>?_);have⟨E5,E6,wr,H3,KM,O⟩:=I1 g3.2 E5 E6 wr H3 KM O;refine SO f0 (λLk fX d1=>?_);have⟨E5,E6,wr,H3,KM,O,_⟩:=Vp fX E5 E6 wr H3 KM O;refine I ?_;have h8:=bt wr;have ga:=bt H3;have gb:=bt KM
 refine LW (M:=m+1) (enc:=λk=>[vN (T k)]) (bs:=[Ab,A2,A1]) (Kq:=λW=>aO w W) (gf:=224) (lb:=[pT b1,pT b2]) (ps:=[16]) Z Sv (Dw (T:=T) (m:=m) O hB1 hB2 ?hbs hen kc9 hn) ⟨λH E=>xt E H,λH hb E=>bi H E⟩ (λ_=>rfl) (λk W=>k<=m/\Lk.heap.size<=W.heap.size/\(aO w W)/\(ap W Ab 191 #[S (nS ((pM T k).1)),S (nS ((pM T k).2))])/\(ap W A2 191 #[S (nS ((vV T k).1)),S (nS ((vV T k).2))])/\(ap W A1 4 #[.bool (decide (k≠0))])/\(ap W w.heap.size 189 #[.int .i64 pl,S (nS sO)])/\(ap W E0.heap.size 191 #[S [],S []])/\(ap W P1.heap.size 262 #[.func (.func 221) #[] #[pT A1,pT A2]])) (λc k W=>c=.exit 0/\Lk.heap.size<=W.heap.size/\(aO w W)/\(ap W Ab 191 #[S (nS ((vO T m).1)),S (nS ((vO T m).2))])/\(ap W w.heap.size 189 #[.int .i64 pl,S (nS sO)])/\(ap W E0.heap.size 191 #[S [],S []])/\(ap W P1.heap.size 262 #[.func (.func 221) #[] #[pT A1,pT A2]])) (λk=>⟨λH ⟨q1,E4,E,Af,h1,h2,h3,h4,A0⟩=>⟨q1,qa8 E4 (bz H),xt E H,be H Af,be H h1,be H h2,be H h3,be H h4,be H A0⟩,λH hb ⟨q1,E4,E,Af,h1,h2,h3,h4,A0⟩=>⟨q1,(by rw[H.size];exact E4),bi H E,pb H Af,pb H h1,pb H h2,pb H h3,pb H h4,pb H A0⟩⟩) (λc k=>⟨λH ⟨q1,E4,E,Af,h1,h2,h3⟩=>⟨q1,qa8 E4 (bz H),xt E H,be H Af,be H h1,be H h2,be H h3⟩,λH hb ⟨q1,E4,E,Af,h1,h2,h3⟩=>⟨q1,(by rw[H.size];exact E4),bi H E,pb H Af,pb H h1,pb H h2,pb H h3⟩⟩) (λk W h=>by have:=h.1;omega) ?Af (λe k e' W=>∃L1:Nat,e'=upd (ki e [16] [vN (T k)]) 9 (pT L1)/\Lk.heap.size<=L1/\ap W L1 191 #[S (nS (T k).1),S (nS (T k).2)]/\(λk W=>k<=m/\Lk.heap.size<=W.heap.size/\(aO w W)/\(ap W Ab 191 #[S (nS ((pM T k).1)),S (nS ((pM T k).2))])/\(ap W A2 191 #[S (nS ((vV T k).1)),S (nS ((vV T k).2))])/\(ap W A1 4 #[.bool (decide (k≠0))])/\(ap W w.heap.size 189 #[.int .i64 pl,S (nS sO)])/\(ap W E0.heap.size 191 #[S [],S []])/\(ap W P1.heap.size 262 #[.func (.func 221) #[] #[pT A1,pT A2]])) k W) ?hA ?asn ?body ?stop
 case hbs=>
  intro b hb;simp only[List.mem_cons,List.not_mem_nil,or_false]at hb;rcases hb with rfl|rfl|rfl <;>constructor <;>omega
 case Af=>
  exact⟨qa7 _,qa0 _,O,wr,H3,KM,E5,E6,d1⟩
 case hA=>
  rintro k e' W b r dC hb hl ⟨L1,cz,a5,Am,q1,E4,E,Af,h1,h2,h3,h4,A0⟩;have H:=di W b (.loop dC);have KC:∀{c t cs},ap W c t cs->c≠b:=λh e=>by subst e;unfold ap at h;rw[hl]at h;cases h
  exact⟨L1,cz,a5,ab0 H (KC Am) Am,q1,(by rw[H.size];exact E4),bi H E,ab0 H (KC Af) Af,ab0 H (KC h1) h1,ab0 H (KC h2) h2,ab0 H (KC h3) h3,ab0 H (KC h4) h4,ab0 H (KC A0) A0⟩
 case asn=>
  rintro l k W K ⟨q1,E4,E,Af,h1,h2,h3,h4,A0⟩ hK;have EW:=aa4 W;refine I ?_;refine al bM (λ_ K2 e4=>?_);have Af:=be K2.2 Af;have h1:=be K2.2 h1;have h2:=be K2.2 h2;have h3:=be K2.2 h3;have h4:=be K2.2 h4;have A0:=be K2.2 A0;have E:=xt E K2.2;have EW:=xt EW K2.2;refine SA e4 (λ_ FR ct=>?_);have Af:=pb FR Af;have h1:=pb FR h1;have h2:=pb FR h2;have h3:=pb FR h3;have h4:=pb FR h4;have A0:=pb FR A0;have E:=bi FR E;have gs:=iM FR;have EW:=bi FR EW;refine I ?_;exact hK _ _ EW ⟨_,rfl,U,ct,q1,(by have:=bz EW;omega),E,Af,h1,h2,h3,h4,A0⟩
 case body=>
  rintro l k e' W ⟨L1,rfl,a5,Am,q1,E4,E,Af,h1,h2,h3,h4,A0⟩;have Kp:=ez.refl [Ab,A2,A1] W;have zW:=bz E;have La:=q1;have hE:=bt Am;have cT:=ae1 Af;have a6:=ae1 h1;have cb:=ae1 h2;have fT1:Bk 99 (Rq (pM T k) (T k)):=hR.tot (k:=k+1) U;refine I ?_;refine clb Sj (hc:=Hc (fT1.fi dc).1 (fT1.fi dc).2 (ht.ext E)) (hk:=?_);rintro _ _ G0 rfl;have Af:=be G0.2 Af;have h1:=be G0.2 h1;have h2:=be G0.2 h2;have h3:=be G0.2 h3;have h4:=be G0.2 h4;have A0:=be G0.2 A0;have Am:=be G0.2 Am;have E:=xt E G0.2;have Kp:=ad5 Kp G0.2;refine SA Af (λ_ H2 E1=>?_);have h1:=pb H2 h1;have h2:=pb H2 h2;have h3:=pb H2 h3;have h4:=pb H2 h4;have A0:=pb H2 A0;have Am:=pb H2 Am;have E:=bi H2 E;have Kp:=ad7 Kp H2 Rd;refine I ?_;refine aa (lW (vs:=[.agg #[S (nS ((T k).1)),S (nS ((T k).2))]]) (lb:=[pT A1,pT A2]) Su Z Z (cB (Qi h2 h1 ((hR.bd k La).mono dc) (Qk hR La) (ht.ext E)) (hR.last La)) ?_);rintro _ _ E7 rfl;have E1:=be E7.2 E1;have h1:=be E7.2 h1;have h2:=be E7.2 h2;have h3:=be E7.2 h3
  have h4:=be E7.2 h4;have A0:=be E7.2 A0;have Am:=be E7.2 Am;have E:=xt E E7.2;have Kp:=ad5 Kp E7.2;refine I ?_;by_cases ap2:k=m;refine I ?_;refine bL 5 ?_;refine sf ?_;refine aR (V:=S (nS (((T k).2)+4))) (λ_ _ eB _=>?_) ?_;refine clb mj (hc:=ke Z Zk ka7 (ht.ext (xt E eB))) (hk:=?_);rintro _ _ e3 rfl;have fb:=e3.2;refine I ?_;exact fs ⟨fb,rfl⟩;refine sf ?_;intro _ _ E9 _;have E1:=be E9.2 E1;have h1:=be E9.2 h1;have h2:=be E9.2 h2;have h3:=be E9.2 h3;have h4:=be E9.2 h4;have A0:=be E9.2 A0;have Am:=be E9.2 Am;have E:=xt E E9.2;have Kp:=ad5 Kp E9.2;refine clb mj (hc:=ke Z Z ka7 (ht.ext E)) (hk:=?_);rintro _ _ ES rfl;have E1:=be ES.2 E1;have h1:=be ES.2 h1;have h2:=be ES.2 h2;have h3:=be ES.2 h3;have h4:=be ES.2 h4;have A0:=be ES.2 A0;have Am:=be ES.2 Am;have E:=xt E ES.2;have Kp:=ad5 Kp ES.2;refine I ?_;refine SO E1 (λ_ H4 eS=>?_);have h1:=pb H4 h1;have h2:=pb H4 h2;have h3:=pb H4 h3;have h4:=pb H4 h4;have A0:=pb H4 A0;have Am:=pb H4 Am;have E:=bi H4 E
  have Kp:=ad7 Kp H4 Rd;refine I ?_;exact⟨Kp.others CD,rfl,(by have:=Kp.size;omega),E,(by subst ap2;exact eS),h3,h4,A0⟩;refine I ?_;refine SA h1 (λ_ Ix P2=>?_);have E1:=pb Ix E1;have h2:=pb Ix h2;have h3:=pb Ix h3;have h4:=pb Ix h4;have A0:=pb Ix A0;have Am:=pb Ix Am;have E:=bi Ix E;have Kp:=ad7 Kp Ix Rd;refine SO h2 (λ_ GC fC=>?_);have E1:=pb GC E1;have P2:=pb GC P2;have h3:=pb GC h3;have h4:=pb GC h4;have A0:=pb GC A0;have Am:=pb GC Am;have E:=bi GC E;have Kp:=ad7 Kp GC Rd;refine I ?_;exact⟨Kp.others CD,jc.of Kp,λ_=>E,U,(by have:=Kp.size;omega),E,E1,P2,(by rw[decide_eq_true U];exact fC),h3,h4,A0⟩
 case stop=>
  rintro D c k W hD ⟨rfl,E4,E,Af,h1,h2,h3⟩ hK;have zW:=bz E;refine I ?_;refine SA h2 (λ_ L4 ej=>?_);have Af:=pb L4 Af;have h1:=pb L4 h1;have h3:=pb L4 h3;have hK:=ac7 L4 (hK.ne h2) hK;have E:=bi L4 E;refine I ?_;refine jD (v:=.agg #[S (nS ((vO T m).1)),S (nS ((vO T m).2))]) hK (bY  rfl ?_) ((dA _).low E U) Z;refine ak (t:=4) (cs:=[S (nS ((vO T m).1)),S (nS ((vO T m).2))]) (b:=E0.heap.size) (o:=0) jm Z fw ?_ ?_;exact Z;exact aa0 (ej.dfr hK) (i:=0) Z
def cP {f:FuncId}{a:Array Value}{p q:N2}(h:CL f a w (aG w λv _=>v=.agg #[S (nS p.1),S (nS p.2)]))(e:p=q):CL f a w (aG w λv _=>v=.agg #[S (nS q.1),S (nS q.2)]):=e▸h
def Ql (h:b<a):0<aN (a:Int) (b:Int):=by rw[eK U];decide
def Qm (h:¬b<a):¬0<aN (a:Int) (b:Int):=by have:=(c7 (x:=(a:Int)) (y:=(b:Int))).2 U;omega
def Qn {t x:N2}(hS:Sc sO)(hb1:ap w b1 189 #[.int .i64 pl,S (nS sO)])(hb2:ap w b2 191 #[S (nS x.1),S (nS x.2)])(htb:Bk 95 t)(hx:Bk 95 x)(h0:0<n)(hn:n<100000)(ht:Tb w):
 CL 225 #[.agg #[S (nS t.1),S (nS t.2)],.int .i64 n,pT b1,pT b2] w (aG w λv w'=>v=.agg #[S (nS ((K6 sO x n t).1)),S (nS ((K6 sO x n t).2))]):=by
 have As:=bt hb1;have Ar:=bt hb2;refine aC func225 Z (I ?_);refine bx (λnm A0 H=>?_);have⟨hb1,hb2⟩:=dZ A0.2 hb1 hb2;have E:=A0.2;refine al bM (λ_ Ab O=>?_);have⟨hb1,hb2,H,E⟩:=fo Ab.2 hb1 hb2 H E;refine I ?_;refine bL 6 ?_;refine sf ?_;refine aR (V:=.agg #[S (nS ((na sO t x).1)),S (nS ((na sO t x).2))]) (λ_ _ Af _=>?_) ?_;refine cl nQ (gJ hS htb hx (ht.ext (xt E Af))) ?_;rintro _ _ Aq rfl;have Ap:=Aq.2;refine I ?_;exact fs ⟨Ap,rfl⟩;refine sf ?_;intro _ _ A2 _;have⟨hb1,hb2,H,O,E⟩:=ku A2.2 hb1 hb2 H O E;refine clb nP (hc:=lI (K0 hS.pos htb hx) dc U U (ht.ext E)) (hk:=?_);rintro _ _ Ao rfl;have⟨hb1,hb2,H,O,E⟩:=ku Ao.2 hb1 hb2 H O E;refine SA O (λ_ A1 Am=>?_);have⟨hb1,hb2,H⟩:=p0 A1 hb1 hb2 H;have E:=bi A1 E;refine I ?_;refine aX (v:=.agg #[S (nS ((lF (na sO t x) 1 n).1)),S (nS ((lF (na sO t x) 1 n).2))]) (bY  rfl ?_) E Z;refine ak (t:=6) (cs:=[S (nS ((lF (na sO t x) 1 n).1)),S (nS ((lF (na sO t x) 1 n).2))]) (b:=nm.heap.size) (o:=0) jm Z fw ?_ ?_;exact Z;exact aa0 Am (i:=0) Z
def MK {b3 fr:Nat}{t x:N2}(hS:Sc sO)(hb1:ap w b1 189 #[.int .i64 pl,S (nS sO)])(hb2:ap w b2 191 #[S (nS x.1),S (nS x.2)])(hb3:ap w b3 3 #[.int .i64 fr])(htb:Bk 95 t)(hx:Bk 95 x)(h0:0<n)(hn:n<100000)(hf:fr<100000)(ht:Tb w):
 CL 192 #[.agg #[S (nS t.1),S (nS t.2)],.int .i64 n,pT b1,pT b2,pT b3] w (aG w λv w'=>v=.agg #[S (nS ((Uy sO x fr n t).1)),S (nS ((Uy sO x fr n t).2))]):=by
 have Av:=bt hb1;have As:=bt hb2;have Ar:=bt hb3;refine aC func192 Z (I ?_);refine bx (λAb A0 H=>?_);have⟨hb1,hb2,hb3⟩:=wl A0.2 hb1 hb2 hb3;have E:=A0.2;refine al bM (λ_ Ao O=>?_);have⟨hb1,hb2,hb3,H,E⟩:=ku Ao.2 hb1 hb2 hb3 H E;refine I ?_;refine bL 9 ?_;refine sf ?_;refine aR (V:=.agg #[S (nS ((na sO t x).1)),S (nS ((na sO t x).2))]) (λ_ _ A2 _=>?_) ?_;refine cl nQ (gJ hS htb hx (ht.ext (xt E A2))) ?_;rintro _ _ Af rfl;have Aq:=Af.2;refine I ?_;exact fs ⟨Aq,rfl⟩;refine sf ?_;refine aA (λ_ _ _ _=>by refine aa (qX (a:=2) (b:=(n:Int)) (c:=((2*n:Nat):Int)) Z Z JT U ?_);refine I ?_;exact aH) ?_;refine aA (λ_ _ _ _=>by refine aa (ci (a:=(fr:Int)) (b:=((2*n:Nat):Int)) (c:=((fr+2*n:Nat):Int)) Z Z JT U ?_);refine I ?_;exact aH) ?_;refine sf ?_;intro _ _ Am _;have⟨hb1,hb2,hb3,H,O,E⟩:=I1 Am.2 hb1 hb2 hb3 H O E;refine clb nP (hc:=lI (K0 hS.pos htb hx) dc U U (ht.ext E)) (hk:=?_);rintro _ _ Ap rfl;have⟨hb1,hb2,hb3,H,O,E⟩:=I1 Ap.2 hb1 hb2 hb3 H O E;refine SA O (λ_ A1 ny=>?_);have⟨hb1,hb2,hb3,H⟩:=pf4 A1 hb1 hb2 hb3 H;have E:=bi A1 E;refine I ?_;refine aX (v:=.agg #[S (nS ((lF (na sO t x) 2 (fr+2*n)).1)),S (nS ((lF (na sO t x) 2 (fr+2*n)).2))]) (bY  rfl ?_) E Z
 refine ak (t:=7) (cs:=[S (nS ((lF (na sO t x) 2 (fr+2*n)).1)),S (nS ((lF (na sO t x) 2 (fr+2*n)).2))]) (b:=Ab.heap.size) (o:=0) jm Z fw ?_ ?_;exact Z;exact aa0 ny (i:=0) Z
def F1 {S:Nat}:∀{f h:Nat} {x:N2} {p:N2×Nat},jR S f x h=some p->p.2<=h+f
 |0,_,_,_,e=>by simp[jR]at e
 | f+1,h,x,p,e=>by
   unfold jR at e
   split at e
   · have:=F1 e;omega
   · cases e;simp
set_option maxRecDepth 100000 in
def ML {x r:N2}(hS:Sc sO)(he:yq sO x=some r)(ht:Tb w):
 CL 194 #[.agg #[.int .i64 pl,S (nS sO)],.agg #[S (nS x.1),S (nS x.2)]] w (aG w λv w'=>v=.agg #[S (nS r.1),S (nS r.2)]):=by
 obtain⟨hx,p,s,Aw,hs,hq⟩:=Fj he;have VW:=F1 Aw;refine aC func194 Z (I ?_);refine bx (λAf CY E=>?_);have Ab:=CY.2;refine bx (λAo H3 Ar=>?_);have⟨E,Ab⟩:=bn H3.2 E Ab;refine al bM (λFR Li H=>?_);have⟨E,Ar,Ab⟩:=cj Li.2 E Ar Ab;refine I ?_;refine cg [(5,5),(7,18)] (λAq e W=>∃f:Nat,∃y:N2,∃h:Nat,(f=Aq)/\(e 5=.int .i64 h)/\(jR sO f y h=some p)/\(Bk 95 y)/\(h+f<=200)/\(FR.heap.size<=W.heap.size)/\(aO w W)/\(ap W w.heap.size 189 #[.int .i64 pl,S (nS sO)])/\(ap W Ao.heap.size 191 #[S [],S []])/\(ap W Af.heap.size 191 #[S (nS y.1),S (nS y.2)])) (200) ⟨200,x,0,rfl,rfl,Aw,hx,U,(qa0 _),Ab,E,H,Ar⟩ ?_;rintro _ _ _ ⟨f,y,h,rfl,S0,Ay,hy,hb,Vm,A0,E,H,O⟩;by_cases hl:sO<y.2*2;obtain⟨g,rfl,E9⟩:=Uv Ay hl;refine I ?_;refine bL 5 ?_;refine sf ?_;refine aR (V:=S (nS (y.2*2))) (λ_ _ nm _=>?_) ?_;refine clb ir (hc:=gd Z wQ (hy.fi dc).2 (g5 (k:=1) dc dc) kb6 (ht.ext (xt A0 nm))) (hk:=?_);rintro _ _ EW rfl;have L1:=EW.2;refine I ?_;exact fs ⟨L1,rfl⟩;refine sf ?_;intro _ _ K2 _;have⟨E,H,O,A0⟩:=fo K2.2 E H O A0;refine clb xm (hc:=MJ Z Z kb6 hS.fi) (hk:=?_);rintro _ _ KC rfl;have⟨E,H,O,A0⟩:=fo KC.2 E H O A0;have T2:=Ql hl;refine I ?_
 refine clb nP (hc:=lI (hy.mono dc) dc dc dc (ht.ext A0)) (hk:=?_);rintro _ _ P2 rfl;have⟨E,H,O,A0⟩:=fo P2.2 E H O A0;refine SA O (λ_ ny Rm=>?_);have⟨E,H,A0,_⟩:=Td ny E H A0;refine I ?_;refine aa (ci (a:=(h:Int)) (b:=1) (c:=((h+1:Nat):Int)) Z Z JT U ?_);refine I ?_;exact bI ⟨g,lF y 1 2,h+1,rfl,rfl,E9,(O6 hy),U,U,A0,E,H,Rm⟩;have No:=Uw Ay hl;subst No;have hm:=uI hs;obtain⟨m,hR,hr⟩:=hm;refine I ?_;refine bL 5 ?_;refine sf ?_;refine aR (V:=S (nS (y.2*2))) (λ_ _ od _=>?_) ?_;refine clb ir (hc:=gd Z wQ (hy.fi dc).2 (g5 (k:=1) dc dc) kb6 (ht.ext (xt A0 od))) (hk:=?_);rintro _ _ KY rfl;have G0:=KY.2;refine I ?_;exact fs ⟨G0,rfl⟩;refine sf ?_;intro _ _ Cr _;have⟨E,H,O,A0⟩:=fo Cr.2 E H O A0;refine clb xm (hc:=MJ Z Z kb6 hS.fi) (hk:=?_);rintro _ Lk ES rfl;have⟨E,H,O,A0⟩:=fo ES.2 E H O A0;have S9:=Qm hl;refine I ?_;refine bL 7 ?_;refine sf ?_;refine aR (V:=.agg #[S (nS ((1*sO,1*sO).1)),S (nS ((1*sO,1*sO).2))]) (λ_ _ E5 _=>?_) ?_;refine clb nN (hc:=iI (n:=1) hS dc ka0 (ht.ext (xt A0 E5))) (hk:=?_);rintro _ _ P0 rfl;have E6:=P0.2;refine I ?_;exact fs ⟨E6,rfl⟩
 refine aA (λ_ _ _ _=>by refine aa (aD (vf:=[]) (vc:=[pT w.heap.size,pT Af.heap.size]) Z Z ?_);refine I ?_;exact aH) ?_;refine bR (λv Ap=>Dv (1*sO,1*sO) (.func (.func 225) #[] #[pT w.heap.size,pT Af.heap.size]) Ap v) (hs:=λ_ _ _ k h=>h.ext k) (λ_ _ _ _=>?_) ?_;refine cl BJ vj ?_;rintro _ _ wr Ix;have L2:=wr.2;refine I ?_;exact fs ⟨L2,Ix⟩;refine aR (V:=.agg #[S (nS s.1),S (nS s.2)]) (λ_ _ Am L3=>?_) ?_;obtain⟨_,_,GC,C1,H2⟩:=(L3 4 23 Z Z);have⟨E,O⟩:=dZ Am E O;refine clb BI (hc:=cP (Dx hR hS C1 H2 Si (λk hk W e=>Qn hS (E.ext e) (O.ext e) (hR.bd k U) hy U kc9 ((ht.ext (xt A0 Am)).ext e)) (ht.ext (xt A0 Am))) hr) (hk:=?_) (hv:=av Z (av GC Z));rintro _ _ E4 rfl;have B2:=E4.2;refine I ?_;exact fs ⟨B2,rfl⟩;refine bR (λv Ap=>∃b:Nat,v=pT b/\Lk.heap.size<=b/\ap Ap b 191 #[S [],S []]) (hs:=λ_ _ _ k ⟨b,e,l,h⟩=>⟨b,e,l,h.ext k⟩) (λ_ _ N0 _=>?_) ?_;refine al bM (λ_ E7 H4=>?_);have Kp:=E7.2;refine I ?_;exact fs ⟨Kp,⟨_,rfl,(by have:=bz N0;omega),H4⟩⟩;refine sf ?_;intro _ _ E0 CG;have⟨E,H,O,A0⟩:=fo E0.2 E H O A0;obtain⟨P1,_,_,Ne⟩:=(CG 6 6 Z Z);refine SA Ne (λKM Ax L4=>?_);have⟨E,H,O⟩:=p0 Ax E H O;have A0:=bi Ax A0;refine I ?_
 refine cg [(26,32)] (λAq e W=>∃i:Nat,∃a:N2,(h-i=Aq)/\(e 26=.int .i64 i)/\(i<=h)/\(HO sO (h-i) a=some r)/\(KM.heap.size<=W.heap.size)/\(aO w W)/\(ap W w.heap.size 189 #[.int .i64 pl,S (nS sO)])/\(ap W Ao.heap.size 191 #[S [],S []])/\(ap W Af.heap.size 191 #[S (nS y.1),S (nS y.2)])/\(ap W P1 191 #[S (nS a.1),S (nS a.2)])) (h-0) ⟨0,s,rfl,rfl,(qa7 _),hq,(qa0 _),A0,E,H,O,L4⟩ ?_;rintro _ _ _ ⟨i,a,rfl,E1,hi,As,T3,A1,E,H,O,A2⟩;by_cases hl2:i<h;obtain⟨Av,B1⟩:=Zl As hl2;refine I ?_;refine cl nQ (gJ hS Av Av (ht.ext A1)) ?_;rintro _ _ Lj rfl;have⟨E,H,O,A2,A1⟩:=ku Lj.2 E H O A2 A1;refine SA A2 (λ_ K3 Q0=>?_);have⟨E,H,O,A1,_⟩:=QW K3 E H O A1;refine I ?_;refine aa (ci (a:=(i:Int)) (b:=1) (c:=((i+1:Nat):Int)) E1 Z JT U ?_);refine I ?_;exact bI ⟨i+1,na sO a a,rfl,rfl,U,B1,U,A1,E,H,O,Q0⟩;obtain⟨rfl,_⟩:=Zm As hl2;refine I ?_;refine SA H (λ_ Az La=>?_);have⟨E,O,A2⟩:=p0 Az E O A2;have A1:=bi Az A1;refine I ?_;refine aX (v:=.agg #[S (nS a.1),S (nS a.2)]) (bY  rfl ?_) A1 Z;refine ak (t:=4) (cs:=[S (nS a.1),S (nS a.2)]) (b:=Ao.heap.size) (o:=0) jm Z fw ?_ ?_;exact Z;exact aa0 La (i:=0) Z
def Vh:Ry.length=81:=by decide +kernel
def xg {a r:N2}(hS:Sc sO)(hr:mK sO a=some r)(ht:Tb w):
 CL 195 #[.agg #[.int .i64 pl,S (nS sO)],.agg #[S (nS a.1),S (nS a.2)]] w (aG w λv w'=>v=.agg #[S (nS r.1),S (nS r.2)]):=by
 obtain⟨A1,Ap,p2,x,y,Aq,Af,hb,B1⟩:=LJ hr;have Ab:=A1.fi dc;refine aC func195 Z (I ?_);refine bx (λ_ Ay H=>?_);have E:=Ay.2;refine bx (λAm Aw O=>?_);have⟨H,E⟩:=bn Aw.2 H E;refine al bM (λ_ Ao A0=>?_);have⟨H,O,E⟩:=cj Ao.2 H O E;refine I ?_;refine clb ir (hc:=gd Z Z Ab.1 hS.fi (fM A1.1 hS.lt dc) (ht.ext E)) (hk:=?_);rintro _ _ Ar rfl;have⟨H,O,A0,E⟩:=fo Ar.2 H O A0 E;refine clb Iv (hc:=Fy (fM A1.1 hS.lt dc) Ap Aq (ht.ext E)) (hk:=?_);rintro _ _ Ax rfl;have⟨H,O,A0,E⟩:=fo Ax.2 H O A0 E;refine I ?_;refine clb ir (hc:=gd Z Z Ab.2 hS.fi (fM A1.2 hS.lt dc) (ht.ext E)) (hk:=?_);rintro _ _ Az rfl;have⟨H,O,A0,E⟩:=fo Az.2 H O A0 E;refine clb Iv (hc:=Fy (fM A1.2 hS.lt dc) p2 Af (ht.ext E)) (hk:=?_);rintro _ _ As rfl;have⟨H,O,A0,E⟩:=fo As.2 H O A0 E;refine I ?_;refine clb mj (hc:=ke Z KZ (by have:=hb.2;unfold Fi;simp only at this;omega) (ht.ext E)) (hk:=?_);rintro _ _ Av rfl;have⟨H,O,A0,E⟩:=fo Av.2 H O A0 E;refine I ?_;refine SA A0 (λ_ A2 nm=>?_);have⟨H,O⟩:=jU A2 H O;have E:=bi A2 E;refine I ?_;refine aX (v:=.agg #[S (nS x),S (nS (y+1))]) (bY  rfl ?_) E (by rw[B1]);refine ak (t:=4) (cs:=[S (nS x),S (nS (y+1))]) (b:=Am.heap.size) (o:=0) jm Z fw ?_ ?_;exact Z;exact aa0 nm (i:=0) Z
def Yj (hp:pl<81)(ht:Tb w):
 CL 196 #[.agg #[.int .i64 pl,S (nS sO)]] w (aG w λv w'=>v=.agg #[S (nS ((vA pl,vA pl+1).1)),S (nS ((vA pl,vA pl+1).2))]):=by
 refine aC func196 Z (I ?_);refine bx (λA2 Am H=>?_);have E:=Am.2;refine al bM (λ_ Af O=>?_);have⟨H,E⟩:=bn Af.2 H E;refine I ?_;refine aa (ci (a:=(pl:Int)) (b:=1) (c:=((pl+1:Nat):Int)) Z Z JT U ?_);refine aa (mc (l:=Ry) (i:=0) (j:=pl+1) U9 Z (.inl ⟨rfl,rfl⟩) (.inr ⟨_,qb2 some Z⟩) U (by rw[Vh];omega) ?_);rw[show(Ry.take (pl+1)).drop 0=Ry.take (pl+1)from rfl];refine I ?_;refine clb mj (hc:=ke (LK hp) KZ (by have:=XN (k:=pl);unfold Fi;omega) (ht.ext E)) (hk:=?_);rintro _ _ A1 rfl;have⟨H,O,E⟩:=cj A1.2 H O E;refine I ?_;refine SA O (λ_ A0 Ab=>?_);have H:=pb A0 H;have E:=bi A0 E;refine I ?_;refine aX (v:=.agg #[S (Ry.take (pl+1)),S (nS (vA pl+1))]) (bY  rfl ?_) E (by exact qb2 (λl=>Value.agg #[S l,S (nS (vA pl+1))]) (LK hp));refine ak (t:=2) (cs:=[S (Ry.take (pl+1)),S (nS (vA pl+1))]) (b:=A2.heap.size) (o:=0) jm Z fw ?_ ?_;exact Z;exact aa0 Ab (i:=0) Z
def q01:(([48],[49]):R)=qR 0 1:=by decide +kernel
section
variable {a b c d:Int}{l m l' m':List UInt8}
def vk (e1:(l,m)=qR a b)(e2:(l',m')=qR c d)(h1:Q9 a b)(h2:Q9 c d)(ht:Tb w):CL 26 #[.agg #[S l,S m],.agg #[S l',S m']] w (aG w λv _=>v=.int .i64 (aN (a*d) (c*b))):=by
 rw[show l=(qR a b).1 from congrArg Prod.fst e1,show m=(qR a b).2 from congrArg Prod.snd e1,show l'=(qR c d).1 from congrArg Prod.fst e2,show m'=(qR c d).2 from congrArg Prod.snd e2]
 exact A3 h1.2.1 h2.2.1 h1.fz.1 h1.fz.2 h2.fz.1 h2.fz.2 ht
def Yk (e1:(l,m)=qR a b)(e2:(l',m')=qR c d)(h1:Q9 a b)(h2:Q9 c d)(ht:Tb w):CL 117 #[.agg #[S l,S m],.agg #[S l',S m']] w (aG w λv _=>v=Qv (a*d-c*b) (b*d)):=by
 rw[show l=(qR a b).1 from congrArg Prod.fst e1,show m=(qR a b).2 from congrArg Prod.snd e1,show l'=(qR c d).1 from congrArg Prod.fst e2,show m'=(qR c d).2 from congrArg Prod.snd e2]
 exact Pw h1 h2 ht
end
def ZV:Q9 0 1:=⟨by decide,by decide,by decide⟩
def F2 (hb:0<b):k8 (a:Int) (b:Int)=((a/Nat.gcd a b:Nat):Int)/\df (a:Int) (b:Int)=((b/Nat.gcd a b:Nat):Int):=by
 unfold k8 df
 rw[if_neg U,if_neg U]
 exact⟨rfl,rfl⟩
def Bp (hS:Sc sO)(ha:a<10^90)(hb:b<10^90)(h0:0<b)(ht:Tb w):
 CL 188 #[.agg #[.int .i64 pl,S (nS sO)],.agg #[S (qR (a:Int) (b:Int)).1,S (qR (a:Int) (b:Int)).2]] w (aG w λv _=>v=.agg #[S (nS (p7 sO a b).1),S (nS (p7 sO a b).2)]):=by
 have H:0<Nat.gcd a b:=Nat.gcd_pos_of_pos_right _ h0
 have e1:a/Nat.gcd a b*Nat.gcd a b=a:=Nat.div_mul_cancel (Nat.gcd_dvd_left _ _)
 have e2:b/Nat.gcd a b*Nat.gcd a b=b:=Nat.div_mul_cancel (Nat.gcd_dvd_right _ _)
 have h1:=Py (S:=sO) (n:=a/Nat.gcd a b) (d:=b/Nat.gcd a b) H
 rw[e1,e2]at h1
 have E:a/Nat.gcd a b<10^90:=Nat.lt_of_le_of_lt (Nat.div_le_self _ _) ha
 have A0:b/Nat.gcd a b<10^90:=Nat.lt_of_le_of_lt (Nat.div_le_self _ _) hb
 have O:0<b/Nat.gcd a b:=Nat.div_pos (Nat.le_of_dvd h0 (Nat.gcd_dvd_right _ _)) H
 rw[h1]
 unfold qR
 rw[(F2 h0).1,(F2 h0).2]
 exact Pk hS (g5 E dc) (g5 A0 dc) O (fM E hS.lt dc) ht
def Yl (x:R×R):Prop:=∃a b c d,x.1=qR a b/\x.2=qR c d/\Q9 a b/\Q9 c d/\a*d<=c*b
def jT (l:List (R×R)):List Value:=l.flatMap λx=>[S x.1.1,S x.1.2,S x.2.1,S x.2.2]
def qb (l:List (R×R))(i:Nat):R×R:=l.getD i (([],[]),([],[]))
def vl:∀{l:List (R×R)} {i:Nat},i<l.length->(jT l)[i*4]?=some (S (qb l i).1.1)/\(jT l)[i*4+1]?=some (S (qb l i).1.2)/\(jT l)[i*4+2]?=some (S (qb l i).2.1)/\(jT l)[i*4+3]?=some (S (qb l i).2.2)
 |a::t,0,_=>by simp[jT,qb]
 | a::t,i+1,h=>by
   have ih:=vl (l:=t) (i:=i) ka6
   rw[show(i+1)*4=i*4+4 by omega,show i*4+4+1=i*4+1+4 by omega,show i*4+4+2=i*4+2+4 by omega,show i*4+4+3=i*4+3+4 by omega]
   simpa[jT,qb]using ih
def Qo {l:List (R×R)}(h:Rw w lo A (jT l))(hi:i<l.length):
 ∃b o,A=some ⟨b,o,none⟩/\∀j u,[S (qb l i).1.1,S (qb l i).1.2,S (qb l i).2.1,S (qb l i).2.2][j]?=some u->w.cell? ⟨b,o+i*4+j,none⟩=some u:=by
 obtain⟨h1,h2,h3,h4⟩:=vl hi
 obtain⟨b,o,hA,E⟩:=h.cells _ _ h1
 obtain⟨_,_,hA2,A0⟩:=h.cells _ _ h2
 obtain⟨_,_,hA3,O⟩:=h.cells _ _ h3
 obtain⟨_,_,hA4,H⟩:=h.cells _ _ h4
 rw[hA]at hA2 hA3 hA4;cases hA2;cases hA3;cases hA4
 refine⟨b,o,hA,λj u hu=>?_⟩
 match j,hu with
 |0,hu=>simp at hu;subst hu;simpa using E
 |1,hu=>simp at hu;subst hu;simpa[Nat.add_assoc]using A0
 |2,hu=>simp at hu;subst hu;simpa[Nat.add_assoc]using O
 |3,hu=>simp at hu;subst hu;simpa[Nat.add_assoc]using H
def F3 {l:List (R×R)}(h:i<l.length):qb l i∈l:=by unfold qb;simp[h]
def Ym {l m:List UInt8}{a b:Int}(e:(l,m)=qR a b)(h:Q9 a b):bJ (l,m)=true:=e▸h.ok
def mO :
 CL 249 #[.bool true] w (aG w λv w'=>v=.tuple #[]):=by
 refine aC func249 Z (I ?_);exact HZ (nh Z) (aa4 _) Z
def rt {x:R×R}(hx:Yl x)(ht:Tb w):
 CL 252 #[.agg #[S x.1.1,S x.1.2,S x.2.1,S x.2.2]] w (aG w λv w'=>v=.bool true):=by
 obtain⟨a,b,c,d,e1,e2,q1,O,A1⟩:=hx;refine aC func252 Z (I ?_);refine bx (λ_ Af H=>?_);have E:=Af.2;refine I ?_;refine cl td (cB (eo _ _ _ (ht.ext E)) (Ym e1 q1)) ?_;rintro _ _ A2 rfl;have⟨H,E⟩:=bn A2.2 H E;refine I ?_;refine cl td (cB (eo _ _ _ (ht.ext E)) (Ym e2 O)) ?_;rintro _ _ A0 rfl;have⟨H,E⟩:=bn A0.2 H E;refine I ?_;refine cl nL (vk e1 e2 q1 O (ht.ext E)) ?_;rintro _ _ Ab rfl;have E:=xt E Ab.2;refine I ?_;exact am (t:=2) (v:=.bool (decide ((aN (a*d) (c*b))<=0))) Z E (qb2 Value.bool (qa1 (c7.2 A1))) Z
def Dy {x:R×R}(hx:Yl x)(ht:Tb w):
 CL 251 #[.agg #[S x.1.1,S x.1.2,S x.2.1,S x.2.2]] w (aG w λv w'=>v=.bool false):=by
 refine aC func251 Z (I ?_);refine bx (λ_ O H=>?_);have E:=O.2;refine I ?_;refine aa (aP (cs:=[S x.1.1,S x.1.2,S x.2.1,S x.2.2]) (b:=w.heap.size) (o:=0) fA Z dY Z (aa0 H (i:=0) Z) ?_);refine cl Iq (rt hx (ht.ext E)) ?_;rintro _ _ A0 rfl;have E:=xt E A0.2;refine I ?_;exact am (t:=2) (v:=.bool false) Z E Z Z
def Dz {x:R×R}(hx:Yl x)(ht:Tb w):
 CL 254 #[.agg #[S x.1.1,S x.1.2,S x.2.1,S x.2.2]] w (aG w λv w'=>v=.bool false):=by
 refine aC func254 Z (I ?_);refine bx (λ_ O H=>?_);have E:=O.2;refine I ?_;refine aa (aP (cs:=[S x.1.1,S x.1.2,S x.2.1,S x.2.2]) (b:=w.heap.size) (o:=0) fA Z dY Z (aa0 H (i:=0) Z) ?_);refine cl Iq (rt hx (ht.ext E)) ?_;rintro _ _ A0 rfl;have E:=xt E A0.2;refine I ?_;exact am (t:=2) (v:=.bool false) Z E Z Z
def MM {l:List (R×R)}(hr:Rw w lo A (jT l))(hn:l.length=n)(hb:n<=1000)(hg:Enters prog g)(hf:∀i<n,∀W,aO w W->CL g #[.agg #[S (qb l i).1.1,S (qb l i).1.2,S (qb l i).2.1,S (qb l i).2.2]] W (aG W λv _=>v=.bool false)):
 CL 269 #[.slice A n cp,.func (.func g) #[] #[]] w (aG w λv w'=>v=.int .i64 (-1)):=by
 refine aC func269 Z (I ?_);have A2:=aa4 w;refine cg [(4,5),(8,18)] (λA1 e W=>∃i:Nat,(n-i=A1)/\(e 8=.int .i64 i)/\(i<=n)/\(aO w W)) (n-0) ⟨0,rfl,rfl,(qa7 _),A2⟩ ?_;rintro _ _ _ ⟨i,rfl,H,hi,E⟩;by_cases hl:i<n;obtain⟨bk,o,hA,A0⟩:=Qo (hr.ext E) (i:=i) U;refine I ?_;refine aa (aB (i:=i) (oo:=o+i*4) VI dY Z hA Z U Z ?_);refine aa (aP (cs:=[S (qb l i).1.1,S (qb l i).1.2,S (qb l i).2.1,S (qb l i).2.2]) (b:=bk) (o:=o+i*4) fA Z dY Z A0 ?_);refine aa (lW (vs:=[.agg #[S (qb l i).1.1,S (qb l i).1.2,S (qb l i).2.1,S (qb l i).2.2]]) (lb:=[]) hg Z Z (hf i U _ E) ?_);rintro _ _ O rfl;have E:=xt E O.2;refine I ?_;refine aa (ci (a:=(i:Int)) (b:=1) (c:=((i+1:Nat):Int)) H Z JT U ?_);refine I ?_;exact bI ⟨i+1,rfl,rfl,U,E⟩;refine I ?_;exact am (t:=4) (v:=.int .i64 (-1)) Z E Z Z
def ru {l:List (R×R)}(hr:Rw w lo A (jT l))(hn:l.length=n)(hb:n<=1000)(hg:Enters prog g)(hf:∀i<n,∀W,aO w W->CL g #[.agg #[S (qb l i).1.1,S (qb l i).1.2,S (qb l i).2.1,S (qb l i).2.2]] W (aG W λv _=>v=.bool false)):
 CL 250 #[.slice A n cp,.func (.func g) #[] #[]] w (aG w λv w'=>v=.bool false):=by
 refine aC func250 Z (I ?_);refine cl Sy (MM (hr.ext (aa4 _)) hn hb hg (λi hi W e=>hf i hi W (xt (aa4 _) e))) ?_;rintro _ _ H rfl;have E:=H.2;refine I ?_;exact am (t:=4) (v:=.bool false) Z E Z Z
def Br {lb:List Value}{l:List (R×R)}{x:R×R}(hg:Enters prog gf)(hr:Rw w lo A (jT l))(hn:l.length=n)(hb:n<=1000)(hv:∀x∈l,Yl x)(hc:∀W,aO w W->CL gf lb.toArray W (aG W λv _=>v=.agg #[S x.1.1,S x.1.2,S x.2.1,S x.2.2]))(ht:Tb w):
 CL 229 #[.func (.func gf) #[] lb.toArray,.slice A n cp] w (aG w λv w'=>v=.tuple #[.agg #[S x.1.1,S x.1.2,S x.2.1,S x.2.2],.int .i64 0]):=by
 refine lQ func229 Z (I ?_);refine al dQ (λA0 Aq H=>?_);have E:=Aq.2;refine al lO (λ_ Ao O=>?_);have⟨H,E⟩:=bn Ao.2 H E;refine I ?_;refine aa (aD (vf:=[]) (vc:=[pT w.heap.size,pT A0.heap.size]) Z Z ?_);refine aa (i8 (lb:=[pT w.heap.size,pT A0.heap.size]) Z ?_);refine I ?_;refine clb Is (hc:=ru (hr.ext E) hn hb Sr (λi hi W e=>Dy (hv _ (F3 U)) ((ht.ext E).ext e))) (hk:=?_);rintro _ _ Ar rfl;have⟨H,O,E⟩:=cj Ar.2 H O E;refine I ?_;refine cl BO mO ?_;rintro _ _ Af rfl;have⟨H,O,E⟩:=cj Af.2 H O E;refine I ?_;refine aa (lW (f:=gf) (lb:=lb) (vs:=[]) hg Z Z (hc _ E) ?_);rintro _ _ Am rfl;have⟨H,O,E⟩:=cj Am.2 H O E;refine SA H (λ_ Ab A1=>?_);have O:=pb Ab O;have E:=bi Ab E;refine SO O (λ_ A2 Ap=>?_);have A1:=pb A2 A1;have E:=bi A2 E;refine I ?_;refine og (b1:=w.heap.size) (b2:=A0.heap.size) (v:=.tuple #[.agg #[S x.1.1,S x.1.2,S x.2.1,S x.2.2],.int .i64 0]) Sp (λ_ _=>J7) E (cO (r1:=.cell 4 144) (r2:=.cell 5 36) Z ?_ ?_) Z;refine ak (t:=4) (cs:=[S x.1.1,S x.1.2,S x.2.1,S x.2.2]) (b:=w.heap.size) (o:=0) fA Z dY ?_ ?_;exact Z;exact aa0 A1 (i:=0) Z;refine bC (t:=5) (b:=A0.heap.size) (o:=0) y5 Z ?_ ?_;exact Z;exact ab4 Ap Z
def Bs {lb:List Value}{l:List (R×R)}{x:R}(hg:Enters prog gf)(hr:Rw w lo A (jT l))(hn:l.length=n)(hb:n<=1000)(hv:∀x∈l,Yl x)(hc:∀W,aO w W->CL gf lb.toArray W (aG W λv _=>v=.agg #[S x.1,S x.2]))(ht:Tb w):
 CL 232 #[.func (.func gf) #[] lb.toArray,.slice A n cp] w (aG w λv w'=>v=.tuple #[.agg #[S x.1,S x.2],.int .i64 0]):=by
 refine lQ func232 Z (I ?_);refine al aS (λA0 Aq H=>?_);have E:=Aq.2;refine al lO (λ_ Ao O=>?_);have⟨H,E⟩:=bn Ao.2 H E;refine I ?_;refine aa (aD (vf:=[]) (vc:=[pT w.heap.size,pT A0.heap.size]) Z Z ?_);refine aa (i8 (lb:=[pT w.heap.size,pT A0.heap.size]) Z ?_);refine I ?_;refine clb Is (hc:=ru (hr.ext E) hn hb Sx (λi hi W e=>Dz (hv _ (F3 U)) ((ht.ext E).ext e))) (hk:=?_);rintro _ _ Ar rfl;have⟨H,O,E⟩:=cj Ar.2 H O E;refine I ?_;refine cl BO mO ?_;rintro _ _ Af rfl;have⟨H,O,E⟩:=cj Af.2 H O E;refine I ?_;refine aa (lW (f:=gf) (lb:=lb) (vs:=[]) hg Z Z (hc _ E) ?_);rintro _ _ Am rfl;have⟨H,O,E⟩:=cj Am.2 H O E;refine SA H (λ_ Ab A1=>?_);have O:=pb Ab O;have E:=bi Ab E;refine SO O (λ_ A2 Ap=>?_);have A1:=pb A2 A1;have E:=bi A2 E;refine I ?_;refine og (b1:=w.heap.size) (b2:=A0.heap.size) (v:=.tuple #[.agg #[S x.1,S x.2],.int .i64 0]) Sw (λ_ _=>J8) E (cO (r1:=.cell 4 33) (r2:=.cell 5 36) Z ?_ ?_) Z;refine ak (t:=4) (cs:=[S x.1,S x.2]) (b:=w.heap.size) (o:=0) iK Z bX ?_ ?_;exact Z;exact aa0 A1 (i:=0) Z;refine bC (t:=5) (b:=A0.heap.size) (o:=0) y5 Z ?_ ?_;exact Z;exact ab4 Ap Z
def yS {l m:List UInt8}:
 CL 231 #[.agg #[S l,S m],.int .i64 0] w (aG w λv w'=>v=.agg #[S l,S m]):=by
 refine aC func231 Z (I ?_);refine bx (λA2 Am H=>?_);have E:=Am.2;refine al aS (λ_ Af O=>?_);have⟨H,E⟩:=bn Af.2 H E;refine I ?_;refine cl BO mO ?_;rintro _ _ A1 rfl;have⟨H,O,E⟩:=cj A1.2 H O E;refine I ?_;refine SA O (λ_ A0 Ab=>?_);have H:=pb A0 H;have E:=bi A0 E;refine I ?_;refine aX (v:=.agg #[S l,S m]) (bY  rfl ?_) E Z;refine ak (t:=4) (cs:=[S l,S m]) (b:=A2.heap.size) (o:=0) iK Z bX ?_ ?_;exact Z;exact aa0 Ab (i:=0) Z
end
end Go.Proofs.YtlmihmlnpjkblaaGreatDoor
