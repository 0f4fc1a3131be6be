/- Part of the proof of a statement about an adjustment. -/
import Derived.Test.YtlmihmlnpjkblaaGreatDoorAj27ToSp2G
set_option linter.all false
namespace Go.Proofs.YtlmihmlnpjkblaaGreatDoor
open Go Go.Eng Go.RowKit Proofs.Tryz
variable {f a b t c d la ha hb T:Int}{l l1 m1 l2 m2 l3 m3 l4 m4:List UInt8}{lb:List Value}{k b1 b2 sO pl n lo i cp g gf:Nat}{A:Option Addr}{w:World}
attribute [local irreducible] wpListIn Code.wpIn Oper.wpIn Exit.then Exit.inBlock Exit.noGoto
set_option maxHeartbeats 40000000
def Qg {T:Nat->N2}{m:Nat}(h:AQ T m)(hk:k<=m):Bk 99 (v8 T k):=by
 cases k with
 |zero=>exact⟨by simp[v8],by simp[v8]⟩
 |succ p=>exact(h.bd p U).mono dc
set_option maxRecDepth 100000 in
def DN {T:Nat->N2}{m gn:Nat}{lbn:Array Value}(hR:AQ T m)(hS:Sc sO)(hB1:ar w b1 191 #[S (nS (T 0).1),S (nS (T 0).2)])(hB2:ar w b2 245 #[fv gn lbn])(hen:Enters prog gn)(hn:∀k<m,∀W,aN w W->CL gn (#[vN (T k),.int .i64 ((k+1:Nat):Int)]++lbn) W (aH W λv _=>v=vN (T (k+1))))(ht:Tb w):
 CL 189 #[.agg #[.int .i64 pl,S (nS sO)],.func (.func 224) #[] #[pT b1,pT b2]] w (aH w λv w'=>v=.agg #[S (nS ((vV T m).1)),S (nS ((vV T m).2))]):=by
 refine rt func189 Z (I ?_);refine bx (λCG eb Lk=>?_);have H:=eb.2;refine al bQ (λL1 cc eS=>?_);have⟨Lk,H⟩:=bw cc.2 Lk H;refine I ?_;have La:=ac3 L1
 refine IS li 7 (λe0 ls e W=>∃A2:Nat,∃A0:Nat,∃A1:Nat,(∀t,Gk [5,6,7,10,11,12,13] t=false->e t=e0 t)/\(aN w W)/\(L1.heap.size<=W.heap.size)/\(ls 0=true->e 10=.agg #[.int .i64 pl,S (nS sO)])/\(ls 1=true->e 11=.agg #[S (nS 0),S (nS 0)])/\(ls 2=true->e 12=.agg #[.int .i64 pl,S (nS sO)])/\(ls 3=true->e 13=.agg #[S (nS 0),S (nS 0)])/\(ls 4=true->e 5=pT A2)/\(ls 5=true->e 6=pT A0)/\(ls 6=true->e 7=pT A1)/\(ls 4=true->L1.heap.size<=A2)/\(ls 5=true->L1.heap.size<=A0)/\(ls 6=true->L1.heap.size<=A1)/\(ls 4=true->ls 5=true->A2≠A0)/\(ls 4=true->ls 6=true->A2≠A1)/\(ls 5=true->ls 6=true->A0≠A1)/\(ar W w.heap.size 189 #[.int .i64 pl,S (nS sO)])/\(ar W CG.heap.size 191 #[S [],S []])/\(ls 4=true->ar W A2 191 #[S [],S []])/\(ls 5=true->ar W A0 191 #[S [],S []])/\(ls 6=true->ar W A1 4 #[.bool false])) ⟨0,0,0,(λ_ _=>rfl),(xt H La),(bz La),(ff Z),(ff Z),(ff Z),(ff Z),(ff Z),(ff Z),(ff Z),(ff Z),(ff Z),(ff Z),(λh _=>ff Z h),(λh _=>ff Z h),(λh _=>ff Z h),(be La Lk),(be La eS),(λh=>ff Z h),(λh=>ff Z h),(λh=>ff Z h)⟩ q0 q0 ?_ ?_;refine⟨λej a4 ed fT fQ e5 _=>?_,?_⟩;obtain⟨A2,A0,A1,X2,H,H2,B0,Av,Ay,nm,Ax,B1,Az,Aw,ny,od,CB,C0,B2,Ar,As,Ap,Aq,Ao⟩:=fT
 obtain⟨ej,rfl⟩:=aU X2;have g3:ed 1=false:=(aT fQ (i:=0) (j:=1) Z e5);have fD:ar a4 w.heap.size 189 #[.int .i64 pl,S (nS sO)]:=Ar;have eB:ar a4 CG.heap.size 191 #[S [],S []]:=As;refine I ?_;exact⟨rfl,_,(ax _ _ _ _ _).symm,A2,A0,A1,(di Z X2),H,U,(λ_=>rfl),Av,Ay,nm,Ax,B1,Az,Aw,ny,od,CB,C0,B2,(fD),(eB),(λfl=>Ap fl),(λbb=>Aq bb),(λd6=>Ao d6)⟩;refine⟨λa6 a5 fb cb _ _ e6=>?_,?_⟩;obtain⟨A2,A0,A1,X0,H,H2,B0,Av,Ay,nm,Ax,B1,Az,Aw,ny,od,CB,C0,B2,Ar,As,Ap,Aq,Ao⟩:=cb;obtain⟨a6,rfl⟩:=aU X0;have et:fb 0=true:=(e6 0 Z);have eQ:a6 10=.agg #[.int .i64 pl,S (nS sO)]:=B0 et;have No:ar a5 w.heap.size 189 #[.int .i64 pl,S (nS sO)]:=Ar;have T3:ar a5 CG.heap.size 191 #[S [],S []]:=As;refine cl nO (rJ hS (ht.ext H)) ?_ (aw eQ (aw Z Z));rintro _ _ L3 rfl;have⟨No,T3,H⟩:=cD L3.2 No T3 H;refine I ?_;exact⟨rfl,_,(ax _ _ _ _ _).symm,A2,A0,A1,(di Z X0),H,U,B0,(λ_=>rfl),Ay,nm,Ax,B1,Az,Aw,ny,od,CB,C0,B2,(No),(T3),(λbq=>(be L3.2 (Ap bq))),(λfW=>(be L3.2 (Aq fW))),(λch=>(be L3.2 (Ao ch)))⟩;refine⟨λce an _ cm _ _ _=>?_,?_⟩;obtain⟨A2,A0,A1,ad,H,H2,B0,Av,Ay,nm,Ax,B1,Az,Aw,ny,od,CB,C0,B2,Ar,As,Ap,Aq,Ao⟩:=cm;obtain⟨ce,rfl⟩:=aU ad
 have dC:ar an w.heap.size 189 #[.int .i64 pl,S (nS sO)]:=Ar;have e3:ar an CG.heap.size 191 #[S [],S []]:=As;refine I ?_;exact⟨rfl,_,(ax _ _ _ _ _).symm,A2,A0,A1,(di Z ad),H,U,B0,Av,(λ_=>rfl),nm,Ax,B1,Az,Aw,ny,od,CB,C0,B2,(dC),(e3),(λdL=>Ap dL),(λd3=>Aq d3),(λeG=>Ao eG)⟩;refine⟨λbY b0 bW dq _ _ W3=>?_,?_⟩;obtain⟨A2,A0,A1,a9,H,H2,B0,Av,Ay,nm,Ax,B1,Az,Aw,ny,od,CB,C0,B2,Ar,As,Ap,Aq,Ao⟩:=dq;obtain⟨bY,rfl⟩:=aU a9;have h5:bW 1=true:=(W3 1 Z);have bZ:bW 2=true:=(W3 2 Z);have cq:bY 12=.agg #[.int .i64 pl,S (nS sO)]:=Ay bZ;have Lj:ar b0 w.heap.size 189 #[.int .i64 pl,S (nS sO)]:=Ar;have P0:ar b0 CG.heap.size 191 #[S [],S []]:=As;refine cl nO (rJ hS (ht.ext H)) ?_ (aw cq (aw Z Z));rintro _ _ Li rfl;have⟨Lj,P0,H⟩:=cD Li.2 Lj P0 H;refine I ?_;exact⟨rfl,_,(ax _ _ _ _ _).symm,A2,A0,A1,(di Z a9),H,U,B0,Av,Ay,(λ_=>rfl),Ax,B1,Az,Aw,ny,od,CB,C0,B2,(Lj),(P0),(λft=>(be Li.2 (Ap ft))),(λcy=>(be Li.2 (Aq cy))),(λfB=>(be Li.2 (Ao fB)))⟩;refine⟨λeq VW _ eW _ _ _=>?_,?_⟩;obtain⟨A2,A0,A1,a3,H,H2,B0,Av,Ay,nm,Ax,B1,Az,Aw,ny,od,CB,C0,B2,Ar,As,Ap,Aq,Ao⟩:=eW;obtain⟨eq,rfl⟩:=aU a3
 have P1:ar VW w.heap.size 189 #[.int .i64 pl,S (nS sO)]:=Ar;have Vm:ar VW CG.heap.size 191 #[S [],S []]:=As;refine al bQ (λ_ Rm fa=>?_);have⟨P1,Vm,H⟩:=cD Rm.2 P1 Vm H;refine I ?_;exact⟨rfl,_,(ax _ _ _ _ _).symm,VW.heap.size,A0,A1,(di Z a3),H,U,B0,Av,Ay,nm,(λ_=>rfl),B1,Az,(λ_=>U),ny,od,(λ_ cV=>(by have:=bt (Aq cV);omega)),(λ_ ea=>(by have:=bt (Ao ea);omega)),B2,(P1),(Vm),(λ_=>fa),(λarr=>(be Rm.2 (Aq arr))),(λcT=>(be Rm.2 (Ao cT)))⟩;refine⟨λeD V0 _ cw _ _ _=>?_,?_⟩;obtain⟨A2,A0,A1,W2,H,H2,B0,Av,Ay,nm,Ax,B1,Az,Aw,ny,od,CB,C0,B2,Ar,As,Ap,Aq,Ao⟩:=cw;obtain⟨eD,rfl⟩:=aU W2;have S9:ar V0 w.heap.size 189 #[.int .i64 pl,S (nS sO)]:=Ar;have W1:ar V0 CG.heap.size 191 #[S [],S []]:=As;refine al bQ (λ_ W0 cz=>?_);have⟨S9,W1,H⟩:=cD W0.2 S9 W1 H;refine I ?_;exact⟨rfl,_,(ax _ _ _ _ _).symm,A2,V0.heap.size,A1,(di Z W2),H,U,B0,Av,Ay,nm,Ax,(λ_=>rfl),Az,Aw,(λ_=>U),od,(λf3 _=>(by have:=bt (Ap f3);omega)),C0,(λ_ f0=>(by have:=bt (Ao f0);omega)),(S9),(W1),(λfc=>(be W0.2 (Ap fc))),(λ_=>cz),(λcv=>(be W0.2 (Ao cv)))⟩;refine⟨λfP T2 _ d0 _ _ _=>?_,?_⟩
 obtain⟨A2,A0,A1,a0,H,H2,B0,Av,Ay,nm,Ax,B1,Az,Aw,ny,od,CB,C0,B2,Ar,As,Ap,Aq,Ao⟩:=d0;obtain⟨fP,rfl⟩:=aU a0;have S0:ar T2 w.heap.size 189 #[.int .i64 pl,S (nS sO)]:=Ar;have P2:ar T2 CG.heap.size 191 #[S [],S []]:=As;refine al YD (λ_ Ne d4=>?_);have⟨S0,P2,H⟩:=cD Ne.2 S0 P2 H;refine I ?_;exact⟨rfl,_,(ax _ _ _ _ _).symm,A2,A0,T2.heap.size,(di Z a0),H,U,B0,Av,Ay,nm,Ax,B1,(λ_=>rfl),Aw,ny,(λ_=>U),CB,(λfS _=>(by have:=bt (Ap fS);omega)),(λd1 _=>(by have:=bt (Aq d1);omega)),(S0),(P2),(λf4=>(be Ne.2 (Ap f4))),(λbp=>(be Ne.2 (Aq bp))),(λ_=>d4)⟩;exact trivial;intro H4 KY _ Am bv;obtain⟨A2,A0,A1,cf,H,H2,B0,Av,Ay,nm,Ax,B1,Az,Aw,ny,od,CB,C0,B2,Ar,As,Ap,Aq,Ao⟩:=bv;obtain⟨H4,rfl⟩:=aU cf;have ga:=Aw (Am 4 Z);have at8:=ny (Am 5 Z);have at9:=od (Am 6 Z);have gb:=CB (Am 4 Z) (Am 5 Z);have fz:=C0 (Am 4 Z) (Am 6 Z);have gW:=B2 (Am 5 Z) (Am 6 Z);have D1:ar KY w.heap.size 189 #[.int .i64 pl,S (nS sO)]:=Ar;have D2:ar KY CG.heap.size 191 #[S [],S []]:=As;have a8:ar KY A2 191 #[S [],S []]:=Ap (Am 4 Z);have g1:=bt a8;have L4:ar KY A0 191 #[S [],S []]:=Aq (Am 5 Z);have fy:=bt L4;have K2:ar KY A1 4 #[.bool false]:=Ao (Am 6 Z);have fx:=bt K2
 have g4:H4 5=pT A2:=(Ax (Am 4 Z));have gs:H4 11=.agg #[S (nS 0),S (nS 0)]:=(Av (Am 1 Z));refine SA a8 (λ_ e4 wr=>?_);have⟨D1,D2,L4,K2,H,_⟩:=QS e4 D1 D2 L4 K2 H;have eX:H4 6=pT A0:=(B1 (Am 5 Z));have gr:H4 13=.agg #[S (nS 0),S (nS 0)]:=(nm (Am 3 Z));refine SA L4 (λ_ fR G0=>?_);have⟨D1,D2,wr,K2,H,_⟩:=QS fR D1 D2 wr K2 H;have eP:H4 7=pT A1:=(Az (Am 6 Z));refine SO K2 (λQ0 fG Ix=>?_);have⟨D1,D2,wr,G0,H,_⟩:=QS fG D1 D2 wr G0 H;refine I ?_;refine aa (aE (vf:=[]) (vc:=[pT A1,pT A0]) Z (aw eP (aw eX Z)) ?_);refine al Nc (λ_ cr co=>?_);have⟨D1,D2,wr,G0,Ix,H⟩:=Gw cr.2 D1 D2 wr G0 Ix H;refine SO co (λL2 dd eg=>?_);have⟨D1,D2,wr,G0,Ix,H,_⟩:=Vh dd D1 D2 wr G0 Ix H;refine I ?_;have gv:=bt wr;have g2:=bt G0;have g0:=bt Ix
 refine L0 (M:=m+1) (enc:=λk=>[vN (T k)]) (bs:=[A2,A0,A1]) (Kq:=λW=>aN w W) (gf:=224) (lb:=[pT b1,pT b2]) (ps:=[16]) Z Sk (DL (T:=T) (m:=m) H hB1 hB2 ?hbs hen kc9 hn) ⟨λG E=>xt E G,λG hb E=>bA G E⟩ (λ_=>rfl) (λk W=>k<=m/\L2.heap.size<=W.heap.size/\(aN w W)/\(ar W A2 191 #[S (nS ((pU T k).1)),S (nS ((pU T k).2))])/\(ar W A0 191 #[S (nS ((v8 T k).1)),S (nS ((v8 T k).2))])/\(ar W A1 4 #[.bool (decide (k≠0))])/\(ar W w.heap.size 189 #[.int .i64 pl,S (nS sO)])/\(ar W CG.heap.size 191 #[S [],S []])/\(ar W Q0.heap.size 262 #[.func (.func 221) #[] #[pT A1,pT A0]])) (λc k W=>c=.exit 0/\L2.heap.size<=W.heap.size/\(aN w W)/\(ar W A2 191 #[S (nS ((vV T m).1)),S (nS ((vV T m).2))])/\(ar W w.heap.size 189 #[.int .i64 pl,S (nS sO)])/\(ar W CG.heap.size 191 #[S [],S []])/\(ar W Q0.heap.size 262 #[.func (.func 221) #[] #[pT A1,pT A0]])) (λk=>⟨λG ⟨q1,CY,E,Ab,h1,h2,h3,h4,O⟩=>⟨q1,qa8 CY (bz G),xt E G,be G Ab,be G h1,be G h2,be G h3,be G h4,be G O⟩,λG hb ⟨q1,CY,E,Ab,h1,h2,h3,h4,O⟩=>⟨q1,(by rw[G.size];exact CY),bA G E,pb G Ab,pb G h1,pb G h2,pb G h3,pb G h4,pb G O⟩⟩) (λc k=>⟨λG ⟨q1,CY,E,Ab,h1,h2,h3⟩=>⟨q1,qa8 CY (bz G),xt E G,be G Ab,be G h1,be G h2,be G h3⟩,λG hb ⟨q1,CY,E,Ab,h1,h2,h3⟩=>⟨q1,(by rw[G.size];exact CY),bA G E,pb G Ab,pb G h1,pb G h2,pb G h3⟩⟩) (λk W h=>by have:=h.1;omega) ?Ab (λe k e' W=>∃K3:Nat,e'=upd (ku e [16] [vN (T k)]) 9 (pT K3)/\L2.heap.size<=K3/\ar W K3 191 #[S (nS (T k).1),S (nS (T k).2)]/\(λk W=>k<=m/\L2.heap.size<=W.heap.size/\(aN w W)/\(ar W A2 191 #[S (nS ((pU T k).1)),S (nS ((pU T k).2))])/\(ar W A0 191 #[S (nS ((v8 T k).1)),S (nS ((v8 T k).2))])/\(ar W A1 4 #[.bool (decide (k≠0))])/\(ar W w.heap.size 189 #[.int .i64 pl,S (nS sO)])/\(ar W CG.heap.size 191 #[S [],S []])/\(ar W Q0.heap.size 262 #[.func (.func 221) #[] #[pT A1,pT A0]])) k W) ?hA ?asn ?body ?stop
 case hbs=>
  intro b hb;simp only[List.mem_cons,List.not_mem_nil,or_false]at hb;rcases hb with rfl|rfl|rfl <;>constructor <;>omega
 case Ab=>
  exact⟨qa7 _,qa0 _,H,wr,G0,Ix,D1,D2,eg⟩
 case hA=>
  rintro k e' W b r er hb hl ⟨K3,d5,WV,Af,q1,CY,E,Ab,h1,h2,h3,h4,O⟩;have G:=dp W b (.loop er);have H3:∀{c t cs},ar W c t cs->c≠b:=λh e=>by subst e;unfold ar at h;rw[hl]at h;cases h
  exact⟨K3,d5,WV,ab2 G (H3 Af) Af,q1,(by rw[G.size];exact CY),bA G E,ab2 G (H3 Ab) Ab,ab2 G (H3 h1) h1,ab2 G (H3 h2) h2,ab2 G (H3 h3) h3,ab2 G (H3 h4) h4,ab2 G (H3 O) O⟩
 case asn=>
  rintro l k W K ⟨q1,CY,E,Ab,h1,h2,h3,h4,O⟩ hK;have EW:=aa0 W;refine I ?_;refine al bQ (λ_ E9 fN=>?_);have Ab:=be E9.2 Ab;have h1:=be E9.2 h1;have h2:=be E9.2 h2;have h3:=be E9.2 h3;have h4:=be E9.2 h4;have O:=be E9.2 O;have E:=xt E E9.2;have EW:=xt EW E9.2;refine SA fN (λ_ E0 eC=>?_);have Ab:=pb E0 Ab;have h1:=pb E0 h1;have h2:=pb E0 h2;have h3:=pb E0 h3;have h4:=pb E0 h4;have O:=pb E0 O;have E:=bA E0 E;have h0:=ij E0;have EW:=bA E0 EW;refine I ?_;exact hK _ _ EW ⟨_,rfl,U,eC,q1,(by have:=bz EW;omega),E,Ab,h1,h2,h3,h4,O⟩
 case body=>
  rintro l k e' W ⟨K3,rfl,WV,Af,q1,CY,E,Ab,h1,h2,h3,h4,O⟩;have Kp:=eK.refl [A2,A0,A1] W;have zW:=bz E;have KM:=q1;have fu:=bt Af;have a2:=ae3 Ab;have ac:=ae3 h1;have Wa:=ae3 h2;have fT1:Bk 99 (Ri (pU T k) (T k)):=hR.tot (k:=k+1) U;refine I ?_;refine clb R8 (hc:=Hn (fT1.fi dc).1 (fT1.fi dc).2 (ht.ext E)) (hk:=?_);rintro _ _ E1 rfl;have Ab:=be E1.2 Ab;have h1:=be E1.2 h1;have h2:=be E1.2 h2;have h3:=be E1.2 h3;have h4:=be E1.2 h4;have O:=be E1.2 O;have Af:=be E1.2 Af;have E:=xt E E1.2;have Kp:=ad8 Kp E1.2;refine SA Ab (λ_ E7 Cr=>?_);have h1:=pb E7 h1;have h2:=pb E7 h2;have h3:=pb E7 h3;have h4:=pb E7 h4;have O:=pb E7 O;have Af:=pb E7 Af;have E:=bA E7 E;have Kp:=ae0 Kp E7 L7;refine I ?_;refine aa (l5 (vs:=[.agg #[S (nS ((T k).1)),S (nS ((T k).2))]]) (lb:=[pT A1,pT A0]) Sj Z Z (cB (Qe h2 h1 ((hR.bd k KM).mono dc) (Qg hR KM) (ht.ext E)) (hR.last KM)) ?_);rintro _ _ E6 rfl;have Cr:=be E6.2 Cr;have h1:=be E6.2 h1;have h2:=be E6.2 h2;have h3:=be E6.2 h3
  have h4:=be E6.2 h4;have O:=be E6.2 O;have Af:=be E6.2 Af;have E:=xt E E6.2;have Kp:=ad8 Kp E6.2;refine I ?_;by_cases ap2:k=m;refine I ?_;refine bP 5 ?_;refine sf ?_;refine a7 (V:=S (nS (((T k).2)+4))) (λ_ _ c9 _=>?_) ?_;refine clb mp (hc:=kr Z Zg ka6 (ht.ext (xt E c9))) (hk:=?_);rintro _ _ f9 rfl;have cx:=f9.2;refine I ?_;exact fs ⟨cx,rfl⟩;refine sf ?_;intro _ _ E4 _;have Cr:=be E4.2 Cr;have h1:=be E4.2 h1;have h2:=be E4.2 h2;have h3:=be E4.2 h3;have h4:=be E4.2 h4;have O:=be E4.2 O;have Af:=be E4.2 Af;have E:=xt E E4.2;have Kp:=ad8 Kp E4.2;refine clb mp (hc:=kr Z Z ka6 (ht.ext E)) (hk:=?_);rintro _ _ E5 rfl;have Cr:=be E5.2 Cr;have h1:=be E5.2 h1;have h2:=be E5.2 h2;have h3:=be E5.2 h3;have h4:=be E5.2 h4;have O:=be E5.2 O;have Af:=be E5.2 Af;have E:=xt E E5.2;have Kp:=ad8 Kp E5.2;refine I ?_;refine SO Cr (λ_ ES ct=>?_);have h1:=pb ES h1;have h2:=pb ES h2;have h3:=pb ES h3;have h4:=pb ES h4;have O:=pb ES O;have Af:=pb ES Af;have E:=bA ES E
  have Kp:=ae0 Kp ES L7;refine I ?_;exact⟨Kp.others CA,rfl,(by have:=Kp.size;omega),E,(by subst ap2;exact ct),h3,h4,O⟩;refine I ?_;refine SA h1 (λ_ FR N0=>?_);have Cr:=pb FR Cr;have h2:=pb FR h2;have h3:=pb FR h3;have h4:=pb FR h4;have O:=pb FR O;have Af:=pb FR Af;have E:=bA FR E;have Kp:=ae0 Kp FR L7;refine SO h2 (λ_ GC fC=>?_);have Cr:=pb GC Cr;have N0:=pb GC N0;have h3:=pb GC h3;have h4:=pb GC h4;have O:=pb GC O;have Af:=pb GC Af;have E:=bA GC E;have Kp:=ae0 Kp GC L7;refine I ?_;exact⟨Kp.others CA,jh.of Kp,λ_=>E,U,(by have:=Kp.size;omega),E,Cr,N0,(by rw[decide_eq_true U];exact fC),h3,h4,O⟩
 case stop=>
  rintro D c k W hD ⟨rfl,CY,E,Ab,h1,h2,h3⟩ hK;have zW:=bz E;refine I ?_;refine SA h2 (λ_ KC fX=>?_);have Ab:=pb KC Ab;have h1:=pb KC h1;have h3:=pb KC h3;have hK:=ad3 KC (hK.ne h2) hK;have E:=bA KC E;refine I ?_;refine jM (v:=.agg #[S (nS ((vV T m).1)),S (nS ((vV T m).2))]) hK (cC  rfl ?_) ((dK _).low E U) Z;refine ak (t:=4) (cs:=[S (nS ((vV T m).1)),S (nS ((vV T m).2))]) (b:=CG.heap.size) (o:=0) jr Z fI ?_ ?_;exact Z;exact aa1 (fX.dfr hK) (i:=0) Z
set_option maxRecDepth 100000
def cP {f:FuncId}{a:Array Value}{p q:N2}(h:CL f a w (aH w λv _=>v=.agg #[S (nS p.1),S (nS p.2)]))(e:p=q):CL f a w (aH w λv _=>v=.agg #[S (nS q.1),S (nS q.2)]):=e▸h
def Qh {a b:Nat}(h:b<a):0<aQ (a:Int) (b:Int):=by rw[eT U];decide
def Qi {a b:Nat}(h:¬b<a):¬0<aQ (a:Int) (b:Int):=by have:=(dh (x:=(a:Int)) (y:=(b:Int))).2 U;omega
def Qj {t x:N2}(hS:Sc sO)(hb1:ar w b1 189 #[.int .i64 pl,S (nS sO)])(hb2:ar w b2 191 #[S (nS x.1),S (nS x.2)])(htb:Bk 95 t)(hx:Bk 95 x)(h0:0<n)(hn:n<100000)(ht:Tb w):
 CL 225 #[.agg #[S (nS t.1),S (nS t.2)],.int .i64 n,pT b1,pT b2] w (aH w λv w'=>v=.agg #[S (nS ((K8 sO x n t).1)),S (nS ((K8 sO x n t).2))]):=by
 have Aq:=bt hb1;have Ap:=bt hb2;refine aC func225 Z (I ?_);refine bx (λnm O G=>?_);have⟨hb1,hb2⟩:=gu O.2 hb1 hb2;have E:=O.2;refine al bQ (λ_ A2 H=>?_);have⟨hb1,hb2,G,E⟩:=fE A2.2 hb1 hb2 G E;refine I ?_;refine bP 6 ?_;refine sf ?_;refine a7 (V:=.agg #[S (nS ((na sO t x).1)),S (nS ((na sO t x).2))]) (λ_ _ Af _=>?_) ?_;refine cl nR (gP hS htb hx (ht.ext (xt E Af))) ?_;rintro _ _ Ao rfl;have Ab:=Ao.2;refine I ?_;exact fs ⟨Ab,rfl⟩;refine sf ?_;intro _ _ A1 _;have⟨hb1,hb2,G,H,E⟩:=ka A1.2 hb1 hb2 G H E;refine clb nQ (hc:=lN (K5 hS.pos htb hx) dc U U (ht.ext E)) (hk:=?_);rintro _ _ Am rfl;have⟨hb1,hb2,G,H,E⟩:=ka Am.2 hb1 hb2 G H E;refine SA H (λ_ W A0=>?_);have⟨hb1,hb2,G⟩:=nW W hb1 hb2 G;have E:=bA W E;refine I ?_;refine ba (v:=.agg #[S (nS ((lK (na sO t x) 1 n).1)),S (nS ((lK (na sO t x) 1 n).2))]) (cC  rfl ?_) E Z;refine ak (t:=6) (cs:=[S (nS ((lK (na sO t x) 1 n).1)),S (nS ((lK (na sO t x) 1 n).2))]) (b:=nm.heap.size) (o:=0) jr Z fI ?_ ?_;exact Z;exact aa1 A0 (i:=0) Z
def MR {b3 fr:Nat}{t x:N2}(hS:Sc sO)(hb1:ar w b1 189 #[.int .i64 pl,S (nS sO)])(hb2:ar w b2 191 #[S (nS x.1),S (nS x.2)])(hb3:ar w b3 3 #[.int .i64 fr])(htb:Bk 95 t)(hx:Bk 95 x)(h0:0<n)(hn:n<100000)(hf:fr<100000)(ht:Tb w):
 CL 192 #[.agg #[S (nS t.1),S (nS t.2)],.int .i64 n,pT b1,pT b2,pT b3] w (aH w λv w'=>v=.agg #[S (nS ((Ur sO x fr n t).1)),S (nS ((Ur sO x fr n t).2))]):=by
 have Ar:=bt hb1;have Ap:=bt hb2;have Aq:=bt hb3;refine aC func192 Z (I ?_);refine bx (λA0 W G=>?_);have⟨hb1,hb2,hb3⟩:=qh W.2 hb1 hb2 hb3;have E:=W.2;refine al bQ (λ_ Af H=>?_);have⟨hb1,hb2,hb3,G,E⟩:=ka Af.2 hb1 hb2 hb3 G E;refine I ?_;refine bP 9 ?_;refine sf ?_;refine a7 (V:=.agg #[S (nS ((na sO t x).1)),S (nS ((na sO t x).2))]) (λ_ _ A1 _=>?_) ?_;refine cl nR (gP hS htb hx (ht.ext (xt E A1))) ?_;rintro _ _ Ao rfl;have Am:=Ao.2;refine I ?_;exact fs ⟨Am,rfl⟩;refine sf ?_;refine aB (λ_ _ _ _=>by refine aa (ra (a:=2) (b:=(n:Int)) (c:=((2*n:Nat):Int)) Z Z j0 U ?_);refine I ?_;exact aK) ?_;refine aB (λ_ _ _ _=>by refine aa (cG (a:=(fr:Int)) (b:=((2*n:Nat):Int)) (c:=((fr+2*n:Nat):Int)) Z Z j0 U ?_);refine I ?_;exact aK) ?_;refine sf ?_;intro _ _ Ab _;have⟨hb1,hb2,hb3,G,H,E⟩:=Gw Ab.2 hb1 hb2 hb3 G H E;refine clb nQ (hc:=lN (K5 hS.pos htb hx) dc U U (ht.ext E)) (hk:=?_);rintro _ _ A2 rfl;have⟨hb1,hb2,hb3,G,H,E⟩:=Gw A2.2 hb1 hb2 hb3 G H E;refine SA H (λ_ O ny=>?_);have⟨hb1,hb2,hb3,G⟩:=ZZ O hb1 hb2 hb3 G;have E:=bA O E;refine I ?_;refine ba (v:=.agg #[S (nS ((lK (na sO t x) 2 (fr+2*n)).1)),S (nS ((lK (na sO t x) 2 (fr+2*n)).2))]) (cC  rfl ?_) E Z
 refine ak (t:=7) (cs:=[S (nS ((lK (na sO t x) 2 (fr+2*n)).1)),S (nS ((lK (na sO t x) 2 (fr+2*n)).2))]) (b:=A0.heap.size) (o:=0) jr Z fI ?_ ?_;exact Z;exact aa1 ny (i:=0) Z
def Gd {S:Nat}:∀{f h:Nat} {x:N2} {p:N2×Nat},jZ S f x h=some p->p.2<=h+f
 |0,_,_,_,e=>by simp[jZ]at e
 | f+1,h,x,p,e=>by
   unfold jZ at e
   split at e
   · have:=Gd e;omega
   · cases e;simp
set_option maxRecDepth 100000 in
def MS {x r:N2}(hS:Sc sO)(he:yv sO x=some r)(ht:Tb w):
 CL 194 #[.agg #[.int .i64 pl,S (nS sO)],.agg #[S (nS x.1),S (nS x.2)]] w (aH w λv w'=>v=.agg #[S (nS r.1),S (nS r.2)]):=by
 obtain⟨hx,p,s,Ar,hs,hq⟩:=Fx he;have P0:=Gd Ar;refine aC func194 Z (I ?_);refine bx (λAb L2 E=>?_);have A2:=L2.2;refine bx (λAp E1 Ao=>?_);have⟨E,A2⟩:=bw E1.2 E A2;refine al bQ (λH3 H4 G=>?_);have⟨E,Ao,A2⟩:=cD H4.2 E Ao A2;refine I ?_;refine ck [(5,5),(7,18)] (λAq e W=>∃f:Nat,∃y:N2,∃h:Nat,(f=Aq)/\(e 5=.int .i64 h)/\(jZ sO f y h=some p)/\(Bk 95 y)/\(h+f<=200)/\(H3.heap.size<=W.heap.size)/\(aN w W)/\(ar W w.heap.size 189 #[.int .i64 pl,S (nS sO)])/\(ar W Ap.heap.size 191 #[S [],S []])/\(ar W Ab.heap.size 191 #[S (nS y.1),S (nS y.2)])) (200) ⟨200,x,0,rfl,rfl,Ar,hx,U,(qa0 _),A2,E,G,Ao⟩ ?_;rintro _ _ _ ⟨f,y,h,rfl,Rm,Aw,hy,hb,P2,O,E,G,H⟩;by_cases hl:sO<y.2*2;obtain⟨g,rfl,E7⟩:=Uo Aw hl;refine I ?_;refine bP 5 ?_;refine sf ?_;refine a7 (V:=S (nS (y.2*2))) (λ_ _ nm _=>?_) ?_;refine clb iw (hc:=gl Z wQ (hy.fi dc).2 (g7 (k:=1) dc dc) kb6 (ht.ext (xt O nm))) (hk:=?_);rintro _ _ Ne rfl;have K2:=Ne.2;refine I ?_;exact fs ⟨K2,rfl⟩;refine sf ?_;intro _ _ E6 _;have⟨E,G,H,O⟩:=fE E6.2 E G H O;refine clb xo (hc:=MQ Z Z kb6 hS.fi) (hk:=?_);rintro _ _ B2 rfl;have⟨E,G,H,O⟩:=fE B2.2 E G H O;have No:=Qh hl;refine I ?_
 refine clb nQ (hc:=lN (hy.mono dc) dc dc dc (ht.ext O)) (hk:=?_);rintro _ _ E9 rfl;have⟨E,G,H,O⟩:=fE E9.2 E G H O;refine SA H (λ_ ny ES=>?_);have⟨E,G,O,_⟩:=tK ny E G O;refine I ?_;refine aa (cG (a:=(h:Int)) (b:=1) (c:=((h+1:Nat):Int)) Z Z j0 U ?_);refine I ?_;exact bJ ⟨g,lK y 1 2,h+1,rfl,rfl,E7,(Pd hy),U,U,O,E,G,ES⟩;have Lj:=Up Aw hl;subst Lj;have hm:=uK hs;obtain⟨m,hR,hr⟩:=hm;refine I ?_;refine bP 5 ?_;refine sf ?_;refine a7 (V:=S (nS (y.2*2))) (λ_ _ od _=>?_) ?_;refine clb iw (hc:=gl Z wQ (hy.fi dc).2 (g7 (k:=1) dc dc) kb6 (ht.ext (xt O od))) (hk:=?_);rintro _ _ Ay rfl;have B1:=Ay.2;refine I ?_;exact fs ⟨B1,rfl⟩;refine sf ?_;intro _ _ La _;have⟨E,G,H,O⟩:=fE La.2 E G H O;refine clb xo (hc:=MQ Z Z kb6 hS.fi) (hk:=?_);rintro _ C0 Ix rfl;have⟨E,G,H,O⟩:=fE Ix.2 E G H O;have P1:=Qi hl;refine I ?_;refine bP 7 ?_;refine sf ?_;refine a7 (V:=.agg #[S (nS ((1*sO,1*sO).1)),S (nS ((1*sO,1*sO).2))]) (λ_ _ E4 _=>?_) ?_;refine clb nO (hc:=iK (n:=1) hS dc Fr (ht.ext (xt O E4))) (hk:=?_);rintro _ _ N0 rfl;have L4:=N0.2;refine I ?_;exact fs ⟨L4,rfl⟩
 refine aB (λ_ _ _ _=>by refine aa (aE (vf:=[]) (vc:=[pT w.heap.size,pT Ab.heap.size]) Z Z ?_);refine I ?_;exact aK) ?_;refine b8 (λv Af=>DK (1*sO,1*sO) (.func (.func 225) #[] #[pT w.heap.size,pT Ab.heap.size]) Af v) (hs:=λ_ _ _ k h=>h.ext k) (λ_ _ _ _=>?_) ?_;refine cl B4 vq ?_;rintro _ _ wr FR;have Kp:=wr.2;refine I ?_;exact fs ⟨Kp,FR⟩;refine a7 (V:=.agg #[S (nS s.1),S (nS s.2)]) (λ_ _ Am CY=>?_) ?_;obtain⟨_,_,CB,Li,H2⟩:=(CY 4 23 Z Z);have⟨E,H⟩:=gu Am E H;refine clb B3 (hc:=cP (DN hR hS Li H2 R7 (λk hk W e=>Qj hS (E.ext e) (H.ext e) (hR.bd k U) hy U kc9 ((ht.ext (xt O Am)).ext e)) (ht.ext (xt O Am))) hr) (hk:=?_) (hv:=aw Z (aw CB Z));rintro _ _ D1 rfl;have CG:=D1.2;refine I ?_;exact fs ⟨CG,rfl⟩;refine b8 (λv Af=>∃b:Nat,v=pT b/\C0.heap.size<=b/\ar Af b 191 #[S [],S []]) (hs:=λ_ _ _ k ⟨b,e,l,h⟩=>⟨b,e,l,h.ext k⟩) (λ_ _ G0 _=>?_) ?_;refine al bQ (λ_ Az GC=>?_);have B0:=Az.2;refine I ?_;exact fs ⟨B0,⟨_,rfl,(by have:=bz G0;omega),GC⟩⟩;refine sf ?_;intro _ _ K3 D2;have⟨E,G,H,O⟩:=fE K3.2 E G H O;obtain⟨E5,_,_,L1⟩:=(D2 6 6 Z Z);refine SA L1 (λE0 As KM=>?_);have⟨E,G,H⟩:=nW As E G H;have O:=bA As O;refine I ?_
 refine ck [(26,32)] (λAq e W=>∃i:Nat,∃a:N2,(h-i=Aq)/\(e 26=.int .i64 i)/\(i<=h)/\(HW sO (h-i) a=some r)/\(E0.heap.size<=W.heap.size)/\(aN w W)/\(ar W w.heap.size 189 #[.int .i64 pl,S (nS sO)])/\(ar W Ap.heap.size 191 #[S [],S []])/\(ar W Ab.heap.size 191 #[S (nS y.1),S (nS y.2)])/\(ar W E5 191 #[S (nS a.1),S (nS a.2)])) (h-0) ⟨0,s,rfl,rfl,(qa7 _),hq,(qa0 _),O,E,G,H,KM⟩ ?_;rintro _ _ _ ⟨i,a,rfl,EW,hi,Ax,Q0,A0,E,G,H,A1⟩;by_cases hl2:i<h;obtain⟨ha,KY⟩:=Zh Ax hl2;refine I ?_;refine cl nR (gP hS ha ha (ht.ext A0)) ?_;rintro _ _ KC rfl;have⟨E,G,H,A1,A0⟩:=ka KC.2 E G H A1 A0;refine SA A1 (λ_ Cr Lk=>?_);have⟨E,G,H,A0,_⟩:=QR Cr E G H A0;refine I ?_;refine aa (cG (a:=(i:Int)) (b:=1) (c:=((i+1:Nat):Int)) EW Z j0 U ?_);refine I ?_;exact bJ ⟨i+1,na sO a a,rfl,rfl,U,KY,U,A0,E,G,H,Lk⟩;obtain⟨rfl,_⟩:=Zi Ax hl2;refine I ?_;refine SA G (λ_ Av L3=>?_);have⟨E,H,A1⟩:=nW Av E H A1;have A0:=bA Av A0;refine I ?_;refine ba (v:=.agg #[S (nS a.1),S (nS a.2)]) (cC  rfl ?_) A0 Z;refine ak (t:=4) (cs:=[S (nS a.1),S (nS a.2)]) (b:=Ap.heap.size) (o:=0) jr Z fI ?_ ?_;exact Z;exact aa1 L3 (i:=0) Z
def U7:Rr.length=81:=by decide +kernel
def xg {a r:N2}(hS:Sc sO)(hr:mO sO a=some r)(ht:Tb w):
 CL 195 #[.agg #[.int .i64 pl,S (nS sO)],.agg #[S (nS a.1),S (nS a.2)]] w (aH w λv w'=>v=.agg #[S (nS r.1),S (nS r.2)]):=by
 obtain⟨ha,A1,p2,x,y,A2,Ab,hb,Aw⟩:=LN hr;have A0:=ha.fi dc;refine aC func195 Z (I ?_);refine bx (λ_ Av G=>?_);have E:=Av.2;refine bx (λAq Am H=>?_);have⟨G,E⟩:=bw Am.2 G E;refine al bQ (λ_ Ax O=>?_);have⟨G,H,E⟩:=cD Ax.2 G H E;refine I ?_;refine clb iw (hc:=gl Z Z A0.1 hS.fi (fZ ha.1 hS.lt dc) (ht.ext E)) (hk:=?_);rintro _ _ Ar rfl;have⟨G,H,O,E⟩:=fE Ar.2 G H O E;refine clb IB (hc:=FF (fZ ha.1 hS.lt dc) A1 A2 (ht.ext E)) (hk:=?_);rintro _ _ Af rfl;have⟨G,H,O,E⟩:=fE Af.2 G H O E;refine I ?_;refine clb iw (hc:=gl Z Z A0.2 hS.fi (fZ ha.2 hS.lt dc) (ht.ext E)) (hk:=?_);rintro _ _ Ao rfl;have⟨G,H,O,E⟩:=fE Ao.2 G H O E;refine clb IB (hc:=FF (fZ ha.2 hS.lt dc) p2 Ab (ht.ext E)) (hk:=?_);rintro _ _ As rfl;have⟨G,H,O,E⟩:=fE As.2 G H O E;refine I ?_;refine clb mp (hc:=kr Z K4 (by have:=hb.2;unfold Fi;simp only at this;omega) (ht.ext E)) (hk:=?_);rintro _ _ Ap rfl;have⟨G,H,O,E⟩:=fE Ap.2 G H O E;refine I ?_;refine SA O (λ_ W nm=>?_);have⟨G,H⟩:=lw W G H;have E:=bA W E;refine I ?_;refine ba (v:=.agg #[S (nS x),S (nS (y+1))]) (cC  rfl ?_) E (by rw[Aw]);refine ak (t:=4) (cs:=[S (nS x),S (nS (y+1))]) (b:=Aq.heap.size) (o:=0) jr Z fI ?_ ?_;exact Z;exact aa1 nm (i:=0) Z
def Yh (hp:pl<81)(ht:Tb w):
 CL 196 #[.agg #[.int .i64 pl,S (nS sO)]] w (aH w λv w'=>v=.agg #[S (nS ((vH pl,vH pl+1).1)),S (nS ((vH pl,vH pl+1).2))]):=by
 refine aC func196 Z (I ?_);refine bx (λW Ab G=>?_);have E:=Ab.2;refine al bQ (λ_ A2 H=>?_);have⟨G,E⟩:=bw A2.2 G E;refine I ?_;refine aa (cG (a:=(pl:Int)) (b:=1) (c:=((pl+1:Nat):Int)) Z Z j0 U ?_);refine aa (me (l:=Rr) (i:=0) (j:=pl+1) U9 Z (.inl ⟨rfl,rfl⟩) (.inr ⟨_,qb2 some Z⟩) U (by rw[U7];omega) ?_);rw[show(Rr.take (pl+1)).drop 0=Rr.take (pl+1)from rfl];refine I ?_;refine clb mp (hc:=kr (LO hp) K4 (by have:=XJ (k:=pl);unfold Fi;omega) (ht.ext E)) (hk:=?_);rintro _ _ A1 rfl;have⟨G,H,E⟩:=cD A1.2 G H E;refine I ?_;refine SA H (λ_ O A0=>?_);have G:=pb O G;have E:=bA O E;refine I ?_;refine ba (v:=.agg #[S (Rr.take (pl+1)),S (nS (vH pl+1))]) (cC  rfl ?_) E (by exact qb2 (λl=>Value.agg #[S l,S (nS (vH pl+1))]) (LO hp));refine ak (t:=2) (cs:=[S (Rr.take (pl+1)),S (nS (vH pl+1))]) (b:=W.heap.size) (o:=0) jr Z fI ?_ ?_;exact Z;exact aa1 A0 (i:=0) Z
def q01:(([48],[49]):R)=qR 0 1:=by decide +kernel
section
variable {m l' m':List UInt8}
def vt (e1:(l,m)=qR a b)(e2:(l',m')=qR c d)(h1:Q9 a b)(h2:Q9 c d)(ht:Tb w):CL 26 #[.agg #[S l,S m],.agg #[S l',S m']] w (aH w λv _=>v=.int .i64 (aQ (a*d) (c*b))):=by
 rw[show l=(qR a b).1 from congrArg Prod.fst e1,show m=(qR a b).2 from congrArg Prod.snd e1,show l'=(qR c d).1 from congrArg Prod.fst e2,show m'=(qR c d).2 from congrArg Prod.snd e2]
 exact Be h1.2.1 h2.2.1 h1.fz.1 h1.fz.2 h2.fz.1 h2.fz.2 ht
def Yi (e1:(l,m)=qR a b)(e2:(l',m')=qR c d)(h1:Q9 a b)(h2:Q9 c d)(ht:Tb w):CL 117 #[.agg #[S l,S m],.agg #[S l',S m']] w (aH w λv _=>v=Qv (a*d-c*b) (b*d)):=by
 rw[show l=(qR a b).1 from congrArg Prod.fst e1,show m=(qR a b).2 from congrArg Prod.snd e1,show l'=(qR c d).1 from congrArg Prod.fst e2,show m'=(qR c d).2 from congrArg Prod.snd e2]
 exact PF h1 h2 ht
end
def ZS:Q9 0 1:=⟨by decide,by decide,by decide⟩
def Ge {a b:Nat}(hb:0<b):ei (a:Int) (b:Int)=((a/Nat.gcd a b:Nat):Int)/\dm (a:Int) (b:Int)=((b/Nat.gcd a b:Nat):Int):=by
 unfold ei dm
 rw[if_neg U,if_neg U]
 exact⟨rfl,rfl⟩
def BF {a b:Nat}(hS:Sc sO)(ha:a<10^90)(hb:b<10^90)(h0:0<b)(ht:Tb w):
 CL 188 #[.agg #[.int .i64 pl,S (nS sO)],.agg #[S (qR (a:Int) (b:Int)).1,S (qR (a:Int) (b:Int)).2]] w (aH w λv _=>v=.agg #[S (nS (qj sO a b).1),S (nS (qj sO a b).2)]):=by
 have E:0<Nat.gcd a b:=Nat.gcd_pos_of_pos_right _ h0
 have e1:a/Nat.gcd a b*Nat.gcd a b=a:=Nat.div_mul_cancel (Nat.gcd_dvd_left _ _)
 have e2:b/Nat.gcd a b*Nat.gcd a b=b:=Nat.div_mul_cancel (Nat.gcd_dvd_right _ _)
 have h1:=PH (S:=sO) (n:=a/Nat.gcd a b) (d:=b/Nat.gcd a b) E
 rw[e1,e2]at h1
 have G:a/Nat.gcd a b<10^90:=Nat.lt_of_le_of_lt (Nat.div_le_self _ _) ha
 have H:b/Nat.gcd a b<10^90:=Nat.lt_of_le_of_lt (Nat.div_le_self _ _) hb
 have O:0<b/Nat.gcd a b:=Nat.div_pos (Nat.le_of_dvd h0 (Nat.gcd_dvd_right _ _)) E
 rw[h1]
 unfold qR
 rw[(Ge h0).1,(Ge h0).2]
 exact Pr hS (g7 G dc) (g7 H dc) O (fZ G hS.lt dc) ht
def Yj (x:R×R):Prop:=∃a b c d,x.1=qR a b/\x.2=qR c d/\Q9 a b/\Q9 c d/\a*d<=c*b
def j3 (l:List (R×R)):List Value:=l.flatMap λx=>[S x.1.1,S x.1.2,S x.2.1,S x.2.2]
def qn (l:List (R×R))(i:Nat):R×R:=l.getD i (([],[]),([],[]))
def vu:∀{l:List (R×R)} {i:Nat},i<l.length->(j3 l)[i*4]?=some (S (qn l i).1.1)/\(j3 l)[i*4+1]?=some (S (qn l i).1.2)/\(j3 l)[i*4+2]?=some (S (qn l i).2.1)/\(j3 l)[i*4+3]?=some (S (qn l i).2.2)
 |a::t,0,_=>by simp[j3,qn]
 | a::t,i+1,h=>by
   have ih:=vu (l:=t) (i:=i) ka5
   rw[show(i+1)*4=i*4+4 by omega,show i*4+4+1=i*4+1+4 by omega,show i*4+4+2=i*4+2+4 by omega,show i*4+4+3=i*4+3+4 by omega]
   simpa[j3,qn]using ih
def Qk {l:List (R×R)}(h:Rw w lo A (j3 l))(hi:i<l.length):
 ∃b o,A=some ⟨b,o,none⟩/\∀j u,[S (qn l i).1.1,S (qn l i).1.2,S (qn l i).2.1,S (qn l i).2.2][j]?=some u->w.cell? ⟨b,o+i*4+j,none⟩=some u:=by
 obtain⟨h1,h2,h3,h4⟩:=vu hi
 obtain⟨b,o,hA,H⟩:=h.cells _ _ h1
 obtain⟨_,_,hA2,O⟩:=h.cells _ _ h2
 obtain⟨_,_,hA3,G⟩:=h.cells _ _ h3
 obtain⟨_,_,hA4,E⟩:=h.cells _ _ h4
 rw[hA]at hA2 hA3 hA4;cases hA2;cases hA3;cases hA4
 refine⟨b,o,hA,λj u hu=>?_⟩
 match j,hu with
 |0,hu=>simp at hu;subst hu;simpa using H
 |1,hu=>simp at hu;subst hu;simpa[Nat.add_assoc]using O
 |2,hu=>simp at hu;subst hu;simpa[Nat.add_assoc]using G
 |3,hu=>simp at hu;subst hu;simpa[Nat.add_assoc]using E
def Gf {l:List (R×R)}(h:i<l.length):qn l i∈l:=by unfold qn;simp[h]
def Yk {m:List UInt8}(e:(l,m)=qR a b)(h:Q9 a b):bN (l,m)=true:=e▸h.ok
def mS :
 CL 249 #[.bool true] w (aH w λv w'=>v=.tuple #[]):=by
 refine aC func249 Z (I ?_);exact H8 (nh Z) (aa0 _) Z
def rK {x:R×R}(hx:Yj x)(ht:Tb w):
 CL 252 #[.agg #[S x.1.1,S x.1.2,S x.2.1,S x.2.2]] w (aH w λv w'=>v=.bool true):=by
 obtain⟨a,b,c,d,e1,e2,q1,H,W⟩:=hx;refine aC func252 Z (I ?_);refine bx (λ_ A0 G=>?_);have E:=A0.2;refine I ?_;refine cl tj (cB (eE _ _ _ (ht.ext E)) (Yk e1 q1)) ?_;rintro _ _ A1 rfl;have⟨G,E⟩:=bw A1.2 G E;refine I ?_;refine cl tj (cB (eE _ _ _ (ht.ext E)) (Yk e2 H)) ?_;rintro _ _ O rfl;have⟨G,E⟩:=bw O.2 G E;refine I ?_;refine cl oS (vt e1 e2 q1 H (ht.ext E)) ?_;rintro _ _ A2 rfl;have E:=xt E A2.2;refine I ?_;exact am (t:=2) (v:=.bool (decide ((aQ (a*d) (c*b))<=0))) Z E (qb2 Value.bool (qa1 (dh.2 W))) Z
def DO {x:R×R}(hx:Yj x)(ht:Tb w):
 CL 251 #[.agg #[S x.1.1,S x.1.2,S x.2.1,S x.2.2]] w (aH w λv w'=>v=.bool false):=by
 refine aC func251 Z (I ?_);refine bx (λ_ G O=>?_);have E:=G.2;refine I ?_;refine aa (aM (cs:=[S x.1.1,S x.1.2,S x.2.1,S x.2.2]) (b:=w.heap.size) (o:=0) fJ Z eh Z (aa1 O (i:=0) Z) ?_);refine cl Iv (rK hx (ht.ext E)) ?_;rintro _ _ H rfl;have E:=xt E H.2;refine I ?_;exact am (t:=2) (v:=.bool false) Z E Z Z
def DR {x:R×R}(hx:Yj x)(ht:Tb w):
 CL 254 #[.agg #[S x.1.1,S x.1.2,S x.2.1,S x.2.2]] w (aH w λv w'=>v=.bool false):=by
 refine aC func254 Z (I ?_);refine bx (λ_ G O=>?_);have E:=G.2;refine I ?_;refine aa (aM (cs:=[S x.1.1,S x.1.2,S x.2.1,S x.2.2]) (b:=w.heap.size) (o:=0) fJ Z eh Z (aa1 O (i:=0) Z) ?_);refine cl Iv (rK hx (ht.ext E)) ?_;rintro _ _ H rfl;have E:=xt E H.2;refine I ?_;exact am (t:=2) (v:=.bool false) Z E Z Z
def MU {l:List (R×R)}(hr:Rw w lo A (j3 l))(hn:l.length=n)(hb:n<=1000)(hg:Enters prog g)(hf:∀i<n,∀W,aN w W->CL g #[.agg #[S (qn l i).1.1,S (qn l i).1.2,S (qn l i).2.1,S (qn l i).2.2]] W (aH W λv _=>v=.bool false)):
 CL 269 #[.slice A n cp,.func (.func g) #[] #[]] w (aH w λv w'=>v=.int .i64 (-1)):=by
 refine aC func269 Z (I ?_);have H:=aa0 w;refine ck [(4,5),(8,18)] (λA0 e W=>∃i:Nat,(n-i=A0)/\(e 8=.int .i64 i)/\(i<=n)/\(aN w W)) (n-0) ⟨0,rfl,rfl,(qa7 _),H⟩ ?_;rintro _ _ _ ⟨i,rfl,G,hi,E⟩;by_cases hl:i<n;obtain⟨bk,o,hA,A1⟩:=Qk (hr.ext E) (i:=i) U;refine I ?_;refine aa (aA (i:=i) (oo:=o+i*4) VA eh Z hA Z U Z ?_);refine aa (aM (cs:=[S (qn l i).1.1,S (qn l i).1.2,S (qn l i).2.1,S (qn l i).2.2]) (b:=bk) (o:=o+i*4) fJ Z eh Z A1 ?_);refine aa (l5 (vs:=[.agg #[S (qn l i).1.1,S (qn l i).1.2,S (qn l i).2.1,S (qn l i).2.2]]) (lb:=[]) hg Z Z (hf i U _ E) ?_);rintro _ _ O rfl;have E:=xt E O.2;refine I ?_;refine aa (cG (a:=(i:Int)) (b:=1) (c:=((i+1:Nat):Int)) G Z j0 U ?_);refine I ?_;exact bJ ⟨i+1,rfl,rfl,U,E⟩;refine I ?_;exact am (t:=4) (v:=.int .i64 (-1)) Z E Z Z
def rM {l:List (R×R)}(hr:Rw w lo A (j3 l))(hn:l.length=n)(hb:n<=1000)(hg:Enters prog g)(hf:∀i<n,∀W,aN w W->CL g #[.agg #[S (qn l i).1.1,S (qn l i).1.2,S (qn l i).2.1,S (qn l i).2.2]] W (aH W λv _=>v=.bool false)):
 CL 250 #[.slice A n cp,.func (.func g) #[] #[]] w (aH w λv w'=>v=.bool false):=by
 refine aC func250 Z (I ?_);refine cl Sp (MU (hr.ext (aa0 _)) hn hb hg (λi hi W e=>hf i hi W (xt (aa0 _) e))) ?_;rintro _ _ E rfl;have G:=E.2;refine I ?_;exact am (t:=4) (v:=.bool false) Z G Z Z
def BG {l:List (R×R)}{x:R×R}(hg:Enters prog gf)(hr:Rw w lo A (j3 l))(hn:l.length=n)(hb:n<=1000)(hv:∀x∈l,Yj x)(hc:∀W,aN w W->CL gf lb.toArray W (aH W λv _=>v=.agg #[S x.1.1,S x.1.2,S x.2.1,S x.2.2]))(ht:Tb w):
 CL 229 #[.func (.func gf) #[] lb.toArray,.slice A n cp] w (aH w λv w'=>v=.tuple #[.agg #[S x.1.1,S x.1.2,S x.2.1,S x.2.2],.int .i64 0]):=by
 refine mI func229 Z (I ?_);refine al k9 (λO Am G=>?_);have E:=Am.2;refine al mi (λ_ Af H=>?_);have⟨G,E⟩:=bw Af.2 G E;refine I ?_;refine aa (aE (vf:=[]) (vc:=[pT w.heap.size,pT O.heap.size]) Z Z ?_);refine aa (jb (lb:=[pT w.heap.size,pT O.heap.size]) Z ?_);refine I ?_;refine clb Iy (hc:=rM (hr.ext E) hn hb Sf (λi hi W e=>DO (hv _ (Gf U)) ((ht.ext E).ext e))) (hk:=?_);rintro _ _ Ap rfl;have⟨G,H,E⟩:=cD Ap.2 G H E;refine I ?_;refine cl B9 mS ?_;rintro _ _ Ab rfl;have⟨G,H,E⟩:=cD Ab.2 G H E;refine I ?_;refine aa (l5 (f:=gf) (lb:=lb) (vs:=[]) hg Z Z (hc _ E) ?_);rintro _ _ Ao rfl;have⟨G,H,E⟩:=cD Ao.2 G H E;refine SA G (λ_ A1 A0=>?_);have H:=pb A1 H;have E:=bA A1 E;refine SO H (λ_ A2 Aq=>?_);have A0:=pb A2 A0;have E:=bA A2 E;refine I ?_;refine ou (b1:=w.heap.size) (b2:=O.heap.size) (v:=.tuple #[.agg #[S x.1.1,S x.1.2,S x.2.1,S x.2.2],.int .i64 0]) Sd (λ_ _=>J8) E (de (r1:=.cell 4 144) (r2:=.cell 5 36) Z ?_ ?_) Z;refine ak (t:=4) (cs:=[S x.1.1,S x.1.2,S x.2.1,S x.2.2]) (b:=w.heap.size) (o:=0) fJ Z eh ?_ ?_;exact Z;exact aa1 A0 (i:=0) Z;refine bI (t:=5) (b:=O.heap.size) (o:=0) BV Z ?_ ?_;exact Z;exact ab4 Aq Z
def BH {l:List (R×R)}{x:R}(hg:Enters prog gf)(hr:Rw w lo A (j3 l))(hn:l.length=n)(hb:n<=1000)(hv:∀x∈l,Yj x)(hc:∀W,aN w W->CL gf lb.toArray W (aH W λv _=>v=.agg #[S x.1,S x.2]))(ht:Tb w):
 CL 232 #[.func (.func gf) #[] lb.toArray,.slice A n cp] w (aH w λv w'=>v=.tuple #[.agg #[S x.1,S x.2],.int .i64 0]):=by
 refine mI func232 Z (I ?_);refine al aZ (λO Am G=>?_);have E:=Am.2;refine al mi (λ_ Af H=>?_);have⟨G,E⟩:=bw Af.2 G E;refine I ?_;refine aa (aE (vf:=[]) (vc:=[pT w.heap.size,pT O.heap.size]) Z Z ?_);refine aa (jb (lb:=[pT w.heap.size,pT O.heap.size]) Z ?_);refine I ?_;refine clb Iy (hc:=rM (hr.ext E) hn hb Sm (λi hi W e=>DR (hv _ (Gf U)) ((ht.ext E).ext e))) (hk:=?_);rintro _ _ Ap rfl;have⟨G,H,E⟩:=cD Ap.2 G H E;refine I ?_;refine cl B9 mS ?_;rintro _ _ Ab rfl;have⟨G,H,E⟩:=cD Ab.2 G H E;refine I ?_;refine aa (l5 (f:=gf) (lb:=lb) (vs:=[]) hg Z Z (hc _ E) ?_);rintro _ _ Ao rfl;have⟨G,H,E⟩:=cD Ao.2 G H E;refine SA G (λ_ A1 A0=>?_);have H:=pb A1 H;have E:=bA A1 E;refine SO H (λ_ A2 Aq=>?_);have A0:=pb A2 A0;have E:=bA A2 E;refine I ?_;refine ou (b1:=w.heap.size) (b2:=O.heap.size) (v:=.tuple #[.agg #[S x.1,S x.2],.int .i64 0]) Sl (λ_ _=>J9) E (de (r1:=.cell 4 33) (r2:=.cell 5 36) Z ?_ ?_) Z;refine ak (t:=4) (cs:=[S x.1,S x.2]) (b:=w.heap.size) (o:=0) iT Z bX ?_ ?_;exact Z;exact aa1 A0 (i:=0) Z;refine bI (t:=5) (b:=O.heap.size) (o:=0) BV Z ?_ ?_;exact Z;exact ab4 Aq Z
def y8 {m:List UInt8}:
 CL 231 #[.agg #[S l,S m],.int .i64 0] w (aH w λv w'=>v=.agg #[S l,S m]):=by
 refine aC func231 Z (I ?_);refine bx (λW Ab G=>?_);have E:=Ab.2;refine al aZ (λ_ A2 H=>?_);have⟨G,E⟩:=bw A2.2 G E;refine I ?_;refine cl B9 mS ?_;rintro _ _ A1 rfl;have⟨G,H,E⟩:=cD A1.2 G H E;refine I ?_;refine SA H (λ_ O A0=>?_);have G:=pb O G;have E:=bA O E;refine I ?_;refine ba (v:=.agg #[S l,S m]) (cC  rfl ?_) E Z;refine ak (t:=4) (cs:=[S l,S m]) (b:=W.heap.size) (o:=0) iT Z bX ?_ ?_;exact Z;exact aa1 A0 (i:=0) Z
def y9 (a b t:Int):Int:=a*t/b
def zf (a b t:Int):Int:=if a*t%b=0 then a*t/b else a*t/b+1
def s6 (hb:0<b):ei a b*t/dm a b=a*t/b/\(ei a b*t%dm a b=0↔a*t%b=0):=by
 have h1:=A8 (n:=a) hb
 have h2:=yF (n:=a) hb
 have E:=lO (n:=a) hb
 generalize ei a b=p at *
 generalize dm a b=q at *
 generalize ((Int.gcd a b:Nat):Int)=g at *
 subst h1 h2
 rw[show p*g*t=p*t*g by grind]
 refine⟨(Int.mul_ediv_mul_of_pos_left _ _ E).symm,?_⟩
 rw[Int.mul_comm (p*t) g,Int.mul_comm q g,Int.mul_emod_mul_of_pos _ _ E]
 constructor
 · intro h;rw[h,Int.mul_zero]
 · intro h;rcases Int.mul_eq_zero.1 h with h|h;omega;exact h
def Yl (hb:0<b):u4 (ei a b) (dm a b) t false=y9 a b t:=by
 unfold u4 y9;rw[if_neg (λe=>absurd e.1 dc),(s6 hb).1]
def Ym (hb:0<b):u4 (ei a b) (dm a b) t true=zf a b t:=by
 unfold u4 zf
 rw[(s6 hb).1]
 by_cases h:a*t%b=0
 · rw[if_pos h,if_neg (λe=>e.2 (dT.2 ((s6 hb).2.2 h)))]
 · rw[if_neg h,if_pos ⟨rfl,λe=>h ((s6 hb).2.1 (dT.1 e))⟩]
def aI (pl:Nat):Int:=((10^pl:Nat):Int)
def lR (pl:Nat):0<aI pl:=by unfold aI;have:=Nat.pow_pos (n:=pl) (show 0<10 by decide);omega
def U8 (h:pl<=30):aI pl<=10^30:=by
 unfold aI
 have h1:(10:Nat)^pl<=10^30:=Nat.pow_le_pow_right dc h
 have h2:(((10:Nat)^30:Nat):Int)=(10:Int)^30:=by decide
 omega
def BI (h:Q9 a b)(hp:pl<=30):(ei a b*aI pl).natAbs<10^199:=by
 have h1:=h.red.1
 have h2:(aI pl).natAbs<=10^30:=by have:=U8 hp;have:=lR pl;omega
 rw[Int.natAbs_mul]
 have h3:(ei a b).natAbs*(aI pl).natAbs<=10^90*10^30:=qb9 U h2
 have h4:10^90*10^30<10^199:=by decide
 omega
def vw {m:List UInt8}(e:(l,m)=qR a b)(h:Q9 a b)(hp:pl<=30)(ht:Tb w):CL 100 #[.agg #[S l,S m],.int .i64 pl] w (aH w λv _=>v=Qv (y9 a b (aI pl)) (aI pl)):=by
 rw[show l=(qR a b).1 from congrArg Prod.fst e,show m=(qR a b).2 from congrArg Prod.snd e]
 exact no (LJ h.ok (A9 h.2.1 h.fz.1) (Ba h.2.1 h.fz.2) hp (BI h hp) ht) (qb2 (λz=>Qv z (aI pl)) (Yl h.2.1))
def DT {m:List UInt8}(e:(l,m)=qR a b)(h:Q9 a b)(hp:pl<=30)(ht:Tb w):CL 101 #[.agg #[S l,S m],.int .i64 pl] w (aH w λv _=>v=Qv (zf a b (aI pl)) (aI pl)):=by
 rw[show l=(qR a b).1 from congrArg Prod.fst e,show m=(qR a b).2 from congrArg Prod.snd e]
 exact no (UE h.ok (A9 h.2.1 h.fz.1) (Ba h.2.1 h.fz.2) hp (BI h hp) ht) (qb2 (λz=>Qv z (aI pl)) (Ym h.2.1))
def HK {x:R×R}(e1:x.1=qR a b)(e2:x.2=qR c d)(q1:Q9 a b)(q2:Q9 c d)(hb1:ar w b1 144 #[S x.1.1,S x.1.2,S x.2.1,S x.2.2])(hb2:ar w b2 3 #[.int .i64 pl])(hp:pl<=30)(ht:Tb w):
 CL 230 #[pT b1,pT b2] w (aH w λv w'=>v=IV (y9 a b (aI pl)) (aI pl) (zf c d (aI pl)) (aI pl)):=by
 have Av:=bt hb1;have As:=bt hb2;refine aC func230 Z (I ?_);refine al k9 (λ_ H G=>?_);have⟨hb1,hb2⟩:=gu H.2 hb1 hb2;have E:=H.2;refine I ?_;refine bP 13 ?_;refine sf ?_;refine a7 (V:=.tuple #[QV (y9 a b (aI pl)) (aI pl),.int .i64 0]) (λ_ _ Aq _=>?_) ?_;refine cl B7 (vw e1 q1 hp (ht.ext (xt E Aq))) ?_;rintro _ _ A1 rfl;have W:=A1.2;refine I ?_;exact fs ⟨W,rfl⟩;refine sf ?_;refine a7 (V:=QV (y9 a b (aI pl)) (aI pl)) (λ_ _ _ _=>?_) ?_;refine cl B6 y8 ?_;rintro _ _ Ar rfl;have Ab:=Ar.2;refine I ?_;exact fs ⟨Ab,rfl⟩;refine sf ?_;refine a7 (V:=.tuple #[QV (zf c d (aI pl)) (aI pl),.int .i64 0]) (λ_ _ Am _=>?_) ?_;refine cl B8 (DT e2 q2 hp (ht.ext (xt E Am))) ?_;rintro _ _ A2 rfl;have Ap:=A2.2;refine I ?_;exact fs ⟨Ap,rfl⟩;refine sf ?_;intro _ _ Af _;have⟨hb1,hb2,G,E⟩:=fE Af.2 hb1 hb2 G E;refine cl B6 y8 ?_;rintro _ _ Ao rfl;have⟨hb1,hb2,G,E⟩:=fE Ao.2 hb1 hb2 G E;refine aa (b7 (vs:=[(0,QV (y9 a b (aI pl)) (aI pl)),(1,QV (zf c d (aI pl)) (aI pl))]) (cells:=#[S ((qR (y9 a b (aI pl)) (aI pl)).1),S ((qR (y9 a b (aI pl)) (aI pl)).2),S ((qR (zf c d (aI pl)) (aI pl)).1),S ((qR (zf c d (aI pl)) (aI pl)).2)]) (pl:=[(0,2),(2,2)]) fJ k9 q0 Z q0 ?_);refine SA G (λ_ O A0=>?_)
 have⟨hb1,hb2⟩:=lw O hb1 hb2;have E:=bA O E;refine I ?_;refine ba (v:=IV (y9 a b (aI pl)) (aI pl) (zf c d (aI pl)) (aI pl)) (cC  rfl ?_) E Z;refine ak (t:=2) (cs:=[S ((qR (y9 a b (aI pl)) (aI pl)).1),S ((qR (y9 a b (aI pl)) (aI pl)).2),S ((qR (zf c d (aI pl)) (aI pl)).1),S ((qR (zf c d (aI pl)) (aI pl)).2)]) (b:=w.heap.size) (o:=0) fJ Z eh ?_ ?_;exact Z;exact aa1 A0 (i:=0) Z
def vx {x:R×R}(e1:x.1=qR a b)(e2:x.2=qR c d)(q1:Q9 a b)(q2:Q9 c d)(hle:a*d<=c*b)(hp:pl<=30)(ht:Tb w):
 CL 200 #[.agg #[S x.1.1,S x.1.2,S x.2.1,S x.2.2],.int .i64 pl] w (aH w λv w'=>v=.tuple #[IV (y9 a b (aI pl)) (aI pl) (zf c d (aI pl)) (aI pl),.int .i64 0]):=by
 refine aC func200 Z (I ?_);refine bx (λAo Ap G=>?_);have E:=Ap.2;refine bx (λAf A1 H=>?_);have⟨G,E⟩:=bw A1.2 G E;refine al k9 (λ_ Ab O=>?_);have⟨G,H,E⟩:=cD Ab.2 G H E;refine I ?_;refine aa (aE (vf:=[]) (vc:=[pT w.heap.size,pT Ao.heap.size]) Z Z ?_);refine aa (aM (cs:=[S x.1.1,S x.1.2,S x.2.1,S x.2.2]) (b:=w.heap.size) (o:=0) fJ Z eh Z (aa1 G (i:=0) Z) ?_);refine BS (λ_ Ar _ A2=>?_);have⟨G,H,O,E⟩:=fE Ar G H O E;refine clb R5 (hc:=BG (l:=[x]) (x:=(qR (y9 a b (aI pl)) (aI pl),qR (zf c d (aI pl)) (aI pl))) R9 (ab0 A2) Z zd (λy hy=>by rw[List.mem_singleton.1 hy];exact⟨a,b,c,d,e1,e2,q1,q2,hle⟩) (λW e=>HK e1 e2 q1 q2 (G.ext e) (H.ext e) hp ((ht.ext E).ext e)) (ht.ext E)) (hk:=?_);rintro _ _ Am rfl;have⟨G,H,O,E⟩:=fE Am.2 G H O E;refine I ?_;refine SA O (λ_ A0 Aq=>?_);have⟨G,H⟩:=lw A0 G H;have E:=bA A0 E;refine I ?_;refine ba (v:=.tuple #[IV (y9 a b (aI pl)) (aI pl) (zf c d (aI pl)) (aI pl),.int .i64 0]) (de (r1:=.cell 4 144) (r2:=.tmp 5) Z ?_ ?_) E Z;refine ak (t:=4) (cs:=[S ((qR (y9 a b (aI pl)) (aI pl)).1),S ((qR (y9 a b (aI pl)) (aI pl)).2),S ((qR (zf c d (aI pl)) (aI pl)).1),S ((qR (zf c d (aI pl)) (aI pl)).2)]) (b:=Af.heap.size) (o:=0) fJ Z eh ?_ ?_
 exact Z;exact aa1 Aq (i:=0) Z;exact aL (t:=5) Wf _
def HL {x:R×R}(e1:x.1=qR a b)(e2:x.2=qR c d)(q1:Q9 a b)(q2:Q9 c d)(hb1:ar w b1 144 #[S x.1.1,S x.1.2,S x.2.1,S x.2.2])(ht:Tb w):
 CL 233 #[pT b1] w (aH w λv w'=>v=QV (c*b-a*d) (d*b)):=by
 have A2:=bt hb1;refine aC func233 Z (I ?_);refine al aZ (λ_ H G=>?_);have hb1:=be H.2 hb1;have E:=H.2;refine I ?_;refine cl Ea (Yi e2 e1 q2 q1 (ht.ext E)) ?_;rintro _ _ A0 rfl;have⟨hb1,G,E⟩:=cD A0.2 hb1 G E;refine I ?_;refine cl B6 y8 ?_;rintro _ _ W rfl;have⟨hb1,G,E⟩:=cD W.2 hb1 G E;refine SA G (λ_ O A1=>?_);have hb1:=pb O hb1;have E:=bA O E;refine I ?_;refine ba (v:=QV (c*b-a*d) (d*b)) (cC  rfl ?_) E Z;refine ak (t:=1) (cs:=[S ((qR (c*b-a*d) (d*b)).1),S ((qR (c*b-a*d) (d*b)).2)]) (b:=w.heap.size) (o:=0) iT Z bX ?_ ?_;exact Z;exact aa1 A1 (i:=0) Z
def vz {x:R×R}(e1:x.1=qR a b)(e2:x.2=qR c d)(q1:Q9 a b)(q2:Q9 c d)(hle:a*d<=c*b)(ht:Tb w):
 CL 203 #[.agg #[S x.1.1,S x.1.2,S x.2.1,S x.2.2]] w (aH w λv w'=>v=.tuple #[QV (c*b-a*d) (d*b),.int .i64 0]):=by
 refine aC func203 Z (I ?_);refine bx (λAb A0 G=>?_);have E:=A0.2;refine al aZ (λ_ Ao H=>?_);have⟨G,E⟩:=bw Ao.2 G E;refine I ?_;refine aa (aE (vf:=[]) (vc:=[pT w.heap.size]) Z Z ?_);refine aa (aM (cs:=[S x.1.1,S x.1.2,S x.2.1,S x.2.2]) (b:=w.heap.size) (o:=0) fJ Z eh Z (aa1 G (i:=0) Z) ?_);refine BS (λ_ A2 _ A1=>?_);have⟨G,H,E⟩:=cD A2 G H E;refine clb Sa (hc:=BH (l:=[x]) (x:=qR (c*b-a*d) (d*b)) Sb (ab0 A1) Z zd (λy hy=>by rw[List.mem_singleton.1 hy];exact⟨a,b,c,d,e1,e2,q1,q2,hle⟩) (λW e=>HL e1 e2 q1 q2 (G.ext e) ((ht.ext E).ext e)) (ht.ext E)) (hk:=?_);rintro _ _ Am rfl;have⟨G,H,E⟩:=cD Am.2 G H E;refine I ?_;refine SA H (λ_ O Af=>?_);have G:=pb O G;have E:=bA O E;refine I ?_;refine ba (v:=.tuple #[QV (c*b-a*d) (d*b),.int .i64 0]) (de (r1:=.cell 2 33) (r2:=.tmp 3) Z ?_ ?_) E Z;refine ak (t:=2) (cs:=[S ((qR (c*b-a*d) (d*b)).1),S ((qR (c*b-a*d) (d*b)).2)]) (b:=Ab.heap.size) (o:=0) iT Z bX ?_ ?_;exact Z;exact aa1 Af (i:=0) Z;exact aL (t:=3) Wf _
def yP (S n d:Nat):N2:=lK (qj S n d) 1 2
def za (S:Nat)(y:N2):Nat->N2->N2->Option (N2×N2)
 |0,u,b=>some (u,b)
 |1,u,b=>if yt b=true then some (u,lK b 1 2)else none
 |a+2,u,b=>if yt u=true/\yt b=true then za S y a (na S u y) (lK b (a+2) 2)else none
def MV (S pl:Nat)(y:N2)(fr:Nat)(s e:N2):Option (N2×N2):=
 if fr%2=1 then(if yt s=true then(mO S y).bind λu=>(mO S (vH pl,vH pl+1)).bind λc=>if yt u=true/\yt c=true then some (na S s u,na S e c)else none else none)else some (s,e)
def Yn (S pl n d fr:Nat):Option (Int×Int):=
 if n<10^90/\d<10^90/\0<d/\yt (qj S n d)=true/\yt (yP S n d)=true then
  (yu (Ur S (yP S n d) fr) (1*S,1*S)).bind λs=>(yv S (yP S n d)).bind λe=>(MV S pl (yP S n d) fr s e).bind λp=>(za S (yP S n d) fr p.1 p.2).bind λq=>
  if yt q.1=true/\yt q.2=true/\0<q.2.1/\0<q.2.2 then some (BK (1*S,1*S) (vU S q.1 q.2))else none
 else none
def Ql {S d fr:Nat}{r:Int×Int}(h:Yn S pl n d fr=some r):n<10^90/\d<10^90/\0<d/\Bk 95 (qj S n d)/\Bk 95 (yP S n d)/\∃s e p q,
 yu (Ur S (yP S n d) fr) (1*S,1*S)=some s/\yv S (yP S n d)=some e/\MV S pl (yP S n d) fr s e=some p/\za S (yP S n d) fr p.1 p.2=some q/\Bk 95 q.1/\Bk 95 q.2/\0<q.2.1/\0<q.2.2/\r=BK (1*S,1*S) (vU S q.1 q.2):=by
 unfold Yn at h
 split at h
 · rename_i h1
   refine⟨h1.1,h1.2.1,h1.2.2.1,fY h1.2.2.2.1,fY h1.2.2.2.2,?_⟩
   cases hs:yu (Ur S (yP S n d) fr) (1*S,1*S)with
   |none=>rw[hs]at h;cases h
   | some s=>
     rw[hs,Option.bind_some]at h
     cases he:yv S (yP S n d)with
     |none=>rw[he]at h;cases h
     | some e=>
       rw[he,Option.bind_some]at h
       cases hp:MV S pl (yP S n d) fr s e with
       |none=>rw[hp]at h;cases h
       | some p=>
         rw[hp,Option.bind_some]at h
         cases hq:za S (yP S n d) fr p.1 p.2 with
         |none=>rw[hq]at h;cases h
         | some q=>
           rw[hq,Option.bind_some]at h
           split at h
           · rename_i h2;cases h;exact⟨s,e,p,q,rfl,rfl,hp,hq,fY h2.1,fY h2.2.1,h2.2.2.1,h2.2.2.2,rfl⟩
           · cases h
 · cases h
def Ry {S a:Nat}{y u b:N2}{q:N2×N2}(h0:0<a)(h:za S y a u b=some q):Bk 95 b:=by
 match a,h0,h with
 |1,_,h=>unfold za at h;split at h;rename_i h1;exact fY h1;cases h
 |a+2,_,h=>unfold za at h;split at h;rename_i h1;exact fY h1.2;cases h
def Rz {S a:Nat}{y u b:N2}{q:N2×N2}(h0:1<a)(h:za S y a u b=some q):Bk 95 u:=by
 match a,h0,h with
 |a+2,_,h=>unfold za at h;split at h;rename_i h1;exact fY h1.1;cases h
def Va (S:Nat)(y:N2)(a:Int)(u b:N2)(q:N2×N2):Prop:=(0<=a/\za S y a.toNat u b=some q)\/(a=-1/\(u,b)=q)
def Gg {S:Nat}{y u b:N2}{q:N2×N2}(h:Va S y a u b q)(h0:0<a):∃n:Nat,a=(n:Int)/\0<n/\za S y n u b=some q:=by
 rcases h with h|h
 · exact⟨a.toNat,by omega,by omega,h.2⟩
 · omega
def Gh {S:Nat}{y u b:N2}{q:N2×N2}(h:Va S y a u b q)(h0:¬0<a):q=(u,b):=by
 rcases h with h|h
 · have e:a.toNat=0:=J
   rw[e]at h
   have:=h.2
   unfold za at this
   cases this;rfl
 · exact h.2.symm
def RA {S:Nat}{y u b:N2}{q:N2×N2}(h0:1<n)(h:za S y n u b=some q):Va S y ((n:Int)-2) (na S u y) (lK b n 2) q:=by
 left
 obtain⟨k,rfl⟩:∃k,n=k+2:=⟨n-2,by omega⟩
 refine⟨by omega,?_⟩
 rw[show(((k+2:Nat):Int)-2).toNat=k by omega]
 unfold za at h
 split at h
 · exact h
 · cases h
def RD {S:Nat}{y u b:N2}{q:N2×N2}(h0:0<n)(h1:¬1<n)(h:za S y n u b=some q):Va S y ((n:Int)-2) u (lK b n 2) q:=by
 right
 have e:n=1:=J
 subst e
 refine⟨by omega,?_⟩
 unfold za at h
 split at h
 · cases h;rfl
 · cases h
def RE {S:Nat}{y u b:N2}{q:N2×N2}(h:za S y n u b=some q):Va S y (n:Int) u b q:=Or.inl ⟨by omega,by simpa using h⟩
def Qm {S fr:Nat}{y s e:N2}{p:N2×N2}(h:MV S pl y fr s e=some p):(fr%2=1/\∃u c,Bk 95 s/\mO S y=some u/\mO S (vH pl,vH pl+1)=some c/\Bk 95 u/\Bk 95 c/\p=(na S s u,na S e c))\/(¬fr%2=1/\p=(s,e)):=by
 unfold MV at h
 split at h
 · rename_i ho
   left
   refine⟨ho,?_⟩
   split at h
   · rename_i hs
     cases hu:mO S y with
     |none=>rw[hu]at h;cases h
     | some u=>
       rw[hu,Option.bind_some]at h
       cases hc:mO S (vH pl,vH pl+1)with
       |none=>rw[hc]at h;cases h
       | some c=>
         rw[hc,Option.bind_some]at h
         split at h
         · rename_i h2;cases h;exact⟨u,c,fY hs,rfl,rfl,fY h2.1,fY h2.2,rfl⟩
         · cases h
   · cases h
 · rename_i ho;cases h;exact Or.inr ⟨ho,rfl⟩
def MW {d fr:Nat}{s e1:N2}{q:N2×N2}(hS:Sc sO)(hp:pl<81)(h1:0<fr)(h20:fr<=20)(hn:n<10^90)(hd:d<10^90)(hd0:0<d)(hof:Bk 95 (qj sO n d))(hy:Bk 95 (yP sO n d))(hs:yu (Ur sO (yP sO n d) fr) (1*sO,1*sO)=some s)(he:yv sO (yP sO n d)=some e1){u c:N2}(hsb:Bk 95 s)(hu:mO sO (yP sO n d)=some u)(hc:mO sO (vH pl,vH pl+1)=some c)(hub:Bk 95 u)(hcb:Bk 95 c)(ho:fr%2=1)(hq:za sO (yP sO n d) fr (na sO s u) (na sO e1 c)=some q)(hq1:Bk 95 q.1)(hq2:Bk 95 q.2)(hm1:0<q.2.1)(hm2:0<q.2.2)(ht:Tb w):
 CL 151 #[.agg #[.int .i64 pl,S (nS sO)],QV ((n:Nat):Int) ((d:Nat):Int),.int .i64 fr] w (aH w λv w'=>v=.agg #[S (ae ((BK (1*sO,1*sO) (vU sO q.1 q.2)).1)),S (ae ((BK (1*sO,1*sO) (vU sO q.1 q.2)).2))]):=by
 have W2:=Uq he;obtain⟨m,hR,hr⟩:=uK hs;have a9:=K6 (a:=q.1) (b:=q.2) hS hm1 hq1;have h1S:Bk 199 (1*sO,1*sO):=by have:=hS.lt;exact⟨by simp only;omega,by simp only;omega⟩
 refine aC func151 Z (I ?_);refine bx (λK2 G0 E=>?_);have O:=G0.2;refine bx (λB0 Ne H=>?_);have⟨E,O⟩:=bw Ne.2 E O;refine bx (λD2 P1 G=>?_);have⟨E,H,O⟩:=cD P1.2 E H O;refine al bQ (λbv a4 A0=>?_);have⟨E,H,G,O⟩:=fE a4.2 E H G O;refine I ?_;refine bP 6 ?_;refine sf ?_;refine a7 (V:=.agg #[S (nS ((qj sO n d).1)),S (nS ((qj sO n d).2))]) (λ_ _ GC _=>?_) ?_;refine cl Is (BF (a:=(n)) (b:=(d)) hS hn hd hd0 (ht.ext (xt O GC))) ?_;rintro _ _ L2 rfl;have La:=L2.2;refine I ?_;exact fs ⟨La,rfl⟩;refine a7 (V:=.agg #[S (nS ((lK (qj sO n d) 1 2).1)),S (nS ((lK (qj sO n d) 1 2).2))]) (λ_ _ L4 _=>?_) ?_;refine clb nQ (hc:=lN (hof.mono dc) dc dc dc (ht.ext (xt O L4))) (hk:=?_);rintro _ _ a8 rfl;have bb:=a8.2;refine I ?_;exact fs ⟨bb,rfl⟩;refine b8 (λv As=>∃b:Nat,v=pT b/\bv.heap.size<=b/\ar As b 191 #[S [],S []]) (hs:=λ_ _ _ k ⟨b,e,l,h⟩=>⟨b,e,l,h.ext k⟩) (λ_ _ cT _=>?_) ?_;refine al bQ (λ_ an a0=>?_);have WV:=an.2;refine I ?_;exact fs ⟨WV,⟨_,rfl,(by have:=bz cT;omega),a0⟩⟩;refine sf ?_;intro _ _ bq a6;have⟨E,H,G,A0,O⟩:=ka bq.2 E H G A0 O;obtain⟨Az,W3,_,CY⟩:=(a6 5 7 Z Z);have cf:=bt CY;refine SA CY (λbp H2 A1=>?_);have⟨E,H,G,A0,O,_⟩:=QS H2 E H G A0 O;refine I ?_
 refine bP 7 ?_;refine sf ?_;refine a7 (V:=.agg #[S (nS ((1*sO,1*sO).1)),S (nS ((1*sO,1*sO).2))]) (λ_ _ KC _=>?_) ?_;refine clb nO (hc:=iK (n:=1) hS dc Fr (ht.ext (xt O KC))) (hk:=?_);rintro _ _ bW rfl;have Kp:=bW.2;refine I ?_;exact fs ⟨Kp,rfl⟩;refine aB (λ_ _ _ _=>by refine aa (aE (vf:=[]) (vc:=[pT w.heap.size,pT Az,pT B0.heap.size]) Z (aw Z (aw W3 (aw Z Z))) ?_);refine I ?_;exact aK) ?_;refine b8 (λv As=>DK (1*sO,1*sO) (.func (.func 192) #[] #[pT w.heap.size,pT Az,pT B0.heap.size]) As v) (hs:=λ_ _ _ k h=>h.ext k) (λ_ _ _ _=>?_) ?_;refine cl B4 vq ?_;rintro _ _ ac T3;have Q0:=ac.2;refine I ?_;exact fs ⟨Q0,T3⟩;refine a7 (V:=.agg #[S (nS s.1),S (nS s.2)]) (λ_ _ B2 VW=>?_) ?_;obtain⟨_,_,L1,N0,FR⟩:=(VW 4 20 Z Z);have⟨E,G,A1⟩:=qh B2 E G A1;refine clb B3 (hc:=cP (DN hR hS N0 FR IL (λk hk W e=>MR hS (E.ext e) (A1.ext e) (G.ext e) (hR.bd k U) hy U kc9 U ((ht.ext (xt O B2)).ext e)) (ht.ext (xt O B2))) hr) (hk:=?_) (hv:=aw Z (aw L1 Z));rintro _ _ Lj rfl;have bY:=Lj.2;refine I ?_;exact fs ⟨bY,rfl⟩
 refine b8 (λv As=>∃b:Nat,v=pT b/\bp.heap.size<=b/\ar As b 191 #[S [],S []]) (hs:=λ_ _ _ k ⟨b,e,l,h⟩=>⟨b,e,l,h.ext k⟩) (λ_ _ KY _=>?_) ?_;refine al bQ (λ_ Lk b0=>?_);have a3:=Lk.2;refine I ?_;exact fs ⟨a3,⟨_,rfl,(by have:=bz KY;omega),b0⟩⟩;refine sf ?_;intro _ _ ad c9;have⟨E,H,G,A0,A1,O⟩:=Gw ad.2 E H G A0 A1 O;obtain⟨E9,_,_,D1⟩:=(c9 6 8 Z Z);have cm:=bt D1;refine SA D1 (λ_ W1 Ao=>?_);have⟨E,H,G,A0,A1,O,_⟩:=Vh W1 E H G A0 A1 O;refine I ?_;refine cl Ir (MS hS he (ht.ext O)) ?_;rintro _ EW CB rfl;have⟨E,H,G,A0,A1⟩:=nX CB.2 E H G A0 A1;have⟨Ao,O⟩:=bw CB.2 Ao O;refine al bQ (λ_ E1 H3=>?_);have⟨E,H,G,A0,A1⟩:=nX E1.2 E H G A0 A1;have⟨Ao,O⟩:=bw E1.2 Ao O;refine SA H3 (λ_ E6 Aq=>?_);have⟨E,H,G,A0,A1⟩:=zc E6 E H G A0 A1;have⟨Ao,O,_⟩:=kC E6 Ao O;refine I ?_;refine aa (mc (a:=(fr:Int)) (b:=2) (c:=(fr:Int)%2) Z Z U U Z ?_);refine I ?_;refine bP 12 ?_;refine sf ?_;refine a7 (V:=.agg #[S (nS u.1),S (nS u.2)]) (λ_ _ L3 _=>?_) ?_;refine cl Iz (xg hS hu (ht.ext (xt O L3))) ?_;rintro _ _ P0 rfl;have X2:=P0.2;refine I ?_;exact fs ⟨X2,rfl⟩;refine a7 (V:=.agg #[S (nS ((na sO s u).1)),S (nS ((na sO s u).2))]) (λ_ _ Vm _=>?_) ?_;refine cl nR (gP hS hsb hub (ht.ext (xt O Vm))) ?_
 rintro _ _ nm rfl;have P2:=nm.2;refine I ?_;exact fs ⟨P2,rfl⟩;refine sf ?_;refine a7 (V:=.agg #[S (nS ((vH pl,vH pl+1).1)),S (nS ((vH pl,vH pl+1).2))]) (λ_ _ T2 _=>?_) ?_;refine cl Si (Yh hp (ht.ext (xt O T2))) ?_;rintro _ _ Rm rfl;have Li:=Rm.2;refine I ?_;exact fs ⟨Li,rfl⟩;refine a7 (V:=.agg #[S (nS c.1),S (nS c.2)]) (λ_ _ H4 _=>?_) ?_;refine cl Iz (xg hS hc (ht.ext (xt O H4))) ?_;rintro _ _ S0 rfl;have No:=S0.2;refine I ?_;exact fs ⟨No,rfl⟩;refine sf ?_;intro _ _ ny _;have⟨E,H,G,A0,A1⟩:=nX ny.2 E H G A0 A1;have⟨Ao,Aq,O⟩:=cD ny.2 Ao Aq O;refine cl nR (gP hS W2 hcb (ht.ext O)) ?_;rintro _ _ od rfl;have⟨E,H,G,A0,A1⟩:=nX od.2 E H G A0 A1;have⟨Ao,Aq,O⟩:=cD od.2 Ao Aq O;refine SA Ao (λ_ Aw Ax=>?_);have⟨E,H,G,A0,A1⟩:=zc Aw E H G A0 A1;have Aq:=pb Aw Aq;have O:=bA Aw O;refine SA Aq (λWa Ay bZ=>?_);have⟨E,H,G,A0,A1⟩:=zc Ay E H G A0 A1;have Ax:=pb Ay Ax;have O:=bA Ay O;refine I ?_
 refine ck [(10,10),(42,55)] (λX0 e W=>∃aq:Int,∃Af:N2,∃Am:N2,((aq+2).toNat=X0)/\(e 10=.int .i64 aq)/\(Va sO (lK (qj sO n d) 1 2) aq Af Am q)/\(aq<=(fr:Int))/\(Wa.heap.size<=W.heap.size)/\(aN w W)/\(ar W w.heap.size 189 #[.int .i64 pl,S (nS sO)])/\(ar W K2.heap.size 33 #[S ((qR ((n:Nat):Int) ((d:Nat):Int)).1),S ((qR ((n:Nat):Int) ((d:Nat):Int)).2)])/\(ar W B0.heap.size 3 #[.int .i64 fr])/\(ar W D2.heap.size 191 #[S [],S []])/\(ar W Az 191 #[S (nS ((lK (qj sO n d) 1 2).1)),S (nS ((lK (qj sO n d) 1 2).2))])/\(ar W EW.heap.size 191 #[S (nS Am.1),S (nS Am.2)])/\(ar W E9 191 #[S (nS Af.1),S (nS Af.2)])) (((fr:Int)+2).toNat) ⟨(fr:Int),na sO s u,na sO e1 c,rfl,rfl,(RE hq),(Int.le_refl _),(qa0 _),O,E,H,G,A0,A1,bZ,Ax⟩ ?_;rintro _ _ _ ⟨aq,Af,Am,rfl,cb,C0,ce,ch,A2,E,H,G,A0,A1,Ap,Ab⟩;by_cases hl:0<aq;obtain⟨a,rfl,E0,Av⟩:=Gg C0 hl;have KM:=Ry E0 Av;have cc:a<=fr:=J
 refine I ?_;refine clb nQ (hc:=lN (KM.mono dc) U dc dc (ht.ext A2)) (hk:=?_);rintro _ _ E5 rfl;have⟨E,H,G,A0,A1⟩:=nX E5.2 E H G A0 A1;have⟨Ap,Ab,A2⟩:=cD E5.2 Ap Ab A2;refine SA Ap (λ_ Cr Ar=>?_);have⟨E,H,G,A0,A1⟩:=zc Cr E H G A0 A1;have⟨Ab,A2,_⟩:=kC Cr Ab A2;refine I ?_;by_cases ap7:1<((a:Nat):Int);refine I ?_;refine clb nR (hc:=gP hS (Rz U Av) hy (ht.ext A2)) (hk:=?_);rintro _ _ E7 rfl;have⟨E,H,G,A0,A1⟩:=nX E7.2 E H G A0 A1;have⟨Ar,Ab,A2⟩:=cD E7.2 Ar Ab A2;refine SA Ab (λ_ wr cV=>?_);have⟨E,H,G,A0,A1⟩:=zc wr E H G A0 A1;have⟨Ar,A2,_⟩:=kC wr Ar A2;refine I ?_;refine qF (I ?_);exact bJ ⟨((a:Nat):Int)-2,na sO Af (lK (qj sO n d) 1 2),lK Am a 2,rfl,rfl,(RA U Av),U,U,A2,E,H,G,A0,A1,Ar,cV⟩;refine I ?_;refine qF (I ?_);exact bJ ⟨((a:Nat):Int)-2,Af,lK Am a 2,rfl,rfl,(RD E0 U Av),U,U,A2,E,H,G,A0,A1,Ar,Ab⟩;have a5:=Gh C0 hl;subst a5;refine I ?_;refine bP 7 ?_;refine sf ?_;refine a7 (V:=.agg #[S (nS ((1*sO,1*sO).1)),S (nS ((1*sO,1*sO).2))]) (λ_ _ W0 _=>?_) ?_;refine clb nO (hc:=iK (n:=1) hS dc Fr (ht.ext (xt A2 W0))) (hk:=?_);rintro _ _ ES rfl;have S9:=ES.2;refine I ?_;exact fs ⟨S9,rfl⟩;refine sf ?_
 refine a7 (V:=.agg #[S (nS ((vU sO Af Am).1)),S (nS ((vU sO Af Am).2))]) (λ_ _ a2 _=>?_) ?_;refine clb Iq (hc:=wW hS hq1 (hq2.mono dc) hm1 hm2 (ht.ext (xt A2 a2))) (hk:=?_);rintro _ _ V0 rfl;have K3:=V0.2;refine I ?_;exact fs ⟨K3,rfl⟩;refine sf ?_;intro _ _ E4 _;have⟨E,H,G,A0,A1⟩:=nX E4.2 E H G A0 A1;have⟨Ap,Ab,A2⟩:=cD E4.2 Ap Ab A2;refine clb Iw (hc:=u3 h1S (a9.mono dc) (ht.ext A2)) (hk:=?_);rintro _ _ CG rfl;have⟨E,H,G,A0,A1⟩:=nX CG.2 E H G A0 A1;have⟨Ap,Ab,A2⟩:=cD CG.2 Ap Ab A2;refine SA A0 (λ_ B1 Ix=>?_);have⟨E,H,G,A1,Ap⟩:=zc B1 E H G A1 Ap;have Ab:=pb B1 Ab;have A2:=bA B1 A2;refine I ?_;refine ba (v:=.agg #[S (ae ((BK (1*sO,1*sO) (vU sO Af Am)).1)),S (ae ((BK (1*sO,1*sO) (vU sO Af Am)).2))]) (cC  rfl ?_) A2 Z;refine ak (t:=6) (cs:=[S (ae ((BK (1*sO,1*sO) (vU sO Af Am)).1)),S (ae ((BK (1*sO,1*sO) (vU sO Af Am)).2))]) (b:=D2.heap.size) (o:=0) jr Z fI ?_ ?_;exact Z;exact aa1 Ix (i:=0) Z
def MX {d fr:Nat}{s e1:N2}{q:N2×N2}(hS:Sc sO)(hp:pl<81)(h1:0<fr)(h20:fr<=20)(hn:n<10^90)(hd:d<10^90)(hd0:0<d)(hof:Bk 95 (qj sO n d))(hy:Bk 95 (yP sO n d))(hs:yu (Ur sO (yP sO n d) fr) (1*sO,1*sO)=some s)(he:yv sO (yP sO n d)=some e1)(ho:¬fr%2=1)(hq:za sO (yP sO n d) fr s e1=some q)(hq1:Bk 95 q.1)(hq2:Bk 95 q.2)(hm1:0<q.2.1)(hm2:0<q.2.2)(ht:Tb w):
 CL 151 #[.agg #[.int .i64 pl,S (nS sO)],QV ((n:Nat):Int) ((d:Nat):Int),.int .i64 fr] w (aH w λv w'=>v=.agg #[S (ae ((BK (1*sO,1*sO) (vU sO q.1 q.2)).1)),S (ae ((BK (1*sO,1*sO) (vU sO q.1 q.2)).2))]):=by
 obtain⟨m,hR,hr⟩:=uK hs;have Vm:=K6 (a:=q.1) (b:=q.2) hS hm1 hq1;have h1S:Bk 199 (1*sO,1*sO):=by have:=hS.lt;exact⟨by simp only;omega,by simp only;omega⟩
 refine aC func151 Z (I ?_);refine bx (λLa a0 E=>?_);have A1:=a0.2;refine bx (λAv E7 H=>?_);have⟨E,A1⟩:=bw E7.2 E A1;refine bx (λB2 W1 G=>?_);have⟨E,H,A1⟩:=cD W1.2 E H A1;refine al bQ (λW2 Kp O=>?_);have⟨E,H,G,A1⟩:=fE Kp.2 E H G A1;refine I ?_;refine bP 6 ?_;refine sf ?_;refine a7 (V:=.agg #[S (nS ((qj sO n d).1)),S (nS ((qj sO n d).2))]) (λ_ _ T2 _=>?_) ?_;refine cl Is (BF (a:=(n)) (b:=(d)) hS hn hd hd0 (ht.ext (xt A1 T2))) ?_;rintro _ _ Lj rfl;have X0:=Lj.2;refine I ?_;exact fs ⟨X0,rfl⟩;refine a7 (V:=.agg #[S (nS ((lK (qj sO n d) 1 2).1)),S (nS ((lK (qj sO n d) 1 2).2))]) (λ_ _ S9 _=>?_) ?_;refine clb nQ (hc:=lN (hof.mono dc) dc dc dc (ht.ext (xt A1 S9))) (hk:=?_);rintro _ _ S0 rfl;have Lk:=S0.2;refine I ?_;exact fs ⟨Lk,rfl⟩;refine b8 (λv Ar=>∃b:Nat,v=pT b/\W2.heap.size<=b/\ar Ar b 191 #[S [],S []]) (hs:=λ_ _ _ k ⟨b,e,l,h⟩=>⟨b,e,l,h.ext k⟩) (λ_ _ WV _=>?_) ?_;refine al bQ (λ_ No a3=>?_);have KY:=No.2;refine I ?_;exact fs ⟨KY,⟨_,rfl,(by have:=bz WV;omega),a3⟩⟩;refine sf ?_;intro _ _ L2 EW;have⟨E,H,G,O,A1⟩:=ka L2.2 E H G O A1;obtain⟨ny,W0,_,B0⟩:=(EW 5 7 Z Z);have ad:=bt B0;refine SA B0 (λN0 P1 A0=>?_);have⟨E,H,G,O,A1,_⟩:=QS P1 E H G O A1;refine I ?_
 refine bP 7 ?_;refine sf ?_;refine a7 (V:=.agg #[S (nS ((1*sO,1*sO).1)),S (nS ((1*sO,1*sO).2))]) (λ_ _ ES _=>?_) ?_;refine clb nO (hc:=iK (n:=1) hS dc Fr (ht.ext (xt A1 ES))) (hk:=?_);rintro _ _ L1 rfl;have Rm:=L1.2;refine I ?_;exact fs ⟨Rm,rfl⟩;refine aB (λ_ _ _ _=>by refine aa (aE (vf:=[]) (vc:=[pT w.heap.size,pT ny,pT Av.heap.size]) Z (aw Z (aw W0 (aw Z Z))) ?_);refine I ?_;exact aK) ?_;refine b8 (λv Ar=>DK (1*sO,1*sO) (.func (.func 192) #[] #[pT w.heap.size,pT ny,pT Av.heap.size]) Ar v) (hs:=λ_ _ _ k h=>h.ext k) (λ_ _ _ _=>?_) ?_;refine cl B4 vq ?_;rintro _ _ a2 L3;have Wa:=a2.2;refine I ?_;exact fs ⟨Wa,L3⟩;refine a7 (V:=.agg #[S (nS s.1),S (nS s.2)]) (λ_ _ od V0=>?_) ?_;obtain⟨_,_,KC,GC,H2⟩:=(V0 4 20 Z Z);have⟨E,G,A0⟩:=qh od E G A0;refine clb B3 (hc:=cP (DN hR hS GC H2 IL (λk hk W e=>MR hS (E.ext e) (A0.ext e) (G.ext e) (hR.bd k U) hy U kc9 U ((ht.ext (xt A1 od)).ext e)) (ht.ext (xt A1 od))) hr) (hk:=?_) (hv:=aw Z (aw KC Z));rintro _ _ W3 rfl;have Ix:=W3.2;refine I ?_;exact fs ⟨Ix,rfl⟩
 refine b8 (λv Ar=>∃b:Nat,v=pT b/\N0.heap.size<=b/\ar Ar b 191 #[S [],S []]) (hs:=λ_ _ _ k ⟨b,e,l,h⟩=>⟨b,e,l,h.ext k⟩) (λ_ _ E4 _=>?_) ?_;refine al bQ (λ_ Li E9=>?_);have Q0:=Li.2;refine I ?_;exact fs ⟨Q0,⟨_,rfl,(by have:=bz E4;omega),E9⟩⟩;refine sf ?_;intro _ _ E5 FR;have⟨E,H,G,O,A0,A1⟩:=Gw E5.2 E H G O A0 A1;obtain⟨P0,_,_,B1⟩:=(FR 6 8 Z Z);have ac:=bt B1;refine SA B1 (λ_ E1 Ap=>?_);have⟨E,H,G,O,A0,A1,_⟩:=Vh E1 E H G O A0 A1;refine I ?_;refine cl Ir (MS hS he (ht.ext A1)) ?_;rintro _ P2 D1 rfl;have⟨E,H,G,O,A0⟩:=nX D1.2 E H G O A0;have⟨Ap,A1⟩:=bw D1.2 Ap A1;refine al bQ (λ_ C0 K3=>?_);have⟨E,H,G,O,A0⟩:=nX C0.2 E H G O A0;have⟨Ap,A1⟩:=bw C0.2 Ap A1;refine SA K3 (λH3 CY K2=>?_);have⟨E,H,G,O,A0⟩:=zc CY E H G O A0;have⟨Ap,A1,_⟩:=kC CY Ap A1;refine I ?_;refine aa (mc (a:=(fr:Int)) (b:=2) (c:=(fr:Int)%2) Z Z U U Z ?_);refine I ?_;refine I ?_
 refine ck [(10,10),(42,55)] (λNe e W=>∃aq:Int,∃Af:N2,∃Am:N2,((aq+2).toNat=Ne)/\(e 10=.int .i64 aq)/\(Va sO (lK (qj sO n d) 1 2) aq Af Am q)/\(aq<=(fr:Int))/\(H3.heap.size<=W.heap.size)/\(aN w W)/\(ar W w.heap.size 189 #[.int .i64 pl,S (nS sO)])/\(ar W La.heap.size 33 #[S ((qR ((n:Nat):Int) ((d:Nat):Int)).1),S ((qR ((n:Nat):Int) ((d:Nat):Int)).2)])/\(ar W Av.heap.size 3 #[.int .i64 fr])/\(ar W B2.heap.size 191 #[S [],S []])/\(ar W ny 191 #[S (nS ((lK (qj sO n d) 1 2).1)),S (nS ((lK (qj sO n d) 1 2).2))])/\(ar W P2.heap.size 191 #[S (nS Am.1),S (nS Am.2)])/\(ar W P0 191 #[S (nS Af.1),S (nS Af.2)])) (((fr:Int)+2).toNat) ⟨(fr:Int),s,e1,rfl,rfl,(RE hq),(Int.le_refl _),(qa0 _),A1,E,H,G,O,A0,K2,Ap⟩ ?_;rintro _ _ _ ⟨aq,Af,Am,rfl,a5,Ax,a8,a9,A2,E,H,G,O,A0,Ao,Ab⟩;by_cases hl:0<aq;obtain⟨a,rfl,Cr,As⟩:=Gg Ax hl;have G0:=Ry Cr As;have a6:a<=fr:=J
 refine I ?_;refine clb nQ (hc:=lN (G0.mono dc) U dc dc (ht.ext A2)) (hk:=?_);rintro _ _ E0 rfl;have⟨E,H,G,O,A0⟩:=nX E0.2 E H G O A0;have⟨Ao,Ab,A2⟩:=cD E0.2 Ao Ab A2;refine SA Ao (λ_ CB Aq=>?_);have⟨E,H,G,O,A0⟩:=zc CB E H G O A0;have⟨Ab,A2,_⟩:=kC CB Ab A2;refine I ?_;by_cases apk:1<((a:Nat):Int);refine I ?_;refine clb nR (hc:=gP hS (Rz U As) hy (ht.ext A2)) (hk:=?_);rintro _ _ D2 rfl;have⟨E,H,G,O,A0⟩:=nX D2.2 E H G O A0;have⟨Aq,Ab,A2⟩:=cD D2.2 Aq Ab A2;refine SA Ab (λ_ Az VW=>?_);have⟨E,H,G,O,A0⟩:=zc Az E H G O A0;have⟨Aq,A2,_⟩:=kC Az Aq A2;refine I ?_;refine qF (I ?_);exact bJ ⟨((a:Nat):Int)-2,na sO Af (lK (qj sO n d) 1 2),lK Am a 2,rfl,rfl,(RA U As),U,U,A2,E,H,G,O,A0,Aq,VW⟩;refine I ?_;refine qF (I ?_);exact bJ ⟨((a:Nat):Int)-2,Af,lK Am a 2,rfl,rfl,(RD Cr U As),U,U,A2,E,H,G,O,A0,Aq,Ab⟩;have T3:=Gh Ax hl;subst T3;refine I ?_;refine bP 7 ?_;refine sf ?_;refine a7 (V:=.agg #[S (nS ((1*sO,1*sO).1)),S (nS ((1*sO,1*sO).2))]) (λ_ _ KM _=>?_) ?_;refine clb nO (hc:=iK (n:=1) hS dc Fr (ht.ext (xt A2 KM))) (hk:=?_);rintro _ _ L4 rfl;have E6:=L4.2;refine I ?_;exact fs ⟨E6,rfl⟩;refine sf ?_
 refine a7 (V:=.agg #[S (nS ((vU sO Af Am).1)),S (nS ((vU sO Af Am).2))]) (λ_ _ nm _=>?_) ?_;refine clb Iq (hc:=wW hS hq1 (hq2.mono dc) hm1 hm2 (ht.ext (xt A2 nm))) (hk:=?_);rintro _ _ a4 rfl;have X2:=a4.2;refine I ?_;exact fs ⟨X2,rfl⟩;refine sf ?_;intro _ _ CG _;have⟨E,H,G,O,A0⟩:=nX CG.2 E H G O A0;have⟨Ao,Ab,A2⟩:=cD CG.2 Ao Ab A2;refine clb Iw (hc:=u3 h1S (Vm.mono dc) (ht.ext A2)) (hk:=?_);rintro _ _ Ay rfl;have⟨E,H,G,O,A0⟩:=nX Ay.2 E H G O A0;have⟨Ao,Ab,A2⟩:=cD Ay.2 Ao Ab A2;refine SA O (λ_ Aw H4=>?_);have⟨E,H,G,A0,Ao⟩:=zc Aw E H G A0 Ao;have Ab:=pb Aw Ab;have A2:=bA Aw A2;refine I ?_;refine ba (v:=.agg #[S (ae ((BK (1*sO,1*sO) (vU sO Af Am)).1)),S (ae ((BK (1*sO,1*sO) (vU sO Af Am)).2))]) (cC  rfl ?_) A2 Z;refine ak (t:=6) (cs:=[S (ae ((BK (1*sO,1*sO) (vU sO Af Am)).1)),S (ae ((BK (1*sO,1*sO) (vU sO Af Am)).2))]) (b:=B2.heap.size) (o:=0) jr Z fI ?_ ?_;exact Z;exact aa1 H4 (i:=0) Z
def Qn {d fr:Nat}{r:Int×Int}(hS:Sc sO)(hp:pl<81)(h1:0<fr)(h20:fr<=20)(hh:Yn sO pl n d fr=some r)(ht:Tb w):
 CL 151 #[.agg #[.int .i64 pl,S (nS sO)],QV ((n:Nat):Int) ((d:Nat):Int),.int .i64 fr] w (aH w λv _=>v=.agg #[S (ae r.1),S (ae r.2)]):=by
 obtain⟨G,hd,O,A1,hy,s,_,p,q,hs,W,Ab,hq,H,A0,E,A2,rfl⟩:=Ql hh
 rcases Qm Ab with⟨ho,u,c,hsb,hu,hc,hub,hcb,rfl⟩|⟨ho,rfl⟩
 · exact MW hS hp h1 h20 G hd O A1 hy hs W hsb hu hc hub hcb ho hq H A0 E A2 ht
 · exact MX hS hp h1 h20 G hd O A1 hy hs W ho hq H A0 E A2 ht
def BJ (h:n<10^12):(bC n).length<=12:=by
 unfold bC;split
 · simp
 · rw[cN];exact(bi 10 U n 12).2 h
def Qo {m:List UInt8}(e:(l,m)=qR a b)(h:Q9 a b)(ha:a.natAbs<10^12):(((body l).length:Nat):Int)<=12:=by
 rw[show l=ae (ei a b)from congrArg Prod.fst e,gK]
 have:=BJ (Nat.lt_of_le_of_lt (Dw h.2.1) ha)
 omega
def Qp {m:List UInt8}(e:(l,m)=qR a b)(h:Q9 a b)(hb:b<10^12):((m.length:Nat):Int)<=12:=by
 rw[show m=ae (dm a b)from congrArg Prod.snd e]
 have h1:=oD (n:=a) h.2.1
 have h2:=LP (n:=a) h.2.1
 unfold ae
 rw[if_neg U]
 have:=BJ (n:=(dm a b).natAbs) U
 omega
def lS (pl:Nat)(a b la lb ha hb:Int):Bool:=decide ((pl:Int)<=12)&&(decide (0<=aQ (a*lb) (la*b))&&decide (aQ (a*hb) (ha*b)<=0))
def oF {m:List UInt8}(e:(l,m)=qR a b)(h:Q9 a b)(ha:a.natAbs<10^12)(hb:b<10^12)(ht:Tb w):
 CL 228 #[.agg #[S l,S m]] w (aH w λv w'=>v=.bool true):=by
 have h1:=Qo e h ha;have h2:=Qp e h hb;refine aC func228 Z (I ?_);refine bx (λ_ W G=>?_);have E:=W.2;refine I ?_;refine cl tj (cB (eE _ _ _ (ht.ext E)) (Yk e h)) ?_;rintro _ _ O rfl;have⟨G,E⟩:=bw O.2 G E;refine I ?_;refine cl Im (xR _ _) ?_;rintro _ _ H rfl;have⟨G,E⟩:=bw H.2 G E;refine I ?_;refine aa (dz (l:=body l) U9 Z ?_);refine I ?_;refine aa (dz (l:=m) U9 Z ?_);refine I ?_;exact am (t:=2) (v:=.bool (decide ((((m).length:Nat):Int)<=12))) Z E (qb2 Value.bool (qa1 h2)) Z
def vA {m:List UInt8}{fu:Value}{lb:Int}(e:(l,m)=qR a b)(h:Q9 a b)(ha12:a.natAbs<10^12)(hb12:b<10^12)(e1:(l1,m1)=qR la lb)(q1:Q9 la lb)(e2:(l2,m2)=qR ha hb)(q2:Q9 ha hb)(hu:fu.cells=#[fu])(ht:Tb w):
 CL 199 #[.agg #[S l1,S m1,S l2,S m2,S l3,S m3,S l4,S m4,fu],.agg #[S l,S m],.int .i64 pl] w (aH w λv w'=>v=.bool (lS pl a b la lb ha hb)):=by
 refine aC func199 Z (I ?_);refine bx (λ_ A1 G=>?_);have E:=A1.2;refine bx (λ_ A2 H=>?_);have⟨G,E⟩:=bw A2.2 G E;refine I ?_;by_cases cx:0<=(pl:Int);by_cases cm:(pl:Int)<=12;by_cases cw:0<=(aQ (a*lb) (la*b));refine I ?_;refine cl B5 (oF e h ha12 hb12 (ht.ext E)) ?_;rintro _ _ Ab rfl;have⟨G,H,E⟩:=cD Ab.2 G H E;refine I ?_;refine cl oS (vt e e1 h q1 (ht.ext E)) ?_;rintro _ _ O rfl;have⟨G,H,E⟩:=cD O.2 G H E;refine I ?_;refine cl oS (vt e e2 h q2 (ht.ext E)) ?_;rintro _ _ Af rfl;have E:=xt E Af.2;refine I ?_;exact am (t:=6) (v:=.bool (decide ((aQ (a*hb) (ha*b))<=0))) Z E (by unfold lS;rw[decide_eq_true cm];rw[decide_eq_true cw];first|rfl|simp) Z;refine I ?_;refine cl B5 (oF e h ha12 hb12 (ht.ext E)) ?_;rintro _ _ W rfl;have⟨G,H,E⟩:=cD W.2 G H E;refine I ?_;refine cl oS (vt e e1 h q1 (ht.ext E)) ?_;rintro _ _ A0 rfl;have E:=xt E A0.2;refine I ?_;exact am (t:=6) (v:=.bool false) Z E (by unfold lS;rw[decide_eq_true cm];rw[decide_eq_false cw];first|rfl|simp) Z;refine I ?_;refine cl B5 (oF e h ha12 hb12 (ht.ext E)) ?_;rintro _ _ Am rfl;have E:=xt E Am.2;refine I ?_;exact am (t:=6) (v:=.bool false) Z E (by unfold lS;rw[decide_eq_false cm];first|rfl|simp) Z;omega
structure RG (pl:Nat)(r:Int×Int)(f c:Int):Prop where
 b1:r.1.natAbs<10^90
 b2:r.2.natAbs<10^90
 le:r.1<=r.2
 hf:y9 r.1 (aI (pl+15)) (aI pl)=f
 hc:zf r.2 (aI (pl+15)) (aI pl)=c
 f9:f.natAbs<10^70
 c9:c.natAbs<10^70
 fc:f<=c
 one:c<=f+1
def ig (h:a.natAbs<10^90)(hk:k<=80):Q9 a (aI k):=by
 refine⟨h,lR k,?_⟩
 unfold aI
 have h1:(10:Nat)^k<=10^80:=Nat.pow_le_pow_right dc hk
 have h2:(10:Nat)^80<10^90:=by decide
 have h3:(((10:Nat)^90:Nat):Int)=(10:Int)^90:=by norm_cast
 omega
def DU :(([49],nS (10^pl)):R)=qR 1 (aI pl):=by
 rw[UI (lR pl) zd,<-show nS 1=ae 1 from rfl,<-K4];rfl
def width_le (h:c<=f+1)(hT:0<T):aQ ((c*T-f*T)*T) (1*(T*T))<=0:=by
 rw[dh,<-Int.sub_mul,Int.mul_assoc]
 exact Int.mul_le_mul_of_nonneg_right U (Int.le_of_lt (Int.mul_pos hT hT))
def ZT (hf:f.natAbs<10^70)(hc:c.natAbs<10^70)(hp:pl<=12):Q9 (c*aI pl-f*aI pl) (aI pl*aI pl):=by
 have h1:=lR pl
 have h2:(10:Nat)^pl<=10^12:=Nat.pow_le_pow_right dc hp
 have h3:aI pl<=1000000000000:=by unfold aI;omega
 have h4:(c*aI pl).natAbs<=10^70*1000000000000:=by rw[Int.natAbs_mul];exact qb9 U U
 have E:(f*aI pl).natAbs<=10^70*1000000000000:=by rw[Int.natAbs_mul];exact qb9 U U
 have G:aI pl*aI pl<=1000000000000*1000000000000:=Int.mul_le_mul h3 h3 U U
 exact⟨by omega,Int.mul_pos h1 h1,by omega⟩
set_option maxRecDepth 100000 in
def Qq {m:List UInt8}{lb0:Int}(e:(l,m)=qR a b)(h:Q9 a b)(ha12:a.natAbs<10^12)(hb12:b<10^12)(e1:(l1,m1)=qR la lb0)(q1:Q9 la lb0)(e2:(l2,m2)=qR ha hb)(q2:Q9 ha hb){r:Int×Int}(hrt:lS pl a b la lb0 ha hb=true)(hp:pl<=12)(hne:¬((l,m):R)=(l3,m3))(hg:Enters prog g)(hbd:∀W,aN w W->CL g ([.agg #[.int .i64 ((pl+15:Nat):Int),S (nS (10^(pl+15)))],.agg #[S l,S m]].toArray++lb.toArray) W (aH W λv _=>v=.agg #[S (ae r.1),S (ae r.2)]))(hC:RG pl r f c)(ht:Tb w):
 CL 152 #[.agg #[S l1,S m1,S l2,S m2,S l3,S m3,S l4,S m4,.func (.func g) #[] lb.toArray],.agg #[S l,S m],.int .i64 pl] w (aH w λv w'=>v=.tuple #[IV f (aI pl) c (aI pl),.int .i64 0]):=by
 have z1:=ig (k:=pl+15) hC.b1 U;have Ap:=ig (k:=pl+15) hC.b2 U;have Ax:=ig (k:=pl) (a:=f) (qb1 hC.f9 dc) U;have H3:=ig (k:=pl) (a:=c) (qb1 hC.c9 dc) U;have K2:Q9 (c*aI pl-f*aI pl) (aI pl*aI pl):=ZT hC.f9 hC.c9 hp;have E6:=ig (k:=pl) (a:=1) dc U;refine aC func152 Z (I ?_);refine bx (λE1 H2 E=>?_);have Am:=H2.2;refine bx (λB0 H4 H=>?_);have⟨E,Am⟩:=bw H4.2 E Am;refine al k9 (λ_ ES O=>?_);have⟨E,H,Am⟩:=cD ES.2 E H Am;refine I ?_;refine aa (aM (cs:=[S l1,S m1,S l2,S m2,S l3,S m3,S l4,S m4,.func (.func g) #[] lb.toArray]) (b:=w.heap.size) (o:=0) DX Z xk Z (aa1 E (i:=0) Z) ?_);refine I ?_;refine cl Iu (cB (vA e h ha12 hb12 e1 q1 e2 q2 Z (ht.ext Am)) hrt) ?_;rintro _ Az Ix rfl;have⟨E,H,O,Am⟩:=fE Ix.2 E H O Am;refine I ?_;refine aa (FJ (a:=(l,m)) (b:=(l3,m3)) (q:=decide ((l,m)=(l3,m3))) Z Z Z ?_);refine I ?_;refine Tt (λL2 D1 _ Aq=>?_);have⟨E,H,O,Am⟩:=fE D1 E H O Am;refine I ?_
 refine ck [(7,7),(11,22),(44,111)] (λE5 e W=>(0=E5)/\(e 44=.int .i64 0)/\(L2.heap.size<=W.heap.size)/\(aN w W)/\(ar W w.heap.size 187 #[S l1,S m1,S l2,S m2,S l3,S m3,S l4,S m4,.func (.func g) #[] lb.toArray])/\(ar W E1.heap.size 33 #[S l,S m])/\(ar W B0.heap.size 144 #[S [],S [],S [],S []])/\(World.ownsRow W Az.heap.size 3 1 (.slice (some ⟨Az.heap.size,0,none⟩) 2 2) 2 [.int .i64 15,.int .i64 40])) 0 ⟨rfl,rfl,(qa0 _),Am,E,H,O,Aq⟩ ?_;rintro _ _ _ ⟨rfl,KM,N0,G,E,H,O,Aq⟩;have Lk:=bz G;refine I ?_;obtain⟨_,oo,hA,Li⟩:=(ab0 Aq).cells 0 _ Z;refine aa (aA (i:=0) (oo:=oo+0) kB ji Z hA KM dc Z ?_);refine aa (bn (v:=.int .i64 15) U3 Z Z Li ?_);refine I ?_;refine aa (cG (a:=(pl:Int)) (b:=15) (c:=((pl+15:Nat):Int)) Z Z j0 U ?_);refine clb qy (hc:=nd U (ht.ext G)) (hk:=?_);rintro _ _ D2 rfl;have⟨E,H,O,G⟩:=fE D2.2 E H O G;refine al oP (λ_ CG E0=>?_);have⟨E,H,O,G⟩:=fE CG.2 E H O G;refine SA E0 (λ_ Lj A0=>?_);have⟨E,H,O,G,_⟩:=QR Lj E H O G;refine I ?_;refine aa (l5 (f:=g) (lb:=lb) (vs:=[.agg #[.int .i64 (((pl+15):Nat):Int),S (nS (10^(pl+15)))],.agg #[S l,S m]]) hg Z Z (Qf (hbd _ G)) ?_);rintro _ _ Cr rfl
 have⟨E,H,O,A0,G⟩:=ka Cr.2 E H O A0 G;refine al bQ (λ_ CY E7=>?_);have⟨E,H,O,A0,G⟩:=ka CY.2 E H O A0 G;refine SA E7 (λ_ L4 A1=>?_);have⟨E,H,O,A0,G,_⟩:=QS L4 E H O A0 G;refine I ?_;refine cl nP (iL Z Z z1.fz.1 z1.fz.2 (Int.ne_of_gt z1.2.1) (ht.ext G)) ?_;rintro _ _ FR rfl;have⟨E,H,O,A0,A1,G⟩:=Gw FR.2 E H O A0 A1 G;refine I ?_;refine al aZ (λ_ E4 L1=>?_);have⟨E,H,O,A0,A1,G⟩:=Gw E4.2 E H O A0 A1 G;refine SA L1 (λ_ La A2=>?_);have⟨E,H,O,A0,A1,G,_⟩:=Vh La E H O A0 A1 G;refine I ?_;refine cl nP (iL Z Z Ap.fz.1 Ap.fz.2 (Int.ne_of_gt Ap.2.1) (ht.ext G)) ?_;rintro _ _ As rfl;have⟨E,H,O,A0,A1⟩:=nX As.2 E H O A0 A1;have⟨A2,G⟩:=bw As.2 A2 G;refine I ?_;refine al aZ (λ_ Aw KY=>?_);have⟨E,H,O,A0,A1⟩:=nX Aw.2 E H O A0 A1;have⟨A2,G⟩:=bw Aw.2 A2 G;refine SA KY (λ_ C0 Ab=>?_);have⟨E,H,O,A0,A1⟩:=zc C0 E H O A0 A1;have⟨A2,G,_⟩:=kC C0 A2 G;refine I ?_;refine aa (b7 (vs:=[(0,QV r.1 (aI (pl+15))),(1,QV r.2 (aI (pl+15)))]) (cells:=#[S ((qR r.1 (aI (pl+15))).1),S ((qR r.1 (aI (pl+15))).2),S ((qR r.2 (aI (pl+15))).1),S ((qR r.2 (aI (pl+15))).2)]) (pl:=[(0,2),(2,2)]) fJ k9 q0 Z q0 ?_);refine I ?_
 refine clb BY (hc:=no (Y:=.tuple #[IV f (aI pl) c (aI pl),.int .i64 0]) (vx (x:=(qR r.1 (aI (pl+15)),qR r.2 (aI (pl+15)))) Z Z z1 Ap (Int.mul_le_mul_of_nonneg_right hC.le (Int.le_of_lt z1.2.1)) U (ht.ext G)) (by rw[hC.hf,hC.hc])) (hk:=?_);rintro _ B2 wr rfl;have⟨E,H,O,A0,A1⟩:=nX wr.2 E H O A0 A1;have⟨A2,Ab,G⟩:=cD wr.2 A2 Ab G;refine I ?_;refine al k9 (λ_ Av EW=>?_);have⟨E,H,O,A0,A1⟩:=nX Av.2 E H O A0 A1;have⟨A2,Ab,G⟩:=cD Av.2 A2 Ab G;refine SA EW (λ_ B1 Af=>?_);have⟨E,H,O,A0,A1⟩:=zc B1 E H O A0 A1;have⟨A2,Ab,G,_⟩:=tK B1 A2 Ab G;refine I ?_;refine aa (aM (cs:=[S ((qR f (aI pl)).1),S ((qR f (aI pl)).2),S ((qR c (aI pl)).1),S ((qR c (aI pl)).2)]) (b:=B2.heap.size) (o:=0) fJ Z eh Z (aa1 Af (i:=0) Z) ?_);refine cl BZ (vz (x:=(qR f (aI pl),qR c (aI pl))) Z Z Ax H3 (Int.mul_le_mul_of_nonneg_right hC.fc (Int.le_of_lt Ax.2.1)) (ht.ext G)) ?_;rintro _ _ ny rfl;have⟨E,H,O,A0,A1⟩:=nX ny.2 E H O A0 A1;have⟨A2,Ab,Af,G⟩:=fE ny.2 A2 Ab Af G;refine I ?_;refine al aZ (λ_ od K3=>?_);have⟨E,H,O,A0,A1⟩:=nX od.2 E H O A0 A1;have⟨A2,Ab,Af,G⟩:=fE od.2 A2 Ab Af G;refine SA K3 (λ_ Ay Ao=>?_);have⟨E,H,O,A0,A1⟩:=zc Ay E H O A0 A1;have⟨A2,Ab,Af,G,_⟩:=QR Ay A2 Ab Af G;refine I ?_;refine bP 5 ?_;refine sf ?_
 refine a7 (V:=.agg #[.int .i64 (((pl):Nat):Int),S (nS (10^pl))]) (λ_ _ G0 _=>?_) ?_;refine clb qy (hc:=nd U (ht.ext (xt G G0))) (hk:=?_);rintro _ _ Kp rfl;have KC:=Kp.2;refine I ?_;exact fs ⟨KC,rfl⟩;refine aB (λ_ _ _ _=>by refine aa (u9 (cs:=[.int .i64 (((pl):Nat):Int),S (nS (10^pl))]) (v:=S (nS (10^pl))) DY Z Z Z U9 Z Z Z ?_);refine I ?_;exact aK) ?_;refine a7 (V:=.agg #[S [49],S (nS (10^pl))]) (λ_ _ _ _=>?_) ?_;refine cl nN gO ?_;rintro _ _ L3 rfl;have E9:=L3.2;refine I ?_;exact fs ⟨E9,rfl⟩;refine sf ?_;intro _ _ nm _;have⟨E,H,O,A0,A1⟩:=nX nm.2 E H O A0 A1;have⟨A2,Ab,Af,Ao,G⟩:=ka nm.2 A2 Ab Af Ao G;refine cl oS (vt Z DU K2 E6 (ht.ext G)) ?_;rintro _ _ CB rfl;have⟨E,H,O,A0,A1⟩:=nX CB.2 E H O A0 A1;have⟨A2,Ab,Af,Ao,G⟩:=ka CB.2 A2 Ab Af Ao G;refine I ?_;refine mh (qb2 Value.bool (qa1 (width_le hC.one (lR pl)))) (I ?_);refine aa (aM (cs:=[S ((qR f (aI pl)).1),S ((qR f (aI pl)).2),S ((qR c (aI pl)).1),S ((qR c (aI pl)).2)]) (b:=B2.heap.size) (o:=0) fJ Z eh Z (aa1 Af (i:=0) Z) ?_);refine SA O (λ_ Ar GC=>?_);have⟨E,H,A0,A1,A2⟩:=zc Ar E H A0 A1 A2;have⟨Ab,Af,Ao⟩:=nW Ar Ab Af Ao;have G:=bA Ar G;refine I ?_
 refine ba (v:=.tuple #[IV f (aI pl) c (aI pl),.int .i64 0]) (de (r1:=.cell 6 144) (r2:=.tmp 7) Z ?_ ?_) G Z;refine ak (t:=6) (cs:=[S ((qR f (aI pl)).1),S ((qR f (aI pl)).2),S ((qR c (aI pl)).1),S ((qR c (aI pl)).2)]) (b:=B0.heap.size) (o:=0) fJ Z eh ?_ ?_;exact Z;exact aa1 GC (i:=0) Z;exact aL (t:=7) Wf _
end Go.Proofs.YtlmihmlnpjkblaaGreatDoor
