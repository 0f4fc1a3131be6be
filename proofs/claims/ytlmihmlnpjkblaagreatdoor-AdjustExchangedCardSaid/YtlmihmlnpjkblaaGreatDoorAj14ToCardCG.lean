/- Part of the proof of a statement about an adjustment. -/
import Derived.Test.YtlmihmlnpjkblaaGreatDoorAj10ToAjNG
import Derived.Stop.LaidErr
import Derived.Test.YtlmihmlnpjkblaaGreatDoorTie
import Derived.Test.YtlmihmlnpjkblaaGreatDoorCards
import Derived.ProofKit
import Derived.OpenShut
import Derived.LaidMore
import Derived.Lay
import Derived.SevenTiedAt
import Derived.Stop.Joined
import Derived.Deep.SlicePairs
import Derived.Deep.Frames
import Derived.Deep.Onto
import Derived.WideKeyArgs
import Derived.SizedLaws
set_option linter.all false
namespace Go.Proofs.YtlmihmlnpjkblaaGreatDoor
open Go Go.Eng Go.RowKit Proofs.Tryz
variable {bs l:List Nat}{xs vs:List Value}{n yl b2 b3 b4 b5 base k s ts a ta sz b i j M n0 b1 lo c N D1 D2 C CY CB pl gf CX:Nat}{ls sp:Nat->Bool}{e:Nat->Value}{A Y B X:Option Addr}{P:Program}{el t:TypeId}{v v':Value}{W W' w0 w w1 w':World}
section
attribute [local irreducible] wpListIn Code.wpIn Oper.wpIn Exit.then Exit.inBlock Exit.noGoto
set_option maxHeartbeats 40000000
def Hy (n m yl b2 b3 b4 b5:Nat)(W:World):Prop:=
 ar W b2 3 #[.int .i64 n]/\ar W b3 149 #[.func (.yield yl) #[] #[]]/\ar W b4 3 #[.int .i64 m]/\ar W b5 150 #[.func (.func 108) #[] #[pT b2,pT b3,pT b4,pT b5]]
def Hy.kpc {m:Nat}(h:Hy n m yl b2 b3 b4 b5 W)(k:jh bs W W')(hb:b2∉bs/\b3∉bs/\b4∉bs/\b5∉bs):Hy n m yl b2 b3 b4 b5 W':=
 ⟨k.blk hb.1 h.1,k.blk hb.2.1 h.2.1,k.blk hb.2.2.1 h.2.2.1,k.blk hb.2.2.2 h.2.2.2⟩
def FK.kpc {x:Value}(h:FK w0 base el v k xs x s ts a ta ls e w):jh (bl v) w0 w:=by
 cases ha:ls a with
 |false=>exact jh.ofE (h.1 ha).1
 | true=>
   obtain⟨_,_,p,q,r⟩:=h.2 ha
   exact(jh.ofE p).trans (q.kpc.trans (jh.ofE r))
def lP (h:w.ownsRow base el sz v k xs)(hb:b<base):b∉bl v:=λhm=>by
 have:=(yQ h (vb.1 hm)).1;omega
def jh.nil (k:jh [] W W'):jh bs W W':=⟨k.size,λ_ h=>k.blk zd h⟩
def vd (l:List Nat)(i:Nat):ints (l++[i])=ints l++[.int .i64 i]:=by simp[ints]
def L9 (h:w.ownsRow base el 1 v (l.length+1) (ints l++[.int .i64 i])):w.ownsRow base el 1 (.slice (sA v) (l++[i]).length (sC v)) (l++[i]).length (ints (l++[i])):=by
 have e:=dr h
 rw[vd,List.length_append,List.length_singleton]
 rwa [<-e]
def Hz {α:Type}{a b:List α}{d:α}(h:j<a.length):(a++b).getD j d=a.getD j d:=by simp[List.getD,List.getElem?_append_left h]
def HA {α:Type}{a b:List α}{d:α}:(a++b).getD (a.length+j) d=b.getD j d:=by simp[List.getD,List.getElem?_append_right]
def Dz (h:W.ownsRow base el 1 (.slice (sA v') (l++[i]).length (sC v')) (l++[i]).length (ints (l++[i])))(hA:mP w w1 base el v v' l.length (ints l) (.int .i64 i)):W.ownsRow base el 1 v' (l.length+1) (ints l++[.int .i64 i]):=by
 have e:=dr hA.own
 rw[vd,List.length_append,List.length_singleton]at h
 rw[e];exact h
def XV (hA:mP w w1 base el v v' l.length (ints l) (.int .i64 i))(k:jh (bl (.slice (sA v') (l++[i]).length (sC v'))) W W'):jh (bl v') W W':=by
 have e:=dr hA.own
 rw[List.length_append,List.length_singleton]at k
 rw[e];exact k
def Rw.blk1 {x:Value}(h:ar w b t #[x]):Rw w 0 (some ⟨b,0,none⟩) [x]:=by
 refine⟨λj u hu=>⟨b,0,rfl,?_⟩,λE e=>qa7 _,λE e=>by cases e;exact bt h⟩
 match j,hu with
 |0,hu=>cases hu;exact ab4 h Z
def FK.lit {x:Value}(h:FK w0 base el v k xs x s ts a ta ls e w)(hn:ls a=false)(hs:ls s=true):aN w0 w/\∃b,e ts=.slice (some ⟨b,0,none⟩) 1 1/\Rw w 0 (some ⟨b,0,none⟩) [x]:=⟨(h.1 hn).1,(h.1 hn).2 hs⟩
set_option maxRecDepth 100000 in
def xb {m first:Nat}{k6 Jx:Nat->World->Prop}{S:Nat->List Nat}(hbx:b2<base/\b3<base/\b4<base/\b5<base)(hn0:n0<=base)(hm:m<=100)(hJ0:∀k,j4 n0 (k6 k))(hY:∀k v W1,k<M->k6 k W1->(∃A c lo,v=.slice A (S k).length c/\Rw W1 lo A (ints (S k)))->YieldAt Fence.wide 7 prog yl #[v] W1 λe W'=>(e=.returned (.bool true)/\k6 (k+1) W'/\jh [] W1 W')\/(e=.returned (.bool false)/\Jx (k+1) W'))(hfm:first<=m)(ih:∀i,first<=i->i<m->L8 prog 108 [pT b2,pT b3,pT b4,pT b5] (Hy n m yl b2 b3 b4 b5) base 3 k6 Jx S M n m (i+1)):
 L8 prog 108 [pT b2,pT b3,pT b4,pT b5] (Hy n m yl b2 b3 b4 b5) base 3 k6 Jx S M n m first:=by
 intro A l A0 k Wa a6 K3 ho hbase Ab hkM hS;obtain⟨Ap,Aw,Aq,Ao⟩:=K3;have E:jh (bl (Value.slice A l.length A0)) Wa Wa:=jh.refl' Wa;have ac:l.length<=100:=J
 refine callsIn_wide.1 (Ef (args:=[.slice A l.length A0,.int .i64 first,pT b2,pT b3,pT b4,pT b5]) func108 Z ?_);refine I ?_;by_cases fy:((l.length:Nat):Int)=(n:Int);have Ar:l.length=n:=J
 refine I ?_;have hG:ze n m first l=[l]:=if_pos Ar;rw[hG]at hkM hS;have hSk:S k=l:=hS 0 Nat.one_pos;have hkM2:k<M:=by have:k+1<=M:=hkM;omega
 refine aa (xD (l:=yl) (vs:=[.slice A l.length A0]) Z (aw Z Z) (hY k _ Wa hkM2 Ab ⟨A,A0,base,by rw[hSk],by rw[hSk];exact ek ho⟩) ?_);rintro an a2 (⟨rfl,Av,H⟩|⟨rfl,hx⟩);refine I ?_;exact gZ (v:=.bool true) (cC Z (aL (t:=8) Wf _)) (.inl ⟨rfl,by rw[hG];exact Av,yO ho H (λg _=>by simp),H.nil⟩);refine I ?_;exact gZ (v:=.bool false) (cC Z (aL (t:=8) Wf _)) (.inr ⟨rfl,_,hx⟩);have Ar:¬l.length=n:=J
 refine I ?_;have hG:ze n m first l=HX n (m-first) first l:=if_neg Ar;rw[hG]at hkM hS;refine ck [(8,9),(18,31)] (λLk e W=>∃i:Nat,∃q:Nat,(m-i=Lk)/\(e 9=.int .i64 i)/\(first<=i)/\(i<=m)/\(base<=W.heap.size)/\(q+(HX n (m-i) i l).length<=M)/\(q+(HX n (m-i) i l).length=k+(HX n (m-first) first l).length)/\(∀j,j<(HX n (m-i) i l).length->S (q+j)=(HX n (m-i) i l).getD j [])/\(jh (bl (Value.slice A l.length A0)) Wa W)/\(ar W b2 3 #[.int .i64 n])/\(ar W b3 149 #[.func (.yield yl) #[] #[]])/\(ar W b4 3 #[.int .i64 m])/\(ar W b5 150 #[.func (.func 108) #[] #[pT b2,pT b3,pT b4,pT b5]])/\(k6 q W)/\(W.ownsRow base 3 1 (Value.slice A l.length A0) l.length (ints l))) (m-first) ⟨first,k,rfl,rfl,(qa0 _),hfm,U,hkM,rfl,hS,E,Ap,Aw,Aq,Ao,Ab,ho⟩ ?_;rintro _ _ ny ⟨i,q,rfl,a0,KC,a3,ad,hqM,hq,hSq,B0,Ap,Aw,Aq,Ao,E0,G⟩;by_cases hlt:i<m;refine I ?_;refine u5 li 7 [23,24,25,26,27,28,29] [some (23,.func (.func 108) #[] #[pT b2,pT b3,pT b4,pT b5]),some (24,.slice A l.length A0),some (25,.int .i64 i),none,none,some (28,.int .i64 i),some (29,.int .i64 ((i+1:Nat):Int))] (FK ny base 3 (Value.slice A l.length A0) l.length (ints l) (.int .i64 i) 3 26 4 27) FK.start q0 q0 q0 ?_ ?_;refine⟨λFR _ _ od _ E1 _ _ _=>?_,?_⟩;obtain⟨FR,rfl⟩:=aU od
 have X2:=E1.kpc.blk (lP G U) Ao;refine I ?_;exact XU Z E1;refine⟨λVm _ _ W2 _ P0 _ _ _=>?_,?_⟩;obtain⟨Vm,rfl⟩:=aU W2;refine I ?_;exact XU Z P0;refine⟨λS0 _ _ K2 _ GC _ _ _=>?_,?_⟩;obtain⟨S0,rfl⟩:=aU K2;refine I ?_;exact XU Z GC;refine⟨λwr _ _ ES G0 L3 _ _ _=>?_,?_⟩;obtain⟨wr,rfl⟩:=aU ES;have P2:=bh (G0 2 _ _ Z Z);refine aa (XN (vs:=[(0,.int .i64 i)]) (cells:=#[.int .i64 i]) kB lf (db P2 Z) dc dc q0 (λ_ L2 No=>?_));refine I ?_;exact Zx Z L3 L2.2 (Rw.blk1 No);refine⟨λH4 _ _ H3 Q0 Az _ B1 E9=>?_,?_⟩;obtain⟨H4,rfl⟩:=aU H3;obtain⟨Cr,Kp,X0,E4⟩:=Az.lit B1 (E9 3 Z);have L4:=bh (Q0 1 _ _ Z Z);refine aa (UN (b:=Kp) (lo:=0) kB lf Z (hx:=by exact L4) (ab Cr G) (hy:=by exact X0) E4 Z U dc (qa8 U (bz Cr)) (λ_ _ E5=>?_));refine I ?_;exact Zy Z Az B1 E5;refine⟨λWV _ _ E6 _ La _ _ _=>?_,?_⟩;obtain⟨WV,rfl⟩:=aU E6;refine I ?_;exact XU Z La;refine⟨λT2 _ _ Rm Li S9 _ _ _=>?_,?_⟩;obtain⟨T2,rfl⟩:=aU Rm;have a8:=bh (Li 5 _ _ Z Z);refine gR (I ?_);exact XU Z S9;exact trivial;intro A1 W3 _ Ne L1 nm A2;obtain⟨A1,rfl⟩:=aU L1;obtain⟨_,_,Am,O,As⟩:=A2.2 (Ne 4 Z);have a4:=A2.kpc.size;have Af:=ab As (L9 (O).own)
 have CG:=A2.kpc.blk (lP G U) Ap;have B2:=A2.kpc.blk (lP G U) Aw;have Ay:=A2.kpc.blk (lP G U) Aq;have C0:=A2.kpc.blk (lP G U) Ao;have H2:=(hJ0 _).ext As ((O).stab (ab Am G) (hJ0 _) hn0 ((hJ0 _).ext Am E0));have V0:A1 27=.slice (sA (A1 27)) ((l++[i]).length) (sC (A1 27)):=by rw[List.length_append,List.length_singleton];exact dr (O).own
 have hstep:=L6 (n:=n) (l:=l) hlt;rw[hstep]at hSq;have KY:=qb2 List.length hstep;rw[List.length_append]at KY;have T3:=bh (nm 0 _ _ Z Z);have VW:=bh (nm 6 _ _ Z Z);refine aa (Bf (vs:=[.slice (sA (A1 27)) ((l++[i]).length) (sC (A1 27)),.int .i64 ((i+1:Nat):Int)]) (lb:=[pT b2,pT b3,pT b4,pT b5]) IK (hx:=by exact T3) (hv:=by exact(aw V0 (aw VW Z))) (ih i KC hlt (sA (A1 27)) (l++[i]) (sC (A1 27)) q W3 q4 ⟨CG,B2,Ay,C0⟩ Af U H2 U (λj Ab=>by rw[hSq j (by rw[List.length_append];omega),Hz Ab])) ?_);rintro v a5 (⟨rfl,Av,Lj,H⟩|⟨rfl,hx⟩);have Ax:=(jh.ofE As).trans H;have N0:=H.blk (lP Af U) CG;have P1:=H.blk (lP Af U) B2;have KM:=H.blk (lP Af U) Ay;have E7:=H.blk (lP Af U) C0;have EW:=(O).back (ab Am G) (Dz Lj O) (XV O Ax);have W0:=B0.trans ((jh.ofE Am).trans ((O).inner (XV O Ax)));have a9:=H.size;refine I ?_;refine gR (I ?_);exact bJ ⟨i+1,q+(ze n m (i+1) (l++[i])).length,rfl,rfl,U,U,U,U,U,(λj Ab=>by have h:=hSq ((ze n m (i+1) (l++[i])).length+j) (by rw[List.length_append];omega);rw[HA]at h;rw[<-h,Nat.add_assoc]),W0,N0,P1,KM,E7,Av,EW⟩;refine I ?_;exact gZ (v:=.bool false) (cC Z (aL (t:=8) Wf _)) (.inr ⟨rfl,hx⟩);have Ix:=PM (n:=n) (l:=l) hlt
 rw[Ix]at hq;refine I ?_;exact gZ (v:=.bool true) (cC Z (aL (t:=8) Wf _)) (.inl ⟨rfl,by rw[hG,<-hq];exact E0,G,B0⟩)
set_option maxRecDepth 100000
def Zz (n m:Nat)(k:Nat)(v:Value)(W:World):Prop:=∃A c lo,v=.slice A ((ze n m 0 []).getD k []).length c/\Rw W lo A (ints ((ze n m 0 []).getD k []))
def FL {m:Nat}{k6 Jx:Nat->World->Prop}{S:Nat->List Nat}(hbx:b2<base/\b3<base/\b4<base/\b5<base)(hn0:n0<=base)(hm:m<=100)(hJ0:∀k,j4 n0 (k6 k))(hY:∀k v W1,k<M->k6 k W1->(∃A c lo,v=.slice A (S k).length c/\Rw W1 lo A (ints (S k)))->YieldAt Fence.wide 7 prog yl #[v] W1 λe W'=>(e=.returned (.bool true)/\k6 (k+1) W'/\jh [] W1 W')\/(e=.returned (.bool false)/\Jx (k+1) W')):
 ∀d first,m-first<=d->first<=m->L8 prog 108 [pT b2,pT b3,pT b4,pT b5] (Hy n m yl b2 b3 b4 b5) base 3 k6 Jx S M n m first
 |0,first,h,hf=>xb hbx hn0 hm hJ0 hY hf λi h1 h2=>by omega
 |d+1,first,h,hf=>xb hbx hn0 hm hJ0 hY hf λi h1 h2=>FL hbx hn0 hm hJ0 hY d (i+1) U U
def ve {m:Nat}(h1:ar w b1 3 #[.int .i64 n])(h2:ar w b2 3 #[.int .i64 m])(hm:m<=100):
 Rt prog 107 [pT b1,pT b2] (Zz n m) [] (ze n m 0 []).length w:=by
 intro l k6 Jx Wa hW hJ0 hY E;have⟨h1,h2⟩:=gu hW h1 h2;refine qC ?_;have Ap:=bt h1;have As:=bt h2;refine Ef func107 Z (I ?_);refine bx (v:=.func (.yield l) #[] #[]) (hx:=rfl) (λAb Af G=>?_);have⟨h1,h2⟩:=gu Af.2 h1 h2;have E:=(hJ0 _).ext Af.2 E;refine I ?_;refine al Nf (λ_ A0 Am=>?_);have⟨h1,h2⟩:=gu A0.2 h1 h2;have E:=(hJ0 _).ext A0.2 E;have G:=be A0.2 G;refine I ?_;refine aa (aE (vf:=[]) (vc:=[pT b1,pT Wa.heap.size,pT b2,pT Ab.heap.size]) Z Z ?_);refine SO Am (λA2 H A1=>?_) (hi:=RZ);have⟨h1,h2⟩:=lw H h1 h2;have E:=(hJ0 _).put H U E;have G:=pb H G;have Ao:=ij H;refine I ?_;have Aq:=bt h1;have Aw:=bt G;have Ax:=bt h2;have Av:=bt A1;refine aa (Bf (vs:=[.slice none 0 0,.int .i64 0]) (lb:=[pT b1,pT Wa.heap.size,pT b2,pT Ab.heap.size]) IK (hx:=by exact Z) (hv:=by exact Z) (FL (base:=A2.heap.size) (n0:=Wa.heap.size) (M:=(ze n m 0 []).length) (S:=λk=>(ze n m 0 []).getD k []) (Jx:=Jx) ⟨by omega,by omega,by omega,by omega⟩ U hm hJ0 hY m 0 U U none [] 0 0 A2 (qa0 _) ⟨h1,G,h2,A1⟩ bO (qa0 _) E U (λj O=>by rw[Nat.zero_add])) ?_);rintro v Ar (⟨rfl,O,_,_⟩|⟨rfl,hx⟩);refine I ?_;exact sq Z λv=>⟨⟨v,rfl⟩,.inl (by rw[Nat.zero_add]at O;exact O)⟩;refine I ?_;exact sq Z λv=>⟨⟨v,rfl⟩,.inr hx⟩
def Bi {m:Nat}:
 CL 49 #[.int .i64 m,.int .i64 n] w (aH w λv w'=>∃b1 b2,v=.func (.func 107) #[] #[pT b1,pT b2]/\ar w' b1 3 #[.int .i64 n]/\ar w' b2 3 #[.int .i64 m]/\w.heap.size<=b1/\w.heap.size<=b2):=by
 refine aC func49 Z (I ?_);refine bx (λH A1 G=>?_);have E:=A1.2;refine bx (λ_ O A0=>?_);have⟨G,E⟩:=bw O.2 G E;refine aa (aJ (v:=.nilFunc) Z ?_);refine I ?_;refine aa (aE (vf:=[]) (vc:=[pT H.heap.size,pT w.heap.size]) Z Z ?_);refine I ?_;exact am (t:=4) (v:=.func (.func 107) #[] #[pT H.heap.size,pT w.heap.size]) Z E ⟨_,_,rfl,A0,G,by omega,by omega⟩ Z
def HB {ad:Addr}{xs:List Nat}(hx:Rw w lo (some ad) (ints xs))(hl:xs.length<=1000000):
 CL 50 #[.slice (some ad) xs.length c] w (aH w λv w'=>World.ownsRow w' w.heap.size 3 1 v xs.length (ints xs)):=by
 refine aC func50 Z (I ?_);refine aa (uG (A:=some ad) kB Z Z ?_);refine I ?_;(try refine qp (qb2 Value.bool Z) ?_);refine I ?_;refine aa (zH kB lf (λ_ G _ O=>?_));have E:=G;have A2:=bz G;refine I ?_;refine aa (jI (v:=.slice (some ⟨w.heap.size,0,none⟩) 0 0) (k:=0) (m:=xs.length) (news:=(ints xs)) kB lf Z dc Z O Z (hx.ext E) (by simp[ints]) (by intro u hu;simp[ints]at hu;obtain⟨a,_,rfl⟩:=hu;rfl) Rd U U (λH _ A0 A1 _=>?_));have E:=bB O U U E A1;rw[List.nil_append]at A0;refine aa (aJ (v:=H) Z ?_);refine I ?_;exact am (t:=2) (v:=H) Z E (aP A0 (Nat.zero_add _) Z) Z
def KO.ofExt (k:aN W W'):KeepsOthers W W':=⟨k.size,λ_ _ h _=>k.heap h⟩
def KO.put {cs:Array Value}(k:dP W W' b)(h:ar W b t cs):KeepsOthers W W':=
 ⟨by rw[k.size];exact qa0 _,λi o hi hc=>(k.block i (λe=>by subst e;unfold ar at h;rw[h]at hi;cases hi;cases hc)).trans hi⟩
def FM {cs:List Value}{r r':Loop}(h:Rw W lo A cs)(hl:W.heap[b]?=some (.loop r)):Rw (W.putObj b (.loop r')) lo A cs:=by
 refine⟨λj u hu=>?_,h.lo,λH e=>by have:=h.hi H e;simpa using this⟩
 obtain⟨G,o,e,hc⟩:=h.cells j u hu
 refine⟨G,o,e,?_⟩
 rw[<-hc]
 refine(dp W b (.loop r')).cell ?_
 intro hb
 simp only at hb
 subst hb
 obtain⟨_,E,O⟩:=cells_of_cell hc
 rw[hl]at E
 cases E;cases O
def PO {fn:Func}{R:Value->World->Prop}(h2:ll w' D2)(h1:ll w' D1)(hne:D1≠D2)(hr:(results fn (act N e [⟨.collected D2,#[]⟩,⟨.collected D1,#[]⟩]).tmps).run P ((w'.putObj D2 (.deferred none)).putObj D1 (.deferred none))=.ok v ((w'.putObj D2 (.deferred none)).putObj D1 (.deferred none)))(hx:aN w ((w'.putObj D2 (.deferred none)).putObj D1 (.deferred none)))(hR:R v ((w'.putObj D2 (.deferred none)).putObj D1 (.deferred none))):bodyPostM Fence.wide 9 P fn (aH w R) .ret (act N e [⟨.collected D2,#[]⟩,⟨.collected D1,#[]⟩]) w':=
 ⟨by simp,.inl ⟨D2,_,rfl,run_takeDeferred h2,by simp,.inl ⟨D1,_,rfl,run_takeDeferred (ad3 (dK w') hne h1),v,hr,hx,hR⟩⟩⟩
set_option maxHeartbeats 4000000 in
set_option maxRecDepth 100000 in
def HC {L V:Rows}{ys:List R}(hD:eZ w A C Y CY B CB L V ys)(ok:qi L V ys)(h3:ys.length=3){la lb:Int}(ql:Q9 la lb)(h12:pl<=12)(hl1:0<=aQ (la*1000000) (1*lb))(hl2:aQ (la*2) (1*lb)<=0){KM3 KC3 KM2 KC2:Rows}{KY3 KY2:List R}(pe3:qd L V ys [0,1,2] KM3 KC3 KY3)(ok3:qi KM3 KC3 KY3)(pe2:qd L V ys [0,1] KM2 KC2 KY2)(ok2:qi KM2 KC2 KY2)(hC3:∀A C Y CY B CB W,eZ W A C Y CY B CB KM3 KC3 KY3->Tb W->CL 19 #[.agg #[.slice A KY3.length C,.slice Y KY3.length CY,.slice B KY3.length CB],QV la lb,.int .i64 pl] W (aH W λv _=>v=.tuple #[.int .i64 2,.int .i64 0]))(hC2:∀A C Y CY B CB W,eZ W A C Y CY B CB KM2 KC2 KY2->Tb W->CL 19 #[.agg #[.slice A KY2.length C,.slice Y KY2.length CY,.slice B KY2.length CB],QV la lb,.int .i64 pl] W (aH W λv _=>v=.tuple #[.int .i64 1,.int .i64 0]))(hb1:ar w b1 33 #[S ((qR la lb).1),S ((qR la lb).2)])(hb2:ar w b2 3 #[.int .i64 pl])(hb3:ar w b3 30 #[.slice A ys.length C,.slice Y ys.length CY,.slice B ys.length CB])(ht:Tb w):
 CL 48 #[pT b1,pT b2,pT b3] w (aH w λv w'=>w'.ownsRow w.heap.size 3 1 v 2 (ints [0,1])):=by
 obtain⟨_,H,hM⟩:=hD.m;obtain⟨_,hy⟩:=hD.y;obtain⟨_,G,hV⟩:=hD.v;have bY:=bt hb1;have an:=bt hb2;have X2:=bt hb3;have L3:Value.int .i64 ((ys.length:Nat):Int)=.int .i64 3:=by rw[h3];rfl
 refine rt func48 Z (I ?_);refine al Qs (λ_ P0 B1=>?_);have⟨hb1,hb2,hb3⟩:=qh P0.2 hb1 hb2 hb3;have As:=P0.2;refine I ?_;refine aa (b7 (vs:=[(0,QV la lb),(1,.int .i64 pl)]) (cells:=#[S (qR la lb).1,S (qR la lb).2,.int .i64 pl]) (pl:=[(0,2),(2,1)]) DZ sn q0 Z q0 ?_);refine cl IF (wZ ql h12 hl1 hl2 (ht.ext As)) ?_;rintro _ _ W0 rfl;have⟨hb1,hb2,hb3,B1,As⟩:=ka W0.2 hb1 hb2 hb3 B1 As;refine I ?_;(try refine aa (aM (cs:=[.slice A ys.length C,.slice Y ys.length CY,.slice B ys.length CB]) (b:=b3) (o:=0) dj Z bm Z (aa1 hb3 (i:=0) Z) ?_));refine cl lg (iJ (hM.ext As) (fe ok.hv) (hy.ext As) (hV.ext As) (fe ok.hv3) hD.c ok.hv ok.hv3 ok.hVl ok.hLl ok.hyo ok.hp (ht.ext As)) ?_;rintro _ _ nm rfl;have⟨hb1,hb2,hb3,B1,As⟩:=ka nm.2 hb1 hb2 hb3 B1 As;refine cl fK dn ?_;rintro _ _ VW rfl;have⟨hb1,hb2,hb3,B1,As⟩:=ka VW.2 hb1 hb2 hb3 B1 As;refine I ?_;rw[L3];refine I ?_;refine Zs 1 (I ?_);rw[L3];refine I ?_;refine cl IG (Bi (m:=3) (n:=3)) ?_;rintro _ H3 V0 ⟨Ix,L4,rfl,GC,K3,a3,a6⟩;have⟨hb1,hb2,hb3,B1,As⟩:=ka V0.2 hb1 hb2 hb3 B1 As;refine I ?_;have bq:=bt hb1;have a0:=bt hb2;have a2:=bt hb3;have ad:=bt B1;have WV:=bt GC;have a4:=bt K3;have T2:w.heap.size<=H3.heap.size:=bz As
 refine Bh (M:=(ze 3 3 0 []).length) (Pa:=Zz 3 3) (bs:=[]) (gf:=107) (lb:=[pT Ix,pT L4]) (p:=29) Z IJ (ve GC K3 dc) (fun(k:Nat) W=>H3.heap.size<=W.heap.size/\aN w W/\(ar W b1 33 #[S ((qR la lb).1),S ((qR la lb).2)])/\(ar W b2 3 #[.int .i64 pl])/\(ar W b3 30 #[.slice A ys.length C,.slice Y ys.length CY,.slice B ys.length CB])/\(ar W w.heap.size 22 #[.slice none (0) (0)])/\(ar W Ix 3 #[.int .i64 (3)])/\(ar W L4 3 #[.int .i64 (3)])) (λ_ _ _=>False) (λk=>⟨λO ⟨Ap,E,A2,Ab,A0,A1,Af,Am⟩=>⟨qa8 Ap (bz O),xt E O,be O A2,be O Ab,be O A0,be O A1,be O Af,be O Am⟩,λO hb ⟨Ap,E,A2,Ab,A0,A1,Af,Am⟩=>⟨kc6,bA O E,pb O A2,pb O Ab,pb O A0,pb O A1,pb O Af,pb O Am⟩⟩) ?hIx3 ?h03 (λe k e' W=>k=0/\∃Az Aq Av,e'=upd (upd e 29 (.slice Az 3 Aq)) 5 (.slice Az 3 Aq)/\Rw W Av Az (ints [0,1,2])/\(fun(k:Nat) W=>H3.heap.size<=W.heap.size/\aN w W/\(ar W b1 33 #[S ((qR la lb).1),S ((qR la lb).2)])/\(ar W b2 3 #[.int .i64 pl])/\(ar W b3 30 #[.slice A ys.length C,.slice Y ys.length CY,.slice B ys.length CB])/\(ar W w.heap.size 22 #[.slice none (0) (0)])/\(ar W Ix 3 #[.int .i64 (3)])/\(ar W L4 3 #[.int .i64 (3)])) k W) ?hA3 ?asn3 ?body3 ?done3 ?stop3;case hIx3=>
  rintro c k A b r E7 hb hl ⟨⟩
 case h03=>
  exact⟨qa0 _,As,hb1,hb2,hb3,B1,GC,K3⟩
 case hA3=>
  rintro k e' W b r E7 hb hl ⟨H4,Az,Aq,Av,KY,Ar,Ap,E,A2,Ab,A0,A1,Af,Am⟩;have O:=dp W b (.loop E7);exact⟨H4,Az,Aq,Av,KY,FM Ar hl,kc6,bA O E,pb O A2,pb O Ab,pb O A0,pb O A1,pb O Af,pb O Am⟩
 case asn3=>
  rintro l k v W K hkM ⟨Ap,E,A2,Ab,A0,A1,Af,Am⟩ ⟨Az,Aq,Av,rfl,Ar⟩ hK;have Aw:k=0:=(by rw[show(ze 3 3 0 []).length=1 by decide]at hkM;omega);subst Aw;have Ar:Rw W Av Az (ints [0,1,2]):=Ar;refine I ?_;exact hK _ _ (aa0 _) ⟨rfl,Az,Aq,Av,rfl,Ar,Ap,E,A2,Ab,A0,A1,Af,Am⟩
 case body3=>
  rintro l k e' W hkM ⟨rfl,Az,Aq,Av,rfl,Ar,Ap,E,A2,Ab,A0,A1,Af,Am⟩;have zW:=bz E;have EW:=aa0 W;refine I ?_;(try refine aa (aM (cs:=[.slice A ys.length C,.slice Y ys.length CY,.slice B ys.length CB]) (b:=b3) (o:=0) dj Z bm Z (aa1 A0 (i:=0) Z) ?_));refine I ?_;refine cl Ca (yN (hD.ext E) ok (kd:=Az) (CR:=Aq) (rl:=[0,1,2]) (Ar.ext EW) pe3 ok3 (ht.ext E)) ?_;rintro _ H2 E4 ⟨bp,rfl,Li,Ne,ny,od,La,P2,rfl,W1⟩;have A2:=be E4.2 A2;have Ab:=be E4.2 Ab;have A0:=be E4.2 A0;have A1:=be E4.2 A1;have Af:=be E4.2 Af;have Am:=be E4.2 Am;have E:=xt E E4.2;have EW:=xt EW E4.2;have ES:=aa0 H2;refine I ?_;refine al dX (λ_ E1 Vm=>?_);have A2:=be E1.2 A2;have Ab:=be E1.2 Ab;have A0:=be E1.2 A0;have A1:=be E1.2 A1;have Af:=be E1.2 Af;have Am:=be E1.2 Am;have E:=xt E E1.2;have EW:=xt EW E1.2;have ES:=xt ES E1.2;refine aa (bo (b:=H2.heap.size) (o:=0) (vs:=[.slice Li KY3.length Ne,.slice ny KY3.length od,.slice La KY3.length P2]) bm Z Z zl Vm (qa3 Z) (λ_ B2 S9=>?_));have A2:=pb B2 A2;have Ab:=pb B2 Ab;have A0:=pb B2 A0
  have A1:=pb B2 A1;have Af:=pb B2 Af;have Am:=pb B2 Am;have E:=bA B2 E;have c9:=ij B2;have EW:=bA B2 EW;have ES:=bA B2 ES;refine I ?_;(try refine aa (aM (cs:=[.slice Li KY3.length Ne,.slice ny KY3.length od,.slice La KY3.length P2]) (b:=H2.heap.size) (o:=0) dj Z bm Z (aa1 S9 (i:=0) Z) ?_));refine I ?_;refine cl xw (hC3 _ _ _ _ _ _ _ (ia.ext ES W1).des (ht.ext E)) ?_;rintro _ _ E0 rfl;have A2:=be E0.2 A2;have Ab:=be E0.2 Ab;have A0:=be E0.2 A0;have A1:=be E0.2 A1;have Af:=be E0.2 Af;have Am:=be E0.2 Am;have E:=xt E E0.2;have EW:=xt EW E0.2;have ES:=xt ES E0.2;refine I ?_;exact⟨KO.ofExt EW,jh.ofE EW,U,E,A2,Ab,A0,A1,Af,Am⟩
 case done3=>
  rintro D W hD9 ⟨Ap,E,A2,Ab,A0,A1,Af,Am⟩ hK9;have zW:=bz E;have hDlt:D<W.heap.size:=(Array.getElem?_eq_some_iff.1 hK9).1;refine I ?_;refine aa (jq (a:=3) (b:=1) (c:=2) Z Z j0 Z ?_);refine I ?_;refine Zt (I ?_);rw[L3];refine I ?_;refine cl IG (Bi (m:=3) (n:=2)) ?_;rintro _ G0 E6 ⟨KC,L1,rfl,KM,Kp,X0,bW⟩;have A2:=be E6.2 A2;have Ab:=be E6.2 Ab;have A0:=be E6.2 A0;have A1:=be E6.2 A1;have hK9:=ll.ext E6.2 hK9;have E:=xt E E6.2;refine I ?_;have bb:=bt A2;have bv:=bt Ab;have bd:=bt A0;have b0:=bt A1;have ac:=bt KM;have a9:=bt Kp;have T2:w.heap.size<=G0.heap.size:=bz E;refine Bh (M:=(ze 2 3 0 []).length) (Pa:=Zz 2 3) (bs:=[]) (gf:=107) (lb:=[pT KC,pT L1]) (p:=29) Z IJ (ve KM Kp dc) (fun(k:Nat) W=>k=0/\G0.heap.size<=W.heap.size/\aN w W/\(ar W b1 33 #[S (qR la lb).1,S (qR la lb).2])/\(ar W b2 3 #[.int .i64 pl])/\(ar W b3 30 #[.slice A ys.length C,.slice Y ys.length CY,.slice B ys.length CB])/\(ar W w.heap.size 22 #[.slice none 0 0])/\(ll W D)/\(ar W KC 3 #[.int .i64 2])/\(ar W L1 3 #[.int .i64 3])) (λc _ W=>c=.ret/\∃v0,ar W w.heap.size 22 #[v0]/\W.ownsRow w.heap.size 3 1 v0 2 (ints [0,1])/\aN w W/\G0.heap.size<=W.heap.size/\(ll W D)) (λk=>⟨λO ⟨Aw,Ap,E,A2,Ab,A0,A1,Af,Am,Ao⟩=>⟨Aw,qa8 Ap (bz O),xt E O,be O A2,be O Ab,be O A0,be O A1,ll.ext O Af,be O Am,be O Ao⟩,λO hb ⟨Aw,Ap,E,A2,Ab,A0,A1,Af,Am,Ao⟩=>⟨Aw,kc6,bA O E,pb O A2,pb O Ab,pb O A0,pb O A1,ad3 O U Af,pb O Am,pb O Ao⟩⟩) ?hIx2 ?h02 (λe k e' W=>k=0/\∃Az Aq Av,e'=upd (upd e 29 (.slice Az 2 Aq)) 5 (.slice Az 2 Aq)/\Rw W Av Az (ints [0,1])/\(fun(k:Nat) W=>k=0/\G0.heap.size<=W.heap.size/\aN w W/\(ar W b1 33 #[S (qR la lb).1,S (qR la lb).2])/\(ar W b2 3 #[.int .i64 pl])/\(ar W b3 30 #[.slice A ys.length C,.slice Y ys.length CY,.slice B ys.length CB])/\(ar W w.heap.size 22 #[.slice none 0 0])/\(ll W D)/\(ar W KC 3 #[.int .i64 2])/\(ar W L1 3 #[.int .i64 3])) k W) ?hA2 ?asn2 ?body2 ?done2 ?stop2
  case hIx2=>
   rintro c k A b r E7 hb hl ⟨rfl,v0,hB,hO,hE0,Lj,E9⟩;have O:=dp A b (.loop E7);exact⟨rfl,v0,(jh.putObj (bs:=[]) hl).blk zd hB,yO hO (jh.putObj (bs:=[]) hl) (λg _=>by simp),bA O hE0,(by rw[O.size];exact Lj),ad3 O U E9⟩
  case h02=>
   exact⟨rfl,qa0 _,E,A2,Ab,A0,A1,hK9,KM,Kp⟩
  case hA2=>
   rintro k e' W b r E7 hb hl ⟨H4,Az,Aq,Av,KY,Ar,Aw,Ap,E,A2,Ab,A0,A1,Af,Am,Ao⟩;have O:=dp W b (.loop E7);exact⟨H4,Az,Aq,Av,KY,FM Ar hl,Aw,kc6,bA O E,pb O A2,pb O Ab,pb O A0,pb O A1,ad3 O U Af,pb O Am,pb O Ao⟩
  case asn2=>
   rintro l k v W K hkM ⟨Aw,Ap,E,A2,Ab,A0,A1,Af,Am,Ao⟩ ⟨Az,Aq,Av,rfl,Ar⟩ hK;subst Aw;have Ar:Rw W Av Az (ints [0,1]):=Ar;have Aw:0=0:=rfl;refine I ?_;exact hK _ _ (aa0 _) ⟨rfl,Az,Aq,Av,rfl,Ar,rfl,Ap,E,A2,Ab,A0,A1,Af,Am,Ao⟩
  case body2=>
   rintro l k e' W hkM ⟨rfl,Az,Aq,Av,rfl,Ar,Aw,Ap,E,A2,Ab,A0,A1,Af,Am,Ao⟩;have zW:=bz E;have EW:=aa0 W;obtain⟨bZ,S0,rfl,_⟩:=Ar.cells 0 _ Z;refine I ?_;(try refine aa (aM (cs:=[.slice A ys.length C,.slice Y ys.length CY,.slice B ys.length CB]) (b:=b3) (o:=0) dj Z bm Z (aa1 A0 (i:=0) Z) ?_));refine I ?_;refine cl Ca (yN (hD.ext E) ok (kd:=(some ⟨bZ,S0,none⟩)) (CR:=Aq) (rl:=[0,1]) (Ar.ext EW) pe2 ok2 (ht.ext E)) ?_;rintro _ L2 Cr ⟨Wa,rfl,P1,N0,Rm,wr,Lk,No,rfl,T3⟩;have A2:=be Cr.2 A2;have Ab:=be Cr.2 Ab;have A0:=be Cr.2 A0;have A1:=be Cr.2 A1;have Af:=ll.ext Cr.2 Af;have Am:=be Cr.2 Am;have Ao:=be Cr.2 Ao;have E:=xt E Cr.2;have EW:=xt EW Cr.2;have ES:=aa0 L2;refine I ?_;refine al dX (λ_ C0 Q0=>?_);have A2:=be C0.2 A2;have Ab:=be C0.2 Ab;have A0:=be C0.2 A0;have A1:=be C0.2 A1;have Af:=ll.ext C0.2 Af;have Am:=be C0.2 Am;have Ao:=be C0.2 Ao;have E:=xt E C0.2;have EW:=xt EW C0.2;have ES:=xt ES C0.2;refine aa (bo (b:=L2.heap.size) (o:=0) (vs:=[.slice P1 KY2.length N0,.slice Rm KY2.length wr,.slice Lk KY2.length No]) bm Z Z zl Q0 (qa3 Z) (λ_ Ay E5=>?_))
   have A2:=pb Ay A2;have Ab:=pb Ay Ab;have A0:=pb Ay A0;have A1:=pb Ay A1;have Af:=ad3 Ay (Af.ne Q0) Af;have Am:=pb Ay Am;have Ao:=pb Ay Ao;have E:=bA Ay E;have a8:=ij Ay;have EW:=bA Ay EW;have ES:=bA Ay ES;refine I ?_;(try refine aa (aM (cs:=[.slice P1 KY2.length N0,.slice Rm KY2.length wr,.slice Lk KY2.length No]) (b:=L2.heap.size) (o:=0) dj Z bm Z (aa1 E5 (i:=0) Z) ?_));refine I ?_;refine cl xw (hC2 _ _ _ _ _ _ _ (ia.ext ES T3).des (ht.ext E)) ?_;rintro _ _ CG rfl;have A2:=be CG.2 A2;have Ab:=be CG.2 Ab;have A0:=be CG.2 A0;have A1:=be CG.2 A1;have Af:=ll.ext CG.2 Af;have Am:=be CG.2 Am;have Ao:=be CG.2 Ao;have E5:=be CG.2 E5;have E:=xt E CG.2;have EW:=xt EW CG.2;refine I ?_;refine clb SD (hc:=HB (xs:=[0,1]) (Ar.ext EW) dc) (hk:=?_);rintro W2 _ Ax FR;have Ax:=Ax.2;have A2:=be Ax A2;have Ab:=be Ax Ab;have A0:=be Ax A0;have A1:=be Ax A1;have Af:=ll.ext Ax Af;have Am:=be Ax Am;have Ao:=be Ax Ao;have E5:=be Ax E5;have E:=xt E Ax;have EW:=xt EW Ax;refine aa (cI (b:=w.heap.size) (o:=0) (v:=W2) BU Z Z (bV FR) A1 (qa3 Z) (λ_ B0 W3=>?_))
   have KO9:=(KO.ofExt EW).trans (KO.put B0 A1);have A2:=pb B0 A2;have Ab:=pb B0 Ab;have A0:=pb B0 A0;have Af:=ad3 B0 (Af.ne A1) Af;have Am:=pb B0 Am;have Ao:=pb B0 Ao;have E5:=pb B0 E5;have FR:=av B0 (λe=>by have:=aR FR _ e;omega) FR;have E:=bA B0 E;have a5:=ij B0;refine I ?_;exact⟨KO9,rfl,_,W3,(b9 U FR),E,U,Af⟩
  case done2=>
   rintro D W hD9 ⟨Aw,Ap,E,A2,Ab,A0,A1,Af,Am,Ao⟩ hK9;exact absurd Aw dc
  case stop2=>
   rintro D2 c k W hD9 ⟨rfl,v0,hB,hO,hE0,Lj,E9⟩ hK9;refine I ?_;have K2:D≠D2:=J
   have hB9:=ar.dfr (ad3 (dK W) K2 E9) (ar.dfr hK9 hB);refine PO (v:=v0) hK9 E9 K2 (cC Z ?_) ((dK _).low ((dK _).low hE0 U) U) (Ee (ad3 (dK W) K2 E9) (Ee hK9 hO));refine bI (t:=3) (b:=w.heap.size) (o:=0) kB Z ?_ ?_;exact Z;exact ab4 hB9 Z
 case stop3=>
  rintro D c k W hD9 ⟨⟩
def Ma {lb:List Value}{xs:List Nat}(hg:Enters prog gf)(hc:∀W,aN w W->CL gf lb.toArray W (aH W λv w'=>w'.ownsRow W.heap.size 3 1 v k (ints xs))):
 CL 47 #[.func (.func gf) #[] lb.toArray] w (aH w λv w'=>∃u,v=.tuple #[u,.int .i64 0]/\w'.ownsRow w.heap.size 3 1 u k (ints xs)):=by
 refine mI func47 Z (I ?_);refine al Qs (λA0 Am H=>?_);have E:=Am.2;refine al mi (λ_ Ap O=>?_);have⟨H,E⟩:=bw Ap.2 H E;refine I ?_;refine aa (aE (vf:=[]) (vc:=[pT w.heap.size,pT A0.heap.size]) Z Z ?_);refine aa (jb (lb:=[pT w.heap.size,pT A0.heap.size]) Z ?_);refine I ?_;refine aa (l5 (f:=gf) (lb:=lb) (vs:=[]) hg Z Z (hc _ E) ?_);rintro Af _ Ao G;have⟨H,O,E⟩:=cD Ao.2 H O E;refine aa (cI (b:=w.heap.size) (o:=0) (v:=Af) BU Z Z (bV G) H (qa3 Z) (λ_ A1 A2=>?_));have O:=pb A1 O;have G:=av A1 (λe=>by have:=aR G _ e;omega) G;have E:=bA A1 E;refine SO O (λ_ Ab Aq=>?_);have A2:=pb Ab A2;have G:=av Ab (λe=>by have:=aR G _ e;omega) G;have E:=bA Ab E;refine I ?_;refine ou (b1:=w.heap.size) (b2:=A0.heap.size) (v:=.tuple #[Af,.int .i64 0]) SQ (λ_ _=>Ke) E (de (r1:=.cell 2 22) (r2:=.cell 3 36) Z ?_ ?_) ⟨_,rfl,b9 U G⟩;refine bI (t:=2) (b:=w.heap.size) (o:=0) kB Z ?_ ?_;exact Z;exact ab4 A2 Z;refine bI (t:=3) (b:=A0.heap.size) (o:=0) BV Z ?_ ?_;exact Z;exact ab4 Aq Z
def Mb {L V:Rows}{ys:List R}(hD:eZ w A C Y CY B CB L V ys)(ok:qi L V ys)(h3:ys.length=3){la lb:Int}(ql:Q9 la lb)(h12:pl<=12)(hl1:0<=aQ (la*1000000) (1*lb))(hl2:aQ (la*2) (1*lb)<=0){KM3 KC3 KM2 KC2:Rows}{KY3 KY2:List R}(pe3:qd L V ys [0,1,2] KM3 KC3 KY3)(ok3:qi KM3 KC3 KY3)(pe2:qd L V ys [0,1] KM2 KC2 KY2)(ok2:qi KM2 KC2 KY2)(hC3:∀A C Y CY B CB W,eZ W A C Y CY B CB KM3 KC3 KY3->Tb W->CL 19 #[.agg #[.slice A KY3.length C,.slice Y KY3.length CY,.slice B KY3.length CB],QV la lb,.int .i64 pl] W (aH W λv _=>v=.tuple #[.int .i64 2,.int .i64 0]))(hC2:∀A C Y CY B CB W,eZ W A C Y CY B CB KM2 KC2 KY2->Tb W->CL 19 #[.agg #[.slice A KY2.length C,.slice Y KY2.length CY,.slice B KY2.length CB],QV la lb,.int .i64 pl] W (aH W λv _=>v=.tuple #[.int .i64 1,.int .i64 0]))(ht:Tb w):
 CL 21 #[.agg #[.slice A ys.length C,.slice Y ys.length CY,.slice B ys.length CB],QV la lb,.int .i64 pl] w (aH w λv w'=>∃u,v=.tuple #[u,.int .i64 0]/\w'.ownsRow w.heap.size 3 1 u 2 (ints [0,1])):=by
 obtain⟨_,H,_⟩:=hD.m;obtain⟨_,_⟩:=hD.y;obtain⟨_,G,_⟩:=hD.v;refine rt func21 Z (I ?_);refine bx (λAb Af O=>?_);have E:=Af.2;refine bx (λA1 Am A0=>?_);have⟨O,E⟩:=bw Am.2 O E;refine bx (λ_ Aq Ar=>?_);have⟨O,A0,E⟩:=cD Aq.2 O A0 E;refine I ?_;refine aa (aE (vf:=[]) (vc:=[pT Ab.heap.size,pT A1.heap.size,pT w.heap.size]) Z Z ?_);refine cl SB (Ma (gf:=48) (lb:=[pT Ab.heap.size,pT A1.heap.size,pT w.heap.size]) SC (λW q=>HC (hD.ext (xt E q)) ok h3 ql h12 hl1 hl2 pe3 ok3 pe2 ok2 hC3 hC2 (be q A0) (be q Ar) (be q O) (ht.ext (xt E q)))) ?_;rintro _ _ Ao ⟨A2,rfl,Ap⟩;have E:=xt E Ao.2;refine I ?_;refine aa (aJ (v:=A2) Z ?_);refine I ?_;refine xC (v:=.tuple #[A2,.int .i64 0]) (de (r1:=.tmp 6) (r2:=.tmp 7) Z ?_ ?_) E ⟨_,rfl,b9 U Ap⟩;exact aL (t:=6) Wf _;exact aL (t:=7) Wf _
section
variable {r:Option Nat}{ds:List Deferred}{Q:Exit->Act->World->Prop}{K:Act->World->Prop}
variable {d ty:Nat}{pos:String}{af:Array Edge}{g:Option (Nat×Bool)}{x y:Operand}{t':TypeId}{a b:Int}
def UO {c:Int}(hx:ev N e x=.int .i64 a)(hy:ev N e y=.int .i64 b)(hc:IntKind.i64.wrap (a+b)=c)(hk:K (act N (upd e d (.int .i64 c)) ds) w):
 Oper.wpIn (Fw r) n P ⟨some d,.binOp .add t x y t',ty,pos,af,g⟩ (act N e ds) w K Q:=
 dQ hx hy (ca ..) (by subst hc;simp[binOp,Op.intArith]) hk
end
def kD (xs:List Int)(i:Nat):Int:=if xs.length=0 then 3*(i:Int)+1 else IntKind.i64.wrap (xs.getD (i%xs.length) 0+((i/xs.length:Nat):Int))
def wrap64 (z:Int):In64 (IntKind.i64.wrap z):=by
 have h:=Int.emod_nonneg z (show(2:Int)^64≠0 by decide)
 have h2:=Int.emod_lt_of_pos z (show(0:Int)<2^64 by decide)
 have e:IntKind.i64.wrap z=if(true&&decide (z%2^64≥2^(64-1)))=true then z%2^64-2^64 else z%2^64:=rfl
 rw[e]
 unfold In64
 by_cases hc:(true&&decide (z%2^64≥2^(64-1)))=true
 · rw[if_pos hc];simp at hc;omega
 · rw[if_neg hc];simp at hc;omega
def sZ {xs:List Int}(hi:i<=1000):In64 (kD xs i):=by
 unfold kD;split
 · unfold In64;omega
 · exact wrap64 _
def Mc (a b:Nat):(a:Int).tdiv (b:Int)=((a/b:Nat):Int):=rfl
def jG (c m:Int)(w:World)(hc:In64 c)(hm:0<m):
 CL 79 #[.int .i64 c,.int .i64 m] w (aH w λv w'=>v=.int .i64 (bL c m)):=by
 unfold In64 at hc;refine aC func79 Z (I ?_);by_cases cf:c<0;refine I ?_;refine gR ?_;refine aa (zg (a:=c+1) Z j0 ?_);refine I ?_;refine aa (mc (a:=-(c+1)) (b:=m) (c:=bL c m) Z Z U U (AC cf) ?_);refine I ?_;exact am (t:=4) (v:=.int .i64 (bL c m)) Z (aa0 _) Z Z;refine I ?_;refine aa (mc (a:=c) (b:=m) (c:=bL c m) Z Z U U (AD cf) ?_);refine I ?_;exact am (t:=4) (v:=.int .i64 (bL c m)) Z (aa0 _) Z Z
def lQ (c m:Int)(w:World)(hc:In64 c)(hm:0<m):
 CL 12 #[.int .i64 c,.int .i64 m] w (aH w λv w'=>v=.int .i64 (bL c m)):=by
 unfold In64 at hc;refine aC func12 Z (I ?_);by_cases cf:c<0;refine I ?_;refine gR ?_;refine aa (zg (a:=c+1) Z j0 ?_);refine I ?_;refine aa (mc (a:=-(c+1)) (b:=m) (c:=bL c m) Z Z U U (AC cf) ?_);refine I ?_;exact am (t:=4) (v:=.int .i64 (bL c m)) Z (aa0 _) Z Z;refine I ?_;refine aa (mc (a:=c) (b:=m) (c:=bL c m) Z Z U U (AD cf) ?_);refine I ?_;exact am (t:=4) (v:=.int .i64 (bL c m)) Z (aa0 _) Z Z
def dJ (a b:Int)(ha:-100000000<=a/\a<=100000000)(hb:-100000000<=b/\b<=100000000):
 CL 11 #[.int .i64 a,.int .i64 b] w (aH w λv w'=>v=.agg #[S (bM a b).1,S (bM a b).2]):=by
 refine aC func11 Z (I ?_);refine al aZ (λ_ A0 G=>?_);have E:=A0.2;refine I ?_;refine clb If (hc:=AF a b _ U U) (hk:=?_);rintro _ _ Ab rfl;have⟨G,E⟩:=bw Ab.2 G E;refine I ?_;refine al aZ (λ_ Af Am=>?_);have⟨G,E⟩:=bw Af.2 G E;refine SA Am (λ_ A2 H=>?_);have⟨G,E,_⟩:=kC A2 G E;refine I ?_;refine SA G (λ_ O A1=>?_);have H:=pb O H;have E:=bA O E;refine I ?_;refine ba (v:=.agg #[S ((bM a b).1),S ((bM a b).2)]) (cC  rfl ?_) E Z;refine ak (t:=4) (cs:=[S ((bM a b).1),S ((bM a b).2)]) (b:=w.heap.size) (o:=0) iT Z bX ?_ ?_;exact Z;exact aa1 A1 (i:=0) Z
def s5 {xs:List Int}(hi:i<=1000)(hx:Rw w lo X (nk xs)):
 CL 80 #[.slice X xs.length CX,.int .i64 i] w (aH w λv w'=>v=.int .i64 (kD xs i)):=by
 refine aC func80 Z (I ?_);by_cases cf:((xs.length:Nat):Int)=0;refine I ?_;refine aa (ra (a:=3) (b:=(i:Int)) (c:=3*(i:Int)) Z Z j0 Z ?_);refine gR (I ?_);exact am (t:=4) (v:=.int .i64 ((3*(i:Int))+1)) Z (aa0 _) (by unfold kD;split <;>first|rfl|omega) Z
 refine I ?_;refine bP 11 ?_;refine sf ?_;refine aB (λ_ _ _ _=>by refine aa (Cq (a:=(i:Int)) (b:=((xs.length:Nat):Int)) (c:=((i%xs.length:Nat):Int)) Z Z U Z ?_);refine I ?_;exact aK) ?_
 refine aB (λ_ _ A0 _=>by refine aa (aA (i:=i%xs.length) (oo:=(cL X+(i%xs.length))) kB ji Z (Fe (hx.ext A0) (i:=i%xs.length) (Nat.mod_lt _ U)).1 (dA Z U) (Nat.mod_lt _ U) GS ?_);refine I ?_;exact aK) ?_
 refine aB (λ_ _ G _=>by have A1:=Fe (hx.ext G) (i:=i%xs.length) (Nat.mod_lt _ U);refine I ?_;exact aK) ?_;refine sf ?_;refine aB (λ_ _ _ _=>by have H:i/xs.length<=i:=Nat.div_le_self _ _;obtain⟨dq,hdq⟩:∃dq:Nat,dq=i/xs.length:=⟨_,rfl⟩;refine aa (Cp (a:=(i:Int)) (b:=((xs.length:Nat):Int)) (c:=((i/xs.length:Nat):Int)) Z Z U (Mc _ _) (by rw[<-hdq]at H ⊢;unfold In64;omega) ?_);refine I ?_;exact aK) ?_;refine sf ?_;intro _ _ E _;have O:=E.2;refine aa (UO (a:=(xs).getD (i%xs.length) 0) (b:=((i/xs.length:Nat):Int)) (c:=IntKind.i64.wrap (xs.getD (i%xs.length) 0+((i/xs.length:Nat):Int))) Z Z Z ?_);refine I ?_;exact am (t:=4) (v:=.int .i64 (IntKind.i64.wrap (xs.getD (i%xs.length) 0+((i/xs.length:Nat):Int)))) Z O (by unfold kD;split <;>first|rfl|omega) Z
end
section
set_option maxRecDepth 100000
open Go.ChangeShapes Go.WideShapes Go.ChangeAt Go.Deep Proofs.Tryz
def ZA:ownKnob prog.godebug=none:=by kernel_rfl
def XX:laidOutB prog=true:=by kernel_rfl
def c3:prog.cellsOf 3=1:=by kernel_rfl
def Md {o:Nat}:W.cell? ((⟨b,o,none⟩:Addr).add i)=W.cell? ⟨b,o+i,none⟩:=by unfold Addr.add;split <;>simp_all
def XY : prog.globalNamed "internal/strconv.uint64pow10" = some 4 := by kernel_rfl
def ZB:(prog.globals[4]?).map (·.type)=some 306:=by kernel_rfl
def XZ:(((begin prog (λ_ _=>0) default).world.heap[4]?).bind Obj.row?).map (·.2)=some 306:=by kernel_rfl
def ZC:∃z,(((begin prog (λ_ _=>0) default).world.heap[4]?).bind Obj.row?)=some (z,306):=by
 obtain⟨⟨z,t⟩,h,e⟩:=Option.map_eq_some_iff.1 XZ
 cases e;exact⟨z,h⟩
def ZD:4<prog.globals.size:=of_decide_eq_true q0
def ZE:Rows.laid_internal_strconv_uint64pow10=(.agg (Lib.pow10Tab.map λz=>DataW.lit (.int .u64 z)):DataW Unit):=by kernel_rfl
def cU:prog.cellsOf 259=1:=by kernel_rfl
def uU:prog.underlying 259=some (.int .u64):=by kernel_rfl
def cA:prog.cellsOf 306=20:=by kernel_rfl
def UP:Lib.pow10Tab.length=20:=by kernel_rfl
def q5 {H:Type}{enc:TypeId×Value->H}{hd:Bool}{ts:List TypeId}{ds:List (DataW H)}{ps:List MemPlace}(h:DataW.TrodAll enc P w base sp hd (t::ts) vs ds ps):∃v vs' d ds' p q,vs=v::vs'/\ds=d::ds'/\DataW.Trod enc P w base sp hd t v d p/\DataW.TrodAll enc P w base sp hd ts vs' ds' q:=by
 match vs,ds,h with
 | v::vs',d::ds',h=>
   obtain⟨p,q,h1,h2,_⟩:=h
   exact⟨v,vs',d,ds',p,q,rfl,rfl,h1,h2⟩
def Me {H:Type}{enc:TypeId×Value->H}{hd:Bool}{ds:List (DataW H)}{ps:List MemPlace}(h:DataW.TrodAll enc P w base sp hd [] vs ds ps):vs=[]/\ds=[]:=by
 match vs,ds,h with
 |[],[],_=>exact⟨rfl,rfl⟩
def xc {H:Type}{enc:TypeId×Value->H}{W W':World}{sp':Nat->Bool}(k:aN W W'):∀{ts:List TypeId} {vs:List Value} {ds:List (DataW H)} {ps:List MemPlace},
 (∀t∈ts,prog.readableRec t=true/\t<prog.types.size)->DataW.TrodAll enc prog W 0 (λ_=>true) true ts vs ds ps->(∀p∈ps,p.block<W.heap.size)->(∀p∈ps,sp' p.block=true)->DataW.TrodAll enc prog W' 0 sp' true ts vs ds ps
 |[],[],[],_,_,h,_,_=>h
 | t::ts,v::vs,d::ds,ps,hr,h,hl,hs=>by
   obtain⟨p,q,h1,h2,rfl⟩:=h
   refine⟨p,q,WideElems.Trod_stays XX (hr t zd).1 (hr t zd).2 h1 (λx hx=>?_) (λx hx=>hs x (by simp[hx])),xc k (λu hu=>hr u (by simp[hu])) h2 (λx hx=>hl x (by simp[hx])) (λx hx=>hs x (by simp[hx])),rfl⟩
   have hb:=hl x (by simp[hx])
   cases x with
   |cell b o=>exact World.cell?_of_block (k.block b hb)
   |map b=>exact k.block b hb
 |[],[],_::_,_,_,h,_,_=>h.elim
 |[],_::_,_,_,_,h,_,_=>h.elim
 |_::_,[],_,_,_,h,_,_=>h.elim
 |_::_,_::_,[],_,_,h,_,_=>h.elim
def PP {n:Int}(h:(Lit.int .i64 n).wf=true):In64 n:=by
 simp only[Lit.wf,Bool.and_eq_true,decide_eq_true_eq]at h
 have e1:IntKind.i64.min=-9223372036854775808:=rfl
 have e2:IntKind.i64.max=9223372036854775807:=rfl
 rw[e1,e2]at h
 unfold In64;omega
def ZF:maxLen=9223372036854775807:=by decide +kernel
section
variable {H:Type}{enc:TypeId×Value->H}{fuel b0:Nat}{cs:List Value}{x:DataW H×List MemPlace}
def PQ {e:TypeId}{a:Addr}{len cap:Nat}(ht:prog.underlying t=some (.slice e))(h:Value.okWide prog W .any b0 t (.slice (some a) len cap)):a.spot=none/\a.block<W.heap.size:=by
 simp only[Value.okWide,ht,Cell.okWide,Cell.ok,World.has]at h
 obtain⟨_,_,_,hs,_,_,hsh,_⟩:=h
 refine⟨hs,?_⟩
 unfold World.shape? at hsh
 cases hh:W.heap[a.block]? with
 |none=>rw[hh]at hsh;cases hsh
 |some o=>exact(Array.getElem?_eq_some_iff.1 hh).1
def PR (hv:Value.okWide prog W .any b0 22 v)(h:DataW.trod enc prog W base (λ_=>true) true fuel 22 v.cells.toList=some x):
 ∃(A:Option Addr) (cap:Nat) (zs:List Int),v=.slice A zs.length cap/\Rw W 0 A (nk zs)/\(∀z∈zs,In64 z)/\zs.length<=cap:=by
 obtain⟨A,len,cap,rfl⟩:=okWide_slice underlying22 hv
 rcases open_ints underlying22 underlying3 c3 h with⟨hc,_⟩|⟨a,len',cap',zs,hc,_,hl,hm,O,_,hcell,hwf⟩
 · simp[Value.cells]at hc;obtain⟨rfl,rfl,rfl⟩:=hc
   exact⟨none,0,[],rfl,Rw.nil W 0,λz E=>by simp at E,Nat.le_refl _⟩
 simp[Value.cells]at hc
 obtain⟨rfl,rfl,rfl⟩:=hc
 obtain⟨hs,hb⟩:=PQ underlying22 hv
 have hlen':zs.length=cap:=by simpa using O
 have A0:=ZF
 have ht:(zs.take len).length=len:=by simp;omega
 refine⟨some a,cap,zs.take len,by rw[ht],⟨λj u hu=>?_,λ_ _=>qa7 _,λ_ e=>by cases e;exact hb⟩,λz E=>?_,by rw[ht];exact hl⟩
 · have G:j<len:=by
    have:=(List.getElem?_eq_some_iff.1 hu).1
    simp[nk]at this;omega
   have h1:=hcell j J
   obtain⟨b,o,_⟩:=a
   cases hs
   rw[Md]at h1
   refine⟨b,o,rfl,h1.trans ?_⟩
   rw[<-hu]
   simp[nk,List.getElem?_take,G,List.getD,show j<zs.length by omega]
 · have:=hwf z (List.mem_of_mem_take E)
   simp only[Lit.wf,Bool.and_eq_true,decide_eq_true_eq]at this
   have e1:IntKind.i64.min=-9223372036854775808:=rfl
   have e2:IntKind.i64.max=9223372036854775807:=rfl
   rw[e1,e2]at this
   unfold In64;omega
def X1:prog.cellsOf 24=3:=by kernel_rfl
def X3:prog.cellsOf 22=1:=by kernel_rfl
def X4:prog.cellTypes prog.depth 24=some [3,3,22]:=by kernel_rfl
def PS (hv:Value.okWide prog W .any b0 24 v)(h:DataW.trod enc prog W base (λ_=>true) true fuel 24 v.cells.toList=some x):
 ∃(a b:Int) (A:Option Addr) (cap:Nat) (zs:List Int),v=.agg #[.int .i64 a,.int .i64 b,.slice A zs.length cap]/\In64 a/\In64 b/\Rw W 0 A (nk zs)/\(∀z∈zs,In64 z)/\zs.length<=cap:=by
 unfold Value.okWide at hv
 rw[underlying24]at hv
 obtain⟨cs,rfl,hs,_,Af,_,A2⟩:=hv
 rw[X1]at hs
 obtain rfl:=qb5 (X4.symm.trans Af)
 obtain⟨xs,m,_,_,_,hl,hx⟩:=DataW.trod_struct underlying24 h
 obtain⟨l⟩:=cs
 match l,hs with
 | [u0,u1,u2],_=>
   have G:DataW.trod enc prog W base (λ_=>true) true m 3 (([u0,u1,u2].drop 0).take (prog.cellsOf 3))=xs[0]?:=hx 0 _ Z
   have h1:DataW.trod enc prog W base (λ_=>true) true m 3 (([u0,u1,u2].drop 1).take (prog.cellsOf 3))=xs[1]?:=hx 1 _ Z
   have h2:DataW.trod enc prog W base (λ_=>true) true m 22 (([u0,u1,u2].drop 2).take (prog.cellsOf 22))=xs[2]?:=hx 2 _ Z
   rw[c3]at G h1
   rw[X3]at h2
   have Aq:xs.length=3:=hl
   rw[List.getElem?_eq_getElem (show 0<xs.length by omega)]at G
   rw[List.getElem?_eq_getElem (show 1<xs.length by omega)]at h1
   rw[List.getElem?_eq_getElem (show 2<xs.length by omega)]at h2
   obtain⟨a,E,_,A1⟩:=DataW.trod_int underlying3 G
   obtain⟨b,O,_,Am⟩:=DataW.trod_int underlying3 h1
   have E:u0=.int .i64 a:=by simpa[Value.cells]using E
   have O:u1=.int .i64 b:=by simpa[Value.cells]using O
   obtain⟨u,hu,hc⟩:=A2 2 u2 Z
   have hu:u=22:=by simpa using hu.symm
   subst hu
   have A0:Value.okWide prog W .any b0 22 u2:=by
    unfold Value.okWide;rw[underlying22];exact hc
   obtain⟨A,_,cap,e2⟩:=okWide_slice underlying22 A0
   have h2':DataW.trod enc prog W base (λ_=>true) true m 22 (Value.cells u2).toList=some xs[2]:=by
    rw[<-h2,e2];rfl
   obtain⟨A,cap,zs,Ab,hr,Ao,Ap⟩:=PR A0 h2'
   exact⟨a,b,A,cap,zs,by rw[E,O,Ab],PP A1,PP Am,hr,Ao,Ap⟩
end
def gEr : prog.globalNamed "yardstick/adjust.errFails" = some 0 := by kernel_rfl
def tEr:(prog.globals[0]?).map (·.type)=some 96:=by kernel_rfl
def ZG:(((begin prog (λ_ _=>0) default).world.heap[0]?).bind Obj.row?).map (·.2)=some 96:=by kernel_rfl
def zEr:∃z,(((begin prog (λ_ _=>0) default).world.heap[0]?).bind Obj.row?)=some (z,96):=by
 obtain⟨⟨z,t⟩,h,e⟩:=Option.map_eq_some_iff.1 ZG
 cases e;exact⟨z,h⟩
def nEr:0<prog.globals.size:=of_decide_eq_true q0
def Mf : "*errors.errorString" = "*" ++ "errors.errorString" := by decide +kernel
def PT (u : TypeId)(h : prog.typeName? 3 u = some "*errors.errorString") : u = 316 :=
 typeName_ptr_named (P := prog) (nm := "errors.errorString") q0 q0 MT u (by rw [← Mf]; exact h)
def UQ {r : List (String × DataW Unit)}(hS : W.ShapedOpen prog)(h : laidMet prog (("yardstick/adjust.errFails", .iface "*errors.errorString" (.ptr (.agg [.lit (.string [97, 100, 106, 117, 115, 116])]))) :: r) W) : ∃ a, Er W a := by
 obtain⟨a,s,hv,_⟩:=laid_sentinel h gEr tEr underlying96 PT underlying316 underlying318 Z Z underlying9 q0 q0
 obtain⟨z,G⟩:=zEr
 obtain⟨cs',E,_⟩:=hS.1 0 z 96 nEr G
 have hc:cs'=#[.iface 316 (.pointer (some a))]:=by
  simp only[World.var?,gEr,Option.bind_some,E]at hv
  exact qb5 hv
 subst hc
 exact⟨a,E⟩
end
end Go.Proofs.YtlmihmlnpjkblaaGreatDoor
