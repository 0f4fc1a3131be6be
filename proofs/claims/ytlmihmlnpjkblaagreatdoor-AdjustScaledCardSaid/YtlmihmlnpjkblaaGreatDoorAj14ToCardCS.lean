/- Part of the proof of a statement about an adjustment. -/
import Derived.Test.YtlmihmlnpjkblaaGreatDoorAj10ToAjNS
import Derived.Stop.LaidErr
import Derived.Test.YtlmihmlnpjkblaaGreatDoorTie
import Derived.Test.YtlmihmlnpjkblaaGreatDoorCards
import Derived.ProofKit
import Derived.OpenShut
import Derived.LaidMore
import Derived.Lay
import Derived.SevenTiedAt
import Derived.Stop.Joined
import Derived.Deep.SlicePairs
import Derived.Deep.Frames
import Derived.Deep.Onto
import Derived.WideKeyArgs
import Derived.SizedLaws
set_option linter.all false
namespace Go.Proofs.YtlmihmlnpjkblaaGreatDoor
open Go Go.Eng Go.RowKit Proofs.Tryz
variable {bs l:List Nat}{xs vs:List Value}{n yl b2 b3 b4 b5 base k s ts a ta sz b i j M n0 b1 lo c N D1 D2 C CY CB pl gf CX o:Nat}{ls sp:Nat->Bool}{e:Nat->Value}{A Y B X:Option Addr}{P:Program}{el t:TypeId}{v v':Value}{W W' w0 w w1 w':World}
section
attribute [local irreducible] wpListIn Code.wpIn Oper.wpIn Exit.then Exit.inBlock Exit.noGoto
set_option maxHeartbeats 40000000
def HE (n m yl b2 b3 b4 b5:Nat)(W:World):Prop:=
 ar W b2 3 #[.int .i64 n]/\ar W b3 149 #[.func (.yield yl) #[] #[]]/\ar W b4 3 #[.int .i64 m]/\ar W b5 150 #[.func (.func 108) #[] #[pT b2,pT b3,pT b4,pT b5]]
def HE.kpc {m:Nat}(h:HE n m yl b2 b3 b4 b5 W)(k:jh bs W W')(hb:b2∉bs/\b3∉bs/\b4∉bs/\b5∉bs):HE n m yl b2 b3 b4 b5 W':=
 ⟨k.blk hb.1 h.1,k.blk hb.2.1 h.2.1,k.blk hb.2.2.1 h.2.2.1,k.blk hb.2.2.2 h.2.2.2⟩
def FW.kpc {x:Value}(h:FW w0 base el v k xs x s ts a ta ls e w):jh (bl v) w0 w:=by
 cases ha:ls a with
 |false=>exact jh.ofE (h.1 ha).1
 | true=>
   obtain⟨_,_,p,q,r⟩:=h.2 ha
   exact(jh.ofE p).trans (q.kpc.trans (jh.ofE r))
def lT (h:w.ownsRow base el sz v k xs)(hb:b<base):b∉bl v:=λhm=>by
 have:=(y6 h (vu.1 hm)).1;omega
def jh.nil (k:jh [] W W'):jh bs W W':=⟨k.size,λ_ h=>k.blk Rg h⟩
def vw (l:List Nat)(i:Nat):ints (l++[i])=ints l++[.int .i64 i]:=by simp[ints]
def Mf (h:w.ownsRow base el 1 v (l.length+1) (ints l++[.int .i64 i])):w.ownsRow base el 1 (.slice (sA v) (l++[i]).length (sC v)) (l++[i]).length (ints (l++[i])):=by
 have e:=dk h
 rw[vw,List.length_append,List.length_singleton]
 rwa [<-e]
def HF {α:Type}{a b:List α}{d:α}(h:j<a.length):(a++b).getD j d=a.getD j d:=by simp[List.getD,List.getElem?_append_left h]
def HG {α:Type}{a b:List α}{d:α}:(a++b).getD (a.length+j) d=b.getD j d:=by simp[List.getD,List.getElem?_append_right]
def DO (h:W.ownsRow base el 1 (.slice (sA v') (l++[i]).length (sC v')) (l++[i]).length (ints (l++[i])))(hA:m7 w w1 base el v v' l.length (ints l) (.int .i64 i)):W.ownsRow base el 1 v' (l.length+1) (ints l++[.int .i64 i]):=by
 have e:=dk hA.own
 rw[vw,List.length_append,List.length_singleton]at h
 rw[e];exact h
def X8 (hA:m7 w w1 base el v v' l.length (ints l) (.int .i64 i))(k:jh (bl (.slice (sA v') (l++[i]).length (sC v'))) W W'):jh (bl v') W W':=by
 have e:=dk hA.own
 rw[List.length_append,List.length_singleton]at k
 rw[e];exact k
def Rw.blk1 {x:Value}(h:ar w b t #[x]):Rw w 0 (some ⟨b,0,none⟩) [x]:=by
 refine⟨λj u hu=>⟨b,0,rfl,?_⟩,λE e=>qa7 _,λE e=>by cases e;exact bt h⟩
 match j,hu with
 |0,hu=>cases hu;exact ab6 h Z
def FW.lit {x:Value}(h:FW w0 base el v k xs x s ts a ta ls e w)(hn:ls a=false)(hs:ls s=true):aO w0 w/\∃b,e ts=.slice (some ⟨b,0,none⟩) 1 1/\Rw w 0 (some ⟨b,0,none⟩) [x]:=⟨(h.1 hn).1,(h.1 hn).2 hs⟩
set_option maxRecDepth 100000 in
def xl {m first:Nat}{JT Jx:Nat->World->Prop}{S:Nat->List Nat}(hbx:b2<base/\b3<base/\b4<base/\b5<base)(hn0:n0<=base)(hm:m<=100)(hJ0:∀k,j4 n0 (JT k))(hY:∀k v W1,k<M->JT k W1->(∃A c lo,v=.slice A (S k).length c/\Rw W1 lo A (ints (S k)))->YieldAt Fence.wide 7 prog yl #[v] W1 λe W'=>(e=.returned (.bool true)/\JT (k+1) W'/\jh [] W1 W')\/(e=.returned (.bool false)/\Jx (k+1) W'))(hfm:first<=m)(ih:∀i,first<=i->i<m->Me prog 108 [pT b2,pT b3,pT b4,pT b5] (HE n m yl b2 b3 b4 b5) base 3 JT Jx S M n m (i+1)):
 Me prog 108 [pT b2,pT b3,pT b4,pT b5] (HE n m yl b2 b3 b4 b5) base 3 JT Jx S M n m first:=by
 intro A l A1 k Wa an Rm ho hbase Af hkM hS;obtain⟨Av,As,Ar,Ao⟩:=Rm;have E:jh (bl (Value.slice A l.length A1)) Wa Wa:=jh.refl' Wa;have a8:l.length<=100:=J
 refine callsIn_wide.1 (Eu (args:=[.slice A l.length A1,.int .i64 first,pT b2,pT b3,pT b4,pT b5]) func108 Z ?_);refine I ?_;by_cases fy:((l.length:Nat):Int)=(n:Int);have Aq:l.length=n:=J
 refine I ?_;have hG:zn n m first l=[l]:=if_pos Aq;rw[hG]at hkM hS;have hSk:S k=l:=hS 0 Nat.one_pos;have hkM2:k<M:=by have:k+1<=M:=hkM;omega
 refine aa (xR (l:=yl) (vs:=[.slice A l.length A1]) Z (av Z Z) (hY k _ Wa hkM2 Af ⟨A,A1,base,by rw[hSk],by rw[hSk];exact fE ho⟩) ?_);rintro ad a5 (⟨rfl,Ap,G⟩|⟨rfl,hx⟩);refine I ?_;exact g7 (v:=.bool true) (ci Z (aM (t:=8) RM _)) (.inl ⟨rfl,by rw[hG];exact Ap,y5 ho G (λg _=>by simp),G.nil⟩);refine I ?_;exact g7 (v:=.bool false) (ci Z (aM (t:=8) RM _)) (.inr ⟨rfl,_,hx⟩);have Aq:¬l.length=n:=J
 refine I ?_;have hG:zn n m first l=H9 n (m-first) first l:=if_neg Aq;rw[hG]at hkM hS;refine b7 [(8,9),(18,31)] (λNe e W=>∃i:Nat,∃q:Nat,(m-i=Ne)/\(e 9=.int .i64 i)/\(first<=i)/\(i<=m)/\(base<=W.heap.size)/\(q+(H9 n (m-i) i l).length<=M)/\(q+(H9 n (m-i) i l).length=k+(H9 n (m-first) first l).length)/\(∀j,j<(H9 n (m-i) i l).length->S (q+j)=(H9 n (m-i) i l).getD j [])/\(jh (bl (Value.slice A l.length A1)) Wa W)/\(ar W b2 3 #[.int .i64 n])/\(ar W b3 149 #[.func (.yield yl) #[] #[]])/\(ar W b4 3 #[.int .i64 m])/\(ar W b5 150 #[.func (.func 108) #[] #[pT b2,pT b3,pT b4,pT b5]])/\(JT q W)/\(W.ownsRow base 3 1 (Value.slice A l.length A1) l.length (ints l))) (m-first) ⟨first,k,rfl,rfl,(qa0 _),hfm,U,hkM,rfl,hS,E,Av,As,Ar,Ao,Af,ho⟩ ?_;rintro _ _ ny ⟨i,q,rfl,a3,T3,a2,X2,hqM,hq,hSq,Az,Av,As,Ar,Ao,E1,H⟩;by_cases hlt:i<m;refine I ?_;refine Hz o7 7 [23,24,25,26,27,28,29] [some (23,.func (.func 108) #[] #[pT b2,pT b3,pT b4,pT b5]),some (24,.slice A l.length A1),some (25,.int .i64 i),none,none,some (28,.int .i64 i),some (29,.int .i64 ((i+1:Nat):Int))] (FW ny base 3 (Value.slice A l.length A1) l.length (ints l) (.int .i64 i) 3 26 4 27) FW.start Hx Hx Hx ?_ ?_;refine⟨λWV _ _ od _ E0 _ _ _=>?_,?_⟩;obtain⟨WV,rfl⟩:=b6 od
 have a9:=E0.kpc.blk (lT H U) Ao;refine I ?_;exact X7 Z E0;refine⟨λVW _ _ S0 _ P0 _ _ _=>?_,?_⟩;obtain⟨VW,rfl⟩:=b6 S0;refine I ?_;exact X7 Z P0;refine⟨λE6 _ _ L1 _ KY _ _ _=>?_,?_⟩;obtain⟨E6,rfl⟩:=b6 L1;refine I ?_;exact X7 Z KY;refine⟨λwr _ _ K3 E9 Vm _ _ _=>?_,?_⟩;obtain⟨wr,rfl⟩:=b6 K3;have Li:=cV (E9 2 _ _ Z Z);refine aa (XZ (vs:=[(0,.int .i64 i)]) (cells:=#[.int .i64 i]) kB kI (cj Li Z) dc dc Hx (λ_ Lj L4=>?_));refine I ?_;exact ZK Z Vm Lj.2 (Rw.blk1 L4);refine⟨λGC _ _ EW Kp B2 _ Ax X0=>?_,?_⟩;obtain⟨GC,rfl⟩:=b6 EW;obtain⟨Cr,G0,E7,La⟩:=B2.lit Ax (X0 3 Z);have K2:=cV (Kp 1 _ _ Z Z);refine aa (Va (b:=G0) (lo:=0) kB kI Z (hx:=by exact K2) (ab Cr H) (hy:=by exact E7) La Z U dc (qa8 U (bz Cr)) (λ_ _ H2=>?_));refine I ?_;exact ZL Z B2 Ax H2;refine⟨λN0 _ _ T2 _ ES _ _ _=>?_,?_⟩;obtain⟨N0,rfl⟩:=b6 T2;refine I ?_;exact X7 Z ES;refine⟨λIx _ _ L2 W3 P2 _ _ _=>?_,?_⟩;obtain⟨Ix,rfl⟩:=b6 L2;have a0:=cV (W3 5 _ _ Z Z);refine fO (I ?_);exact X7 Z P2;exact trivial;intro A0 W2 _ E5 L3 nm A2;obtain⟨A0,rfl⟩:=b6 L3;obtain⟨_,_,Am,O,Aw⟩:=A2.2 (E5 4 Z);have ac:=A2.kpc.size;have Ab:=ab Aw (Mf (O).own)
 have CG:=A2.kpc.blk (lT H U) Av;have B1:=A2.kpc.blk (lT H U) As;have C0:=A2.kpc.blk (lT H U) Ar;have B0:=A2.kpc.blk (lT H U) Ao;have Q0:=(hJ0 _).ext Aw ((O).stab (ab Am H) (hJ0 _) hn0 ((hJ0 _).ext Am E1));have W0:A0 27=.slice (sA (A0 27)) ((l++[i]).length) (sC (A0 27)):=by rw[List.length_append,List.length_singleton];exact dk (O).own
 have hstep:=Md (n:=n) (l:=l) hlt;rw[hstep]at hSq;have H4:=qb2 List.length hstep;rw[List.length_append]at H4;have Lk:=cV (nm 0 _ _ Z Z);have S9:=cV (nm 6 _ _ Z Z);refine aa (Bs (vs:=[.slice (sA (A0 27)) ((l++[i]).length) (sC (A0 27)),.int .i64 ((i+1:Nat):Int)]) (lb:=[pT b2,pT b3,pT b4,pT b5]) IT (hx:=by exact Lk) (hv:=by exact(av W0 (av S9 Z))) (ih i T3 hlt (sA (A0 27)) (l++[i]) (sC (A0 27)) q W2 KK ⟨CG,B1,C0,B0⟩ Ab U Q0 U (λj Af=>by rw[hSq j (by rw[List.length_append];omega),HF Af])) ?_);rintro v a4 (⟨rfl,Ap,KM,G⟩|⟨rfl,hx⟩);have Ay:=(jh.ofE Aw).trans G;have P1:=G.blk (lT Ab U) CG;have KC:=G.blk (lT Ab U) B1;have E4:=G.blk (lT Ab U) C0;have H3:=G.blk (lT Ab U) B0;have V2:=(O).back (ab Am H) (DO KM O) (X8 O Ay);have No:=Az.trans ((jh.ofE Am).trans ((O).inner (X8 O Ay)));have a6:=G.size;refine I ?_;refine fO (I ?_);exact bF ⟨i+1,q+(zn n m (i+1) (l++[i])).length,rfl,rfl,U,U,U,U,U,(λj Af=>by have h:=hSq ((zn n m (i+1) (l++[i])).length+j) (by rw[List.length_append];omega);rw[HG]at h;rw[<-h,Nat.add_assoc]),No,P1,KC,E4,H3,Ap,V2⟩;refine I ?_;exact g7 (v:=.bool false) (ci Z (aM (t:=8) RM _)) (.inr ⟨rfl,hx⟩);have FR:=P6 (n:=n) (l:=l) hlt
 rw[FR]at hq;refine I ?_;exact g7 (v:=.bool true) (ci Z (aM (t:=8) RM _)) (.inl ⟨rfl,by rw[hG,<-hq];exact E1,H,Az⟩)
set_option maxRecDepth 100000
def ZM (n m:Nat)(k:Nat)(v:Value)(W:World):Prop:=∃A c lo,v=.slice A ((zn n m 0 []).getD k []).length c/\Rw W lo A (ints ((zn n m 0 []).getD k []))
def FX {m:Nat}{JT Jx:Nat->World->Prop}{S:Nat->List Nat}(hbx:b2<base/\b3<base/\b4<base/\b5<base)(hn0:n0<=base)(hm:m<=100)(hJ0:∀k,j4 n0 (JT k))(hY:∀k v W1,k<M->JT k W1->(∃A c lo,v=.slice A (S k).length c/\Rw W1 lo A (ints (S k)))->YieldAt Fence.wide 7 prog yl #[v] W1 λe W'=>(e=.returned (.bool true)/\JT (k+1) W'/\jh [] W1 W')\/(e=.returned (.bool false)/\Jx (k+1) W')):
 ∀d first,m-first<=d->first<=m->Me prog 108 [pT b2,pT b3,pT b4,pT b5] (HE n m yl b2 b3 b4 b5) base 3 JT Jx S M n m first
 |0,first,h,hf=>xl hbx hn0 hm hJ0 hY hf λi h1 h2=>by omega
 |d+1,first,h,hf=>xl hbx hn0 hm hJ0 hY hf λi h1 h2=>FX hbx hn0 hm hJ0 hY d (i+1) U U
def vx {m:Nat}(h1:ar w b1 3 #[.int .i64 n])(h2:ar w b2 3 #[.int .i64 m])(hm:m<=100):
 RS prog 107 [pT b1,pT b2] (ZM n m) [] (zn n m 0 []).length w:=by
 intro l JT Jx Wa hW hJ0 hY E;have⟨h1,h2⟩:=dN hW h1 h2;refine qH ?_;have Aq:=bt h1;have Ap:=bt h2;refine Eu func107 Z (I ?_);refine bx (v:=.func (.yield l) #[] #[]) (hx:=rfl) (λA1 A2 G=>?_);have⟨h1,h2⟩:=dN A2.2 h1 h2;have E:=(hJ0 _).ext A2.2 E;refine I ?_;refine al Nt (λ_ O Am=>?_);have⟨h1,h2⟩:=dN O.2 h1 h2;have E:=(hJ0 _).ext O.2 E;have G:=be O.2 G;refine I ?_;refine aa (aC (vf:=[]) (vc:=[pT b1,pT Wa.heap.size,pT b2,pT A1.heap.size]) Z Z ?_);refine SO Am (λAf H Ab=>?_) (hi:=Sm);have⟨h1,h2⟩:=js H h1 h2;have E:=(hJ0 _).put H U E;have G:=pb H G;have Ax:=gJ H;refine I ?_;have Ao:=bt h1;have As:=bt G;have Aw:=bt h2;have Av:=bt Ab;refine aa (Bs (vs:=[.slice none 0 0,.int .i64 0]) (lb:=[pT b1,pT Wa.heap.size,pT b2,pT A1.heap.size]) IT (hx:=by exact Z) (hv:=by exact Z) (FX (base:=Af.heap.size) (n0:=Wa.heap.size) (M:=(zn n m 0 []).length) (S:=λk=>(zn n m 0 []).getD k []) (Jx:=Jx) ⟨by omega,by omega,by omega,by omega⟩ U hm hJ0 hY m 0 U U none [] 0 0 Af (qa0 _) ⟨h1,G,h2,Ab⟩ bK (qa0 _) E U (λj A0=>by rw[Nat.zero_add])) ?_);rintro v Ar (⟨rfl,A0,_,_⟩|⟨rfl,hx⟩);refine I ?_;exact sE Z λv=>⟨⟨v,rfl⟩,.inl (by rw[Nat.zero_add]at A0;exact A0)⟩;refine I ?_;exact sE Z λv=>⟨⟨v,rfl⟩,.inr hx⟩
def Bv {m:Nat}:
 CL 49 #[.int .i64 m,.int .i64 n] w (aH w λv w'=>∃b1 b2,v=.func (.func 107) #[] #[pT b1,pT b2]/\ar w' b1 3 #[.int .i64 n]/\ar w' b2 3 #[.int .i64 m]/\w.heap.size<=b1/\w.heap.size<=b2):=by
 refine aD func49 Z (I ?_);refine bx (λH A0 G=>?_);have E:=A0.2;refine bx (λ_ O A1=>?_);have⟨G,E⟩:=bo O.2 G E;refine aa (aK (v:=.nilFunc) Z ?_);refine I ?_;refine aa (aC (vf:=[]) (vc:=[pT H.heap.size,pT w.heap.size]) Z Z ?_);refine I ?_;exact am (t:=4) (v:=.func (.func 107) #[] #[pT H.heap.size,pT w.heap.size]) Z E ⟨_,_,rfl,A1,G,by omega,by omega⟩ Z
def HH {ad:Addr}{xs:List Nat}(hx:Rw w lo (some ad) (ints xs))(hl:xs.length<=1000000):
 CL 50 #[.slice (some ad) xs.length c] w (aH w λv w'=>World.ownsRow w' w.heap.size 3 1 v xs.length (ints xs)):=by
 refine aD func50 Z (I ?_);refine aa (uW (A:=some ad) kB Z Z ?_);refine I ?_;(try refine gd (qb2 Value.bool Z) ?_);refine I ?_;refine aa (zQ kB kI (λ_ O _ G=>?_));have E:=O;have A2:=bz O;refine I ?_;refine aa (jI (v:=.slice (some ⟨w.heap.size,0,none⟩) 0 0) (k:=0) (m:=xs.length) (news:=(ints xs)) kB kI Z dc Z G Z (hx.ext E) (by simp[ints]) (by intro u hu;simp[ints]at hu;obtain⟨a,_,rfl⟩:=hu;rfl) CA U U (λH _ A0 A1 _=>?_));have E:=bu G U U E A1;rw[List.nil_append]at A0;refine aa (aK (v:=H) Z ?_);refine I ?_;exact am (t:=2) (v:=H) Z E (aP A0 (Nat.zero_add _) Z) Z
def KO.ofExt (k:aO W W'):KeepsOthers W W':=⟨k.size,λ_ _ h _=>k.heap h⟩
def KO.put {cs:Array Value}(k:ee W W' b)(h:ar W b t cs):KeepsOthers W W':=
 ⟨by rw[k.size];exact qa0 _,λi o hi hc=>(k.block i (λe=>by subst e;unfold ar at h;rw[h]at hi;cases hi;cases hc)).trans hi⟩
def FY {cs:List Value}{r r':Loop}(h:Rw W lo A cs)(hl:W.heap[b]?=some (.loop r)):Rw (W.putObj b (.loop r')) lo A cs:=by
 refine⟨λj u hu=>?_,h.lo,λO e=>by have:=h.hi O e;simpa using this⟩
 obtain⟨G,o,e,hc⟩:=h.cells j u hu
 refine⟨G,o,e,?_⟩
 rw[<-hc]
 refine(dt W b (.loop r')).cell ?_
 intro hb
 simp only at hb
 subst hb
 obtain⟨_,E,H⟩:=cells_of_cell hc
 rw[hl]at E
 cases E;cases H
def P7 {fn:Func}{R:Value->World->Prop}(h2:lv w' D2)(h1:lv w' D1)(hne:D1≠D2)(hr:(results fn (act N e [⟨.collected D2,#[]⟩,⟨.collected D1,#[]⟩]).tmps).run P ((w'.putObj D2 (.deferred none)).putObj D1 (.deferred none))=.ok v ((w'.putObj D2 (.deferred none)).putObj D1 (.deferred none)))(hx:aO w ((w'.putObj D2 (.deferred none)).putObj D1 (.deferred none)))(hR:R v ((w'.putObj D2 (.deferred none)).putObj D1 (.deferred none))):bodyPostM Fence.wide 9 P fn (aH w R) .ret (act N e [⟨.collected D2,#[]⟩,⟨.collected D1,#[]⟩]) w':=
 ⟨by simp,.inl ⟨D2,_,rfl,run_takeDeferred h2,by simp,.inl ⟨D1,_,rfl,run_takeDeferred (ad3 (dO w') hne h1),v,hr,hx,hR⟩⟩⟩
set_option maxHeartbeats 4000000 in
set_option maxRecDepth 100000 in
def HI {L V:Rows}{ys:List R}(hD:eH w A C Y CY B CB L V ys)(ok:eN L V ys)(h3:ys.length=3){la lb:Int}(ql:Q9 la lb)(h12:pl<=12)(hl1:0<=aQ (la*1000000) (1*lb))(hl2:aQ (la*2) (1*lb)<=0){KM3 KC3 KM2 KC2:Rows}{KY3 KY2:List R}(pe3:qj L V ys [0,1,2] KM3 KC3 KY3)(ok3:eN KM3 KC3 KY3)(pe2:qj L V ys [0,1] KM2 KC2 KY2)(ok2:eN KM2 KC2 KY2)(hC3:∀A C Y CY B CB W,eH W A C Y CY B CB KM3 KC3 KY3->Tb W->CL 19 #[.agg #[.slice A KY3.length C,.slice Y KY3.length CY,.slice B KY3.length CB],QV la lb,.int .i64 pl] W (aH W λv _=>v=.tuple #[.int .i64 2,.int .i64 0]))(hC2:∀A C Y CY B CB W,eH W A C Y CY B CB KM2 KC2 KY2->Tb W->CL 19 #[.agg #[.slice A KY2.length C,.slice Y KY2.length CY,.slice B KY2.length CB],QV la lb,.int .i64 pl] W (aH W λv _=>v=.tuple #[.int .i64 1,.int .i64 0]))(hb1:ar w b1 33 #[S ((qR la lb).1),S ((qR la lb).2)])(hb2:ar w b2 3 #[.int .i64 pl])(hb3:ar w b3 30 #[.slice A ys.length C,.slice Y ys.length CY,.slice B ys.length CB])(ht:Tb w):
 CL 48 #[pT b1,pT b2,pT b3] w (aH w λv w'=>w'.ownsRow w.heap.size 3 1 v 2 (ints [0,1])):=by
 obtain⟨_,H,hM⟩:=hD.m;obtain⟨_,hy⟩:=hD.y;obtain⟨_,G,hV⟩:=hD.v;have bb:=bt hb1;have b0:=bt hb2;have a6:=bt hb3;have GC:Value.int .i64 ((ys.length:Nat):Int)=.int .i64 3:=by rw[h3];rfl
 refine rI func48 Z (I ?_);refine al QO (λ_ Ne B1=>?_);have⟨hb1,hb2,hb3⟩:=vZ Ne.2 hb1 hb2 hb3;have As:=Ne.2;refine I ?_;refine aa (bX (vs:=[(0,QV la lb),(1,.int .i64 pl)]) (cells:=#[S (qR la lb).1,S (qR la lb).2,.int .i64 pl]) (pl:=[(0,2),(2,1)]) Ef sB Hx Z Hx ?_);refine cl IN (xj ql h12 hl1 hl2 (ht.ext As)) ?_;rintro _ _ W2 rfl;have⟨hb1,hb2,hb3,B1,As⟩:=kC W2.2 hb1 hb2 hb3 B1 As;refine I ?_;(try refine aa (aN (cs:=[.slice A ys.length C,.slice Y ys.length CY,.slice B ys.length CB]) (b:=b3) (o:=0) de Z ba Z (aa0 hb3 (i:=0) Z) ?_));refine cl kt (gV (hM.ext As) (dP ok.hv) (hy.ext As) (hV.ext As) (dP ok.hv3) hD.c ok.hv ok.hv3 ok.hVl ok.hLl ok.hyo ok.hp (ht.ext As)) ?_;rintro _ _ nm rfl;have⟨hb1,hb2,hb3,B1,As⟩:=kC nm.2 hb1 hb2 hb3 B1 As;refine cl fp df ?_;rintro _ _ W3 rfl;have⟨hb1,hb2,hb3,B1,As⟩:=kC W3.2 hb1 hb2 hb3 B1 As;refine I ?_;rw[GC];refine I ?_;refine ZF 1 (I ?_);rw[GC];refine I ?_;refine cl IP (Bv (m:=3) (n:=3)) ?_;rintro _ L4 VW ⟨H4,H2,rfl,KY,K3,an,ac⟩;have⟨hb1,hb2,hb3,B1,As⟩:=kC VW.2 hb1 hb2 hb3 B1 As;refine I ?_;have a3:=bt hb1;have bW:=bt hb2;have c9:=bt hb3;have X0:=bt B1;have a8:=bt KY;have X2:=bt K3;have W1:w.heap.size<=L4.heap.size:=bz As
 refine Bu (M:=(zn 3 3 0 []).length) (Pa:=ZM 3 3) (bs:=[]) (gf:=107) (lb:=[pT H4,pT H2]) (p:=29) Z IS (vx KY K3 dc) (fun(k:Nat) W=>L4.heap.size<=W.heap.size/\aO w W/\(ar W b1 33 #[S ((qR la lb).1),S ((qR la lb).2)])/\(ar W b2 3 #[.int .i64 pl])/\(ar W b3 30 #[.slice A ys.length C,.slice Y ys.length CY,.slice B ys.length CB])/\(ar W w.heap.size 22 #[.slice none (0) (0)])/\(ar W H4 3 #[.int .i64 (3)])/\(ar W H2 3 #[.int .i64 (3)])) (λ_ _ _=>False) (λk=>⟨λO ⟨Ap,E,A2,Ab,A0,A1,Af,Am⟩=>⟨qa8 Ap (bz O),xt E O,be O A2,be O Ab,be O A0,be O A1,be O Af,be O Am⟩,λO hb ⟨Ap,E,A2,Ab,A0,A1,Af,Am⟩=>⟨kd6,bi O E,pb O A2,pb O Ab,pb O A0,pb O A1,pb O Af,pb O Am⟩⟩) ?hIx3 ?h03 (λe k e' W=>k=0/\∃Az Aq Av,e'=upd (upd e 29 (.slice Az 3 Aq)) 5 (.slice Az 3 Aq)/\Rw W Av Az (ints [0,1,2])/\(fun(k:Nat) W=>L4.heap.size<=W.heap.size/\aO w W/\(ar W b1 33 #[S ((qR la lb).1),S ((qR la lb).2)])/\(ar W b2 3 #[.int .i64 pl])/\(ar W b3 30 #[.slice A ys.length C,.slice Y ys.length CY,.slice B ys.length CB])/\(ar W w.heap.size 22 #[.slice none (0) (0)])/\(ar W H4 3 #[.int .i64 (3)])/\(ar W H2 3 #[.int .i64 (3)])) k W) ?hA3 ?asn3 ?body3 ?done3 ?stop3;case hIx3=>
  rintro c k A b r E7 hb hl ⟨⟩
 case h03=>
  exact⟨qa0 _,As,hb1,hb2,hb3,B1,KY,K3⟩
 case hA3=>
  rintro k e' W b r E7 hb hl ⟨L2,Az,Aq,Av,KM,Ar,Ap,E,A2,Ab,A0,A1,Af,Am⟩;have O:=dt W b (.loop E7);exact⟨L2,Az,Aq,Av,KM,FY Ar hl,kd6,bi O E,pb O A2,pb O Ab,pb O A0,pb O A1,pb O Af,pb O Am⟩
 case asn3=>
  rintro l k v W K hkM ⟨Ap,E,A2,Ab,A0,A1,Af,Am⟩ ⟨Az,Aq,Av,rfl,Ar⟩ hK;have Aw:k=0:=(by rw[show(zn 3 3 0 []).length=1 by decide]at hkM;omega);subst Aw;have Ar:Rw W Av Az (ints [0,1,2]):=Ar;refine I ?_;exact hK _ _ (aa3 _) ⟨rfl,Az,Aq,Av,rfl,Ar,Ap,E,A2,Ab,A0,A1,Af,Am⟩
 case body3=>
  rintro l k e' W hkM ⟨rfl,Az,Aq,Av,rfl,Ar,Ap,E,A2,Ab,A0,A1,Af,Am⟩;have zW:=bz E;have EW:=aa3 W;refine I ?_;(try refine aa (aN (cs:=[.slice A ys.length C,.slice Y ys.length CY,.slice B ys.length CB]) (b:=b3) (o:=0) de Z ba Z (aa0 A0 (i:=0) Z) ?_));refine I ?_;refine cl Cm (y0 (hD.ext E) ok (qr:=Az) (CR:=Aq) (rl:=[0,1,2]) (Ar.ext EW) pe3 ok3 (ht.ext E)) ?_;rintro _ Ix E4 ⟨ad,rfl,P1,Lk,ny,od,Q0,P0,rfl,S0⟩;have A2:=be E4.2 A2;have Ab:=be E4.2 Ab;have A0:=be E4.2 A0;have A1:=be E4.2 A1;have Af:=be E4.2 Af;have Am:=be E4.2 Am;have E:=xt E E4.2;have EW:=xt EW E4.2;have ES:=aa3 Ix;refine I ?_;refine al dW (λ_ E1 T2=>?_);have A2:=be E1.2 A2;have Ab:=be E1.2 Ab;have A0:=be E1.2 A0;have A1:=be E1.2 A1;have Af:=be E1.2 Af;have Am:=be E1.2 Am;have E:=xt E E1.2;have EW:=xt EW E1.2;have ES:=xt ES E1.2;refine aa (aZ (b:=Ix.heap.size) (o:=0) (vs:=[.slice P1 KY3.length Lk,.slice ny KY3.length od,.slice Q0 KY3.length P0]) ba Z Z Nd T2 (qa3 Z) (λ_ CG Vm=>?_));have A2:=pb CG A2;have Ab:=pb CG Ab;have A0:=pb CG A0
  have A1:=pb CG A1;have Af:=pb CG Af;have Am:=pb CG Am;have E:=bi CG E;have WV:=gJ CG;have EW:=bi CG EW;have ES:=bi CG ES;refine I ?_;(try refine aa (aN (cs:=[.slice P1 KY3.length Lk,.slice ny KY3.length od,.slice Q0 KY3.length P0]) (b:=Ix.heap.size) (o:=0) de Z ba Z (aa0 Vm (i:=0) Z) ?_));refine I ?_;refine cl xK (hC3 _ _ _ _ _ _ _ (ig.ext ES S0).des (ht.ext E)) ?_;rintro _ _ E0 rfl;have A2:=be E0.2 A2;have Ab:=be E0.2 Ab;have A0:=be E0.2 A0;have A1:=be E0.2 A1;have Af:=be E0.2 Af;have Am:=be E0.2 Am;have E:=xt E E0.2;have EW:=xt EW E0.2;have ES:=xt ES E0.2;refine I ?_;exact⟨KO.ofExt EW,jh.ofE EW,U,E,A2,Ab,A0,A1,Af,Am⟩
 case done3=>
  rintro D W hD9 ⟨Ap,E,A2,Ab,A0,A1,Af,Am⟩ hK9;have zW:=bz E;have hDlt:D<W.heap.size:=(Array.getElem?_eq_some_iff.1 hK9).1;refine I ?_;refine aa (jp (a:=3) (b:=1) (c:=2) Z Z L7 Z ?_);refine I ?_;refine ZG (I ?_);rw[GC];refine I ?_;refine cl IP (Bv (m:=3) (n:=2)) ?_;rintro _ G0 E6 ⟨H3,K2,rfl,L3,Kp,a2,bv⟩;have A2:=be E6.2 A2;have Ab:=be E6.2 Ab;have A0:=be E6.2 A0;have A1:=be E6.2 A1;have hK9:=lv.ext E6.2 hK9;have E:=xt E E6.2;refine I ?_;have Wa:=bt A2;have bp:=bt Ab;have bd:=bt A0;have bq:=bt A1;have a9:=bt L3;have a4:=bt Kp;have W1:w.heap.size<=G0.heap.size:=bz E;refine Bu (M:=(zn 2 3 0 []).length) (Pa:=ZM 2 3) (bs:=[]) (gf:=107) (lb:=[pT H3,pT K2]) (p:=29) Z IS (vx L3 Kp dc) (fun(k:Nat) W=>k=0/\G0.heap.size<=W.heap.size/\aO w W/\(ar W b1 33 #[S (qR la lb).1,S (qR la lb).2])/\(ar W b2 3 #[.int .i64 pl])/\(ar W b3 30 #[.slice A ys.length C,.slice Y ys.length CY,.slice B ys.length CB])/\(ar W w.heap.size 22 #[.slice none 0 0])/\(lv W D)/\(ar W H3 3 #[.int .i64 2])/\(ar W K2 3 #[.int .i64 3])) (λc _ W=>c=.ret/\∃v0,ar W w.heap.size 22 #[v0]/\W.ownsRow w.heap.size 3 1 v0 2 (ints [0,1])/\aO w W/\G0.heap.size<=W.heap.size/\(lv W D)) (λk=>⟨λO ⟨Aw,Ap,E,A2,Ab,A0,A1,Af,Am,Ao⟩=>⟨Aw,qa8 Ap (bz O),xt E O,be O A2,be O Ab,be O A0,be O A1,lv.ext O Af,be O Am,be O Ao⟩,λO hb ⟨Aw,Ap,E,A2,Ab,A0,A1,Af,Am,Ao⟩=>⟨Aw,kd6,bi O E,pb O A2,pb O Ab,pb O A0,pb O A1,ad3 O U Af,pb O Am,pb O Ao⟩⟩) ?hIx2 ?h02 (λe k e' W=>k=0/\∃Az Aq Av,e'=upd (upd e 29 (.slice Az 2 Aq)) 5 (.slice Az 2 Aq)/\Rw W Av Az (ints [0,1])/\(fun(k:Nat) W=>k=0/\G0.heap.size<=W.heap.size/\aO w W/\(ar W b1 33 #[S (qR la lb).1,S (qR la lb).2])/\(ar W b2 3 #[.int .i64 pl])/\(ar W b3 30 #[.slice A ys.length C,.slice Y ys.length CY,.slice B ys.length CB])/\(ar W w.heap.size 22 #[.slice none 0 0])/\(lv W D)/\(ar W H3 3 #[.int .i64 2])/\(ar W K2 3 #[.int .i64 3])) k W) ?hA2 ?asn2 ?body2 ?done2 ?stop2
  case hIx2=>
   rintro c k A b r E7 hb hl ⟨rfl,v0,hB,hO,hE0,N0,E9⟩;have O:=dt A b (.loop E7);exact⟨rfl,v0,(jh.putObj (bs:=[]) hl).blk Rg hB,y5 hO (jh.putObj (bs:=[]) hl) (λg _=>by simp),bi O hE0,(by rw[O.size];exact N0),ad3 O U E9⟩
  case h02=>
   exact⟨rfl,qa0 _,E,A2,Ab,A0,A1,hK9,L3,Kp⟩
  case hA2=>
   rintro k e' W b r E7 hb hl ⟨L2,Az,Aq,Av,KM,Ar,Aw,Ap,E,A2,Ab,A0,A1,Af,Am,Ao⟩;have O:=dt W b (.loop E7);exact⟨L2,Az,Aq,Av,KM,FY Ar hl,Aw,kd6,bi O E,pb O A2,pb O Ab,pb O A0,pb O A1,ad3 O U Af,pb O Am,pb O Ao⟩
  case asn2=>
   rintro l k v W K hkM ⟨Aw,Ap,E,A2,Ab,A0,A1,Af,Am,Ao⟩ ⟨Az,Aq,Av,rfl,Ar⟩ hK;subst Aw;have Ar:Rw W Av Az (ints [0,1]):=Ar;have Aw:0=0:=rfl;refine I ?_;exact hK _ _ (aa3 _) ⟨rfl,Az,Aq,Av,rfl,Ar,rfl,Ap,E,A2,Ab,A0,A1,Af,Am,Ao⟩
  case body2=>
   rintro l k e' W hkM ⟨rfl,Az,Aq,Av,rfl,Ar,Aw,Ap,E,A2,Ab,A0,A1,Af,Am,Ao⟩;have zW:=bz E;have EW:=aa3 W;obtain⟨bZ,S9,rfl,_⟩:=Ar.cells 0 _ Z;refine I ?_;(try refine aa (aN (cs:=[.slice A ys.length C,.slice Y ys.length CY,.slice B ys.length CB]) (b:=b3) (o:=0) de Z ba Z (aa0 A0 (i:=0) Z) ?_));refine I ?_;refine cl Cm (y0 (hD.ext E) ok (qr:=(some ⟨bZ,S9,none⟩)) (CR:=Aq) (rl:=[0,1]) (Ar.ext EW) pe2 ok2 (ht.ext E)) ?_;rintro _ KC Cr ⟨a5,rfl,No,Lj,Li,wr,La,P2,rfl,V2⟩;have A2:=be Cr.2 A2;have Ab:=be Cr.2 Ab;have A0:=be Cr.2 A0;have A1:=be Cr.2 A1;have Af:=lv.ext Cr.2 Af;have Am:=be Cr.2 Am;have Ao:=be Cr.2 Ao;have E:=xt E Cr.2;have EW:=xt EW Cr.2;have ES:=aa3 KC;refine I ?_;refine al dW (λ_ B2 Rm=>?_);have A2:=be B2.2 A2;have Ab:=be B2.2 Ab;have A0:=be B2.2 A0;have A1:=be B2.2 A1;have Af:=lv.ext B2.2 Af;have Am:=be B2.2 Am;have Ao:=be B2.2 Ao;have E:=xt E B2.2;have EW:=xt EW B2.2;have ES:=xt ES B2.2;refine aa (aZ (b:=KC.heap.size) (o:=0) (vs:=[.slice No KY2.length Lj,.slice Li KY2.length wr,.slice La KY2.length P2]) ba Z Z Nd Rm (qa3 Z) (λ_ B0 E5=>?_))
   have A2:=pb B0 A2;have Ab:=pb B0 Ab;have A0:=pb B0 A0;have A1:=pb B0 A1;have Af:=ad3 B0 (Af.ne Rm) Af;have Am:=pb B0 Am;have Ao:=pb B0 Ao;have E:=bi B0 E;have cT:=gJ B0;have EW:=bi B0 EW;have ES:=bi B0 ES;refine I ?_;(try refine aa (aN (cs:=[.slice No KY2.length Lj,.slice Li KY2.length wr,.slice La KY2.length P2]) (b:=KC.heap.size) (o:=0) de Z ba Z (aa0 E5 (i:=0) Z) ?_));refine I ?_;refine cl xK (hC2 _ _ _ _ _ _ _ (ig.ext ES V2).des (ht.ext E)) ?_;rintro _ _ C0 rfl;have A2:=be C0.2 A2;have Ab:=be C0.2 Ab;have A0:=be C0.2 A0;have A1:=be C0.2 A1;have Af:=lv.ext C0.2 Af;have Am:=be C0.2 Am;have Ao:=be C0.2 Ao;have E5:=be C0.2 E5;have E:=xt E C0.2;have EW:=xt EW C0.2;refine I ?_;refine clb S1 (hc:=HH (xs:=[0,1]) (Ar.ext EW) dc) (hk:=?_);rintro W0 _ Ax FR;have Ax:=Ax.2;have A2:=be Ax A2;have Ab:=be Ax Ab;have A0:=be Ax A0;have A1:=be Ax A1;have Af:=lv.ext Ax Af;have Am:=be Ax Am;have Ao:=be Ax Ao;have E5:=be Ax E5;have E:=xt E Ax;have EW:=xt EW Ax;refine aa (cJ (b:=w.heap.size) (o:=0) (v:=W0) B9 Z Z (bP FR) A1 (qa3 Z) (λ_ Ay T3=>?_))
   have KO9:=(KO.ofExt EW).trans (KO.put Ay A1);have A2:=pb Ay A2;have Ab:=pb Ay Ab;have A0:=pb Ay A0;have Af:=ad3 Ay (Af.ne A1) Af;have Am:=pb Ay Am;have Ao:=pb Ay Ao;have E5:=pb Ay E5;have FR:=aw Ay (λe=>by have:=aS FR _ e;omega) FR;have E:=bi Ay E;have a0:=gJ Ay;refine I ?_;exact⟨KO9,rfl,_,T3,(bM U FR),E,U,Af⟩
  case done2=>
   rintro D W hD9 ⟨Aw,Ap,E,A2,Ab,A0,A1,Af,Am,Ao⟩ hK9;exact absurd Aw dc
  case stop2=>
   rintro D2 c k W hD9 ⟨rfl,v0,hB,hO,hE0,N0,E9⟩ hK9;refine I ?_;have L1:D≠D2:=J
   have hB9:=ar.dfr (ad3 (dO W) L1 E9) (ar.dfr hK9 hB);refine P7 (v:=v0) hK9 E9 L1 (ci Z ?_) ((dO _).low ((dO _).low hE0 U) U) (Et (ad3 (dO W) L1 E9) (Et hK9 hO));refine bH (t:=3) (b:=w.heap.size) (o:=0) kB Z ?_ ?_;exact Z;exact ab6 hB9 Z
 case stop3=>
  rintro D c k W hD9 ⟨⟩
def Mg {lb:List Value}{xs:List Nat}(hg:Enters prog gf)(hc:∀W,aO w W->CL gf lb.toArray W (aH W λv w'=>w'.ownsRow W.heap.size 3 1 v k (ints xs))):
 CL 47 #[.func (.func gf) #[] lb.toArray] w (aH w λv w'=>∃u,v=.tuple #[u,.int .i64 0]/\w'.ownsRow w.heap.size 3 1 u k (ints xs)):=by
 refine l9 func47 Z (I ?_);refine al QO (λA0 Am H=>?_);have E:=Am.2;refine al l5 (λ_ Aq O=>?_);have⟨H,E⟩:=bo Aq.2 H E;refine I ?_;refine aa (aC (vf:=[]) (vc:=[pT w.heap.size,pT A0.heap.size]) Z Z ?_);refine aa (hH (lb:=[pT w.heap.size,pT A0.heap.size]) Z ?_);refine I ?_;refine aa (mg (f:=gf) (lb:=lb) (vs:=[]) hg Z Z (hc _ E) ?_);rintro Af _ Ap G;have⟨H,O,E⟩:=ca Ap.2 H O E;refine aa (cJ (b:=w.heap.size) (o:=0) (v:=Af) B9 Z Z (bP G) H (qa3 Z) (λ_ Ab A1=>?_));have O:=pb Ab O;have G:=aw Ab (λe=>by have:=aS G _ e;omega) G;have E:=bi Ab E;refine SO O (λ_ A2 Ao=>?_);have A1:=pb A2 A1;have G:=aw A2 (λe=>by have:=aS G _ e;omega) G;have E:=bi A2 E;refine I ?_;refine mU (b1:=w.heap.size) (b2:=A0.heap.size) (v:=.tuple #[Af,.int .i64 0]) Tc (λ_ _=>Ko) E (c8 (r1:=.cell 2 22) (r2:=.cell 3 36) Z ?_ ?_) ⟨_,rfl,bM U G⟩;refine bH (t:=2) (b:=w.heap.size) (o:=0) kB Z ?_ ?_;exact Z;exact ab6 A1 Z;refine bH (t:=3) (b:=A0.heap.size) (o:=0) BY Z ?_ ?_;exact Z;exact ab6 Ao Z
def Mh {L V:Rows}{ys:List R}(hD:eH w A C Y CY B CB L V ys)(ok:eN L V ys)(h3:ys.length=3){la lb:Int}(ql:Q9 la lb)(h12:pl<=12)(hl1:0<=aQ (la*1000000) (1*lb))(hl2:aQ (la*2) (1*lb)<=0){KM3 KC3 KM2 KC2:Rows}{KY3 KY2:List R}(pe3:qj L V ys [0,1,2] KM3 KC3 KY3)(ok3:eN KM3 KC3 KY3)(pe2:qj L V ys [0,1] KM2 KC2 KY2)(ok2:eN KM2 KC2 KY2)(hC3:∀A C Y CY B CB W,eH W A C Y CY B CB KM3 KC3 KY3->Tb W->CL 19 #[.agg #[.slice A KY3.length C,.slice Y KY3.length CY,.slice B KY3.length CB],QV la lb,.int .i64 pl] W (aH W λv _=>v=.tuple #[.int .i64 2,.int .i64 0]))(hC2:∀A C Y CY B CB W,eH W A C Y CY B CB KM2 KC2 KY2->Tb W->CL 19 #[.agg #[.slice A KY2.length C,.slice Y KY2.length CY,.slice B KY2.length CB],QV la lb,.int .i64 pl] W (aH W λv _=>v=.tuple #[.int .i64 1,.int .i64 0]))(ht:Tb w):
 CL 21 #[.agg #[.slice A ys.length C,.slice Y ys.length CY,.slice B ys.length CB],QV la lb,.int .i64 pl] w (aH w λv w'=>∃u,v=.tuple #[u,.int .i64 0]/\w'.ownsRow w.heap.size 3 1 u 2 (ints [0,1])):=by
 obtain⟨_,H,_⟩:=hD.m;obtain⟨_,_⟩:=hD.y;obtain⟨_,G,_⟩:=hD.v;refine rI func21 Z (I ?_);refine bx (λAb Ar O=>?_);have E:=Ar.2;refine bx (λA2 Ap A0=>?_);have⟨O,E⟩:=bo Ap.2 O E;refine bx (λ_ Ao Aq=>?_);have⟨O,A0,E⟩:=ca Ao.2 O A0 E;refine I ?_;refine aa (aC (vf:=[]) (vc:=[pT Ab.heap.size,pT A2.heap.size,pT w.heap.size]) Z Z ?_);refine cl SY (Mg (gf:=48) (lb:=[pT Ab.heap.size,pT A2.heap.size,pT w.heap.size]) SZ (λW q=>HI (hD.ext (xt E q)) ok h3 ql h12 hl1 hl2 pe3 ok3 pe2 ok2 hC3 hC2 (be q A0) (be q Aq) (be q O) (ht.ext (xt E q)))) ?_;rintro _ _ Af ⟨A1,rfl,Am⟩;have E:=xt E Af.2;refine I ?_;refine aa (aK (v:=A1) Z ?_);refine I ?_;refine xQ (v:=.tuple #[A1,.int .i64 0]) (c8 (r1:=.tmp 6) (r2:=.tmp 7) Z ?_ ?_) E ⟨_,rfl,bM U Am⟩;exact aM (t:=6) RM _;exact aM (t:=7) RM _
section
variable {r:Option Nat}{ds:List Deferred}{Q:Exit->Act->World->Prop}{K:Act->World->Prop}
variable {d ty:Nat}{pos:String}{af:Array Edge}{g:Option (Nat×Bool)}{x y:Operand}{t':TypeId}{a b:Int}
def Vb {c:Int}(hx:ev N e x=.int .i64 a)(hy:ev N e y=.int .i64 b)(hc:IntKind.i64.wrap (a+b)=c)(hk:K (act N (upd e d (.int .i64 c)) ds) w):
 Oper.wpIn (Fw r) n P ⟨some d,.binOp .add t x y t',ty,pos,af,g⟩ (act N e ds) w K Q:=
 dR hx hy (cg ..) (by subst hc;simp[binOp,Op.intArith]) hk
end
def kE (xs:List Int)(i:Nat):Int:=if xs.length=0 then 3*(i:Int)+1 else IntKind.i64.wrap (xs.getD (i%xs.length) 0+((i/xs.length:Nat):Int))
def wrap64 (z:Int):In64 (IntKind.i64.wrap z):=by
 have h:=Int.emod_nonneg z (show(2:Int)^64≠0 by decide)
 have h2:=Int.emod_lt_of_pos z (show(0:Int)<2^64 by decide)
 have e:IntKind.i64.wrap z=if(true&&decide (z%2^64≥2^(64-1)))=true then z%2^64-2^64 else z%2^64:=rfl
 rw[e]
 unfold In64
 by_cases hc:(true&&decide (z%2^64≥2^(64-1)))=true
 · rw[if_pos hc];simp at hc;omega
 · rw[if_neg hc];simp at hc;omega
def tl {xs:List Int}(hi:i<=1000):In64 (kE xs i):=by
 unfold kE;split
 · unfold In64;omega
 · exact wrap64 _
def Mi (a b:Nat):(a:Int).tdiv (b:Int)=((a/b:Nat):Int):=rfl
def jG (c m:Int)(w:World)(hc:In64 c)(hm:0<m):
 CL 79 #[.int .i64 c,.int .i64 m] w (aH w λv w'=>v=.int .i64 (aF c m)):=by
 unfold In64 at hc;refine aD func79 Z (I ?_);by_cases cf:c<0;refine I ?_;refine fO ?_;refine aa (zq (a:=c+1) Z L7 ?_);refine I ?_;refine aa (mu (a:=-(c+1)) (b:=m) (c:=aF c m) Z Z U U (AL cf) ?_);refine I ?_;exact am (t:=4) (v:=.int .i64 (aF c m)) Z (aa3 _) Z Z;refine I ?_;refine aa (mu (a:=c) (b:=m) (c:=aF c m) Z Z U U (AM cf) ?_);refine I ?_;exact am (t:=4) (v:=.int .i64 (aF c m)) Z (aa3 _) Z Z
def lU (c m:Int)(w:World)(hc:In64 c)(hm:0<m):
 CL 12 #[.int .i64 c,.int .i64 m] w (aH w λv w'=>v=.int .i64 (aF c m)):=by
 unfold In64 at hc;refine aD func12 Z (I ?_);by_cases cf:c<0;refine I ?_;refine fO ?_;refine aa (zq (a:=c+1) Z L7 ?_);refine I ?_;refine aa (mu (a:=-(c+1)) (b:=m) (c:=aF c m) Z Z U U (AL cf) ?_);refine I ?_;exact am (t:=4) (v:=.int .i64 (aF c m)) Z (aa3 _) Z Z;refine I ?_;refine aa (mu (a:=c) (b:=m) (c:=aF c m) Z Z U U (AM cf) ?_);refine I ?_;exact am (t:=4) (v:=.int .i64 (aF c m)) Z (aa3 _) Z Z
def dp (a b:Int)(ha:-100000000<=a/\a<=100000000)(hb:-100000000<=b/\b<=100000000):
 CL 11 #[.int .i64 a,.int .i64 b] w (aH w λv w'=>v=.agg #[S (bh a b).1,S (bh a b).2]):=by
 refine aD func11 Z (I ?_);refine al aU (λ_ A2 G=>?_);have E:=A2.2;refine I ?_;refine clb Ip (hc:=AO a b _ U U) (hk:=?_);rintro _ _ A1 rfl;have⟨G,E⟩:=bo A1.2 G E;refine I ?_;refine al aU (λ_ Ab Af=>?_);have⟨G,E⟩:=bo Ab.2 G E;refine SA Af (λ_ A0 H=>?_);have⟨G,E,_⟩:=j3 A0 G E;refine I ?_;refine SA G (λ_ O Am=>?_);have H:=pb O H;have E:=bi O E;refine I ?_;refine aW (v:=.agg #[S ((bh a b).1),S ((bh a b).2)]) (ci  rfl ?_) E Z;refine ai (t:=4) (cs:=[S ((bh a b).1),S ((bh a b).2)]) (b:=w.heap.size) (o:=0) iW Z b8 ?_ ?_;exact Z;exact aa0 Am (i:=0) Z
def tm {xs:List Int}(hi:i<=1000)(hx:Rw w lo X (nJ xs)):
 CL 80 #[.slice X xs.length CX,.int .i64 i] w (aH w λv w'=>v=.int .i64 (kE xs i)):=by
 refine aD func80 Z (I ?_);by_cases cf:((xs.length:Nat):Int)=0;refine I ?_;refine aa (rm (a:=3) (b:=(i:Int)) (c:=3*(i:Int)) Z Z L7 Z ?_);refine fO (I ?_);exact am (t:=4) (v:=.int .i64 ((3*(i:Int))+1)) Z (aa3 _) (by unfold kE;split <;>first|rfl|omega) Z
 refine I ?_;refine bQ 11 ?_;refine sf ?_;refine aA (λ_ _ _ _=>by refine aa (CE (a:=(i:Int)) (b:=((xs.length:Nat):Int)) (c:=((i%xs.length:Nat):Int)) Z Z U Z ?_);refine I ?_;exact aE) ?_
 refine aA (λ_ _ O _=>by refine aa (aB (i:=i%xs.length) (oo:=(ei X+(i%xs.length))) kB iy Z (Fx (hx.ext O) (i:=i%xs.length) (Nat.mod_lt _ U)).1 (dG Z U) (Nat.mod_lt _ U) Th ?_);refine I ?_;exact aE) ?_
 refine aA (λ_ _ E _=>by have A1:=Fx (hx.ext E) (i:=i%xs.length) (Nat.mod_lt _ U);refine I ?_;exact aE) ?_;refine sf ?_;refine aA (λ_ _ _ _=>by have H:i/xs.length<=i:=Nat.div_le_self _ _;obtain⟨dq,hdq⟩:∃dq:Nat,dq=i/xs.length:=⟨_,rfl⟩;refine aa (CC (a:=(i:Int)) (b:=((xs.length:Nat):Int)) (c:=((i/xs.length:Nat):Int)) Z Z U (Mi _ _) (by rw[<-hdq]at H ⊢;unfold In64;omega) ?_);refine I ?_;exact aE) ?_;refine sf ?_;intro _ _ G _;have A0:=G.2;refine aa (Vb (a:=(xs).getD (i%xs.length) 0) (b:=((i/xs.length:Nat):Int)) (c:=IntKind.i64.wrap (xs.getD (i%xs.length) 0+((i/xs.length:Nat):Int))) Z Z Z ?_);refine I ?_;exact am (t:=4) (v:=.int .i64 (IntKind.i64.wrap (xs.getD (i%xs.length) 0+((i/xs.length:Nat):Int)))) Z A0 (by unfold kE;split <;>first|rfl|omega) Z
end
section
set_option maxRecDepth 100000
open Go.ChangeShapes Go.WideShapes Go.ChangeAt Go.Deep Proofs.Tryz
def ZN:ownKnob prog.godebug=none:=by kernel_rfl
def X9:laidOutB prog=true:=by kernel_rfl
def c3:prog.cellsOf 3=1:=by kernel_rfl
def c25:prog.cellsOf 25=2:=by kernel_rfl
def Mj :W.cell? ((⟨b,o,none⟩:Addr).add i)=W.cell? ⟨b,o+i,none⟩:=by unfold Addr.add;split <;>simp_all
def Ya : prog.globalNamed "internal/strconv.uint64pow10" = some 4 := by kernel_rfl
def ZO:(prog.globals[4]?).map (·.type)=some 306:=by kernel_rfl
def Yb:(((begin prog (λ_ _=>0) default).world.heap[4]?).bind Obj.row?).map (·.2)=some 306:=by kernel_rfl
def ZP:∃z,(((begin prog (λ_ _=>0) default).world.heap[4]?).bind Obj.row?)=some (z,306):=by
 obtain⟨⟨z,t⟩,h,e⟩:=Option.map_eq_some_iff.1 Yb
 cases e;exact⟨z,h⟩
def ZQ:4<prog.globals.size:=of_decide_eq_true Hx
def ZR:Rows.laid_internal_strconv_uint64pow10=(.agg (Lib.pow10Tab.map λz=>DataW.lit (.int .u64 z)):DataW Unit):=by kernel_rfl
def cU:prog.cellsOf 259=1:=by kernel_rfl
def uU:prog.underlying 259=some (.int .u64):=by kernel_rfl
def cA:prog.cellsOf 306=20:=by kernel_rfl
def Vd:Lib.pow10Tab.length=20:=by kernel_rfl
def xm {H:Type}{enc:TypeId×Value->H}{hd:Bool}{ts:List TypeId}{ds:List (DataW H)}{ps:List MemPlace}(h:DataW.TrodAll enc P w base sp hd (t::ts) vs ds ps):∃v vs' d ds' p q,vs=v::vs'/\ds=d::ds'/\DataW.Trod enc P w base sp hd t v d p/\DataW.TrodAll enc P w base sp hd ts vs' ds' q:=by
 match vs,ds,h with
 | v::vs',d::ds',h=>
   obtain⟨p,q,h1,h2,_⟩:=h
   exact⟨v,vs',d,ds',p,q,rfl,rfl,h1,h2⟩
def Mk {H:Type}{enc:TypeId×Value->H}{hd:Bool}{ds:List (DataW H)}{ps:List MemPlace}(h:DataW.TrodAll enc P w base sp hd [] vs ds ps):vs=[]/\ds=[]:=by
 match vs,ds,h with
 |[],[],_=>exact⟨rfl,rfl⟩
def xo {H:Type}{enc:TypeId×Value->H}{W W':World}{sp':Nat->Bool}(k:aO W W'):∀{ts:List TypeId} {vs:List Value} {ds:List (DataW H)} {ps:List MemPlace},
 (∀t∈ts,prog.readableRec t=true/\t<prog.types.size)->DataW.TrodAll enc prog W 0 (λ_=>true) true ts vs ds ps->(∀p∈ps,p.block<W.heap.size)->(∀p∈ps,sp' p.block=true)->DataW.TrodAll enc prog W' 0 sp' true ts vs ds ps
 |[],[],[],_,_,h,_,_=>h
 | t::ts,v::vs,d::ds,ps,hr,h,hl,hs=>by
   obtain⟨p,q,h1,h2,rfl⟩:=h
   refine⟨p,q,WideElems.Trod_stays X9 (hr t Rg).1 (hr t Rg).2 h1 (λx hx=>?_) (λx hx=>hs x (by simp[hx])),xo k (λu hu=>hr u (by simp[hu])) h2 (λx hx=>hl x (by simp[hx])) (λx hx=>hs x (by simp[hx])),rfl⟩
   have hb:=hl x (by simp[hx])
   cases x with
   |cell b o=>exact World.cell?_of_block (k.block b hb)
   |map b=>exact k.block b hb
 |[],[],_::_,_,_,h,_,_=>h.elim
 |[],_::_,_,_,_,h,_,_=>h.elim
 |_::_,[],_,_,_,h,_,_=>h.elim
 |_::_,_::_,[],_,_,h,_,_=>h.elim
def P8 {n:Int}(h:(Lit.int .i64 n).wf=true):In64 n:=by
 simp only[Lit.wf,Bool.and_eq_true,decide_eq_true_eq]at h
 have e1:IntKind.i64.min=-9223372036854775808:=rfl
 have e2:IntKind.i64.max=9223372036854775807:=rfl
 rw[e1,e2]at h
 unfold In64;omega
section
variable {H:Type}{enc:TypeId×Value->H}{fuel b0:Nat}{x:DataW H×List MemPlace}
def P9 (hv:Value.okWide prog W .any b0 25 v)(h:DataW.trod enc prog W base (λ_=>true) true fuel 25 v.cells.toList=some x):
 ∃a b:Int,v=.agg #[.int .i64 a,.int .i64 b]/\In64 a/\In64 b:=by
 unfold Value.okWide at hv
 rw[underlying25]at hv
 obtain⟨cs,rfl,hs,_⟩:=hv
 rw[c25]at hs
 obtain⟨xs,m,_,_,_,_,hx⟩:=DataW.trod_array underlying25 h
 obtain⟨l⟩:=cs
 match l,hs with
 | [u,v],_=>
   have G:=hx 0 MT
   have h1:=hx 1 MT
   rw[c3]at G h1
   rw[List.getElem?_eq_getElem (show 0<xs.length by omega)]at G
   rw[List.getElem?_eq_getElem (show 1<xs.length by omega)]at h1
   obtain⟨a,O,_,A0⟩:=DataW.trod_int underlying3 G
   obtain⟨b,E,_,A1⟩:=DataW.trod_int underlying3 h1
   have O:u=.int .i64 a:=by simpa[Value.cells]using O
   have E:v=.int .i64 b:=by simpa[Value.cells]using E
   exact⟨a,b,by rw[O,E],P8 A0,P8 A1⟩
end
def ZS:maxLen=9223372036854775807:=by decide +kernel
section
variable {H:Type}{enc:TypeId×Value->H}{fuel b0:Nat}{cs:List Value}{x:DataW H×List MemPlace}
def Qa {e:TypeId}{a:Addr}{len cap:Nat}(ht:prog.underlying t=some (.slice e))(h:Value.okWide prog W .any b0 t (.slice (some a) len cap)):a.spot=none/\a.block<W.heap.size:=by
 simp only[Value.okWide,ht,Cell.okWide,Cell.ok,World.has]at h
 obtain⟨_,_,_,hs,_,_,hsh,_⟩:=h
 refine⟨hs,?_⟩
 unfold World.shape? at hsh
 cases hh:W.heap[a.block]? with
 |none=>rw[hh]at hsh;cases hsh
 |some o=>exact(Array.getElem?_eq_some_iff.1 hh).1
def Qb (hv:Value.okWide prog W .any b0 22 v)(h:DataW.trod enc prog W base (λ_=>true) true fuel 22 v.cells.toList=some x):
 ∃(A:Option Addr) (cap:Nat) (zs:List Int),v=.slice A zs.length cap/\Rw W 0 A (nJ zs)/\(∀z∈zs,In64 z)/\zs.length<=cap:=by
 obtain⟨A,len,cap,rfl⟩:=okWide_slice underlying22 hv
 rcases open_ints underlying22 underlying3 c3 h with⟨hc,_⟩|⟨a,len',cap',zs,hc,_,hl,hm,G,_,hcell,hwf⟩
 · simp[Value.cells]at hc;obtain⟨rfl,rfl,rfl⟩:=hc
   exact⟨none,0,[],rfl,Rw.nil W 0,λz E=>by simp at E,Nat.le_refl _⟩
 simp[Value.cells]at hc
 obtain⟨rfl,rfl,rfl⟩:=hc
 obtain⟨hs,hb⟩:=Qa underlying22 hv
 have hlen':zs.length=cap:=by simpa using G
 have A0:=ZS
 have ht:(zs.take len).length=len:=by simp;omega
 refine⟨some a,cap,zs.take len,by rw[ht],⟨λj u hu=>?_,λ_ _=>qa7 _,λ_ e=>by cases e;exact hb⟩,λz E=>?_,by rw[ht];exact hl⟩
 · have O:j<len:=by
    have:=(List.getElem?_eq_some_iff.1 hu).1
    simp[nJ]at this;omega
   have h1:=hcell j J
   obtain⟨b,o,_⟩:=a
   cases hs
   rw[Mj]at h1
   refine⟨b,o,rfl,h1.trans ?_⟩
   rw[<-hu]
   simp[nJ,List.getElem?_take,O,List.getD,show j<zs.length by omega]
 · have:=hwf z (List.mem_of_mem_take E)
   simp only[Lit.wf,Bool.and_eq_true,decide_eq_true_eq]at this
   have e1:IntKind.i64.min=-9223372036854775808:=rfl
   have e2:IntKind.i64.max=9223372036854775807:=rfl
   rw[e1,e2]at this
   unfold In64;omega
def Yc:prog.cellsOf 24=3:=by kernel_rfl
def Yd:prog.cellsOf 22=1:=by kernel_rfl
def Ye:prog.cellTypes prog.depth 24=some [3,3,22]:=by kernel_rfl
def Qc (hv:Value.okWide prog W .any b0 24 v)(h:DataW.trod enc prog W base (λ_=>true) true fuel 24 v.cells.toList=some x):
 ∃(a b:Int) (A:Option Addr) (cap:Nat) (zs:List Int),v=.agg #[.int .i64 a,.int .i64 b,.slice A zs.length cap]/\In64 a/\In64 b/\Rw W 0 A (nJ zs)/\(∀z∈zs,In64 z)/\zs.length<=cap:=by
 unfold Value.okWide at hv
 rw[underlying24]at hv
 obtain⟨cs,rfl,hs,_,Am,_,A2⟩:=hv
 rw[Yc]at hs
 obtain rfl:=qb5 (Ye.symm.trans Am)
 obtain⟨xs,m,_,_,_,hl,hx⟩:=DataW.trod_struct underlying24 h
 obtain⟨l⟩:=cs
 match l,hs with
 | [u0,u1,u2],_=>
   have E:DataW.trod enc prog W base (λ_=>true) true m 3 (([u0,u1,u2].drop 0).take (prog.cellsOf 3))=xs[0]?:=hx 0 _ Z
   have h1:DataW.trod enc prog W base (λ_=>true) true m 3 (([u0,u1,u2].drop 1).take (prog.cellsOf 3))=xs[1]?:=hx 1 _ Z
   have h2:DataW.trod enc prog W base (λ_=>true) true m 22 (([u0,u1,u2].drop 2).take (prog.cellsOf 22))=xs[2]?:=hx 2 _ Z
   rw[c3]at E h1
   rw[Yd]at h2
   have Aq:xs.length=3:=hl
   rw[List.getElem?_eq_getElem (show 0<xs.length by omega)]at E
   rw[List.getElem?_eq_getElem (show 1<xs.length by omega)]at h1
   rw[List.getElem?_eq_getElem (show 2<xs.length by omega)]at h2
   obtain⟨a,G,_,A1⟩:=DataW.trod_int underlying3 E
   obtain⟨b,O,_,Ao⟩:=DataW.trod_int underlying3 h1
   have G:u0=.int .i64 a:=by simpa[Value.cells]using G
   have O:u1=.int .i64 b:=by simpa[Value.cells]using O
   obtain⟨u,hu,hc⟩:=A2 2 u2 Z
   have hu:u=22:=by simpa using hu.symm
   subst hu
   have A0:Value.okWide prog W .any b0 22 u2:=by
    unfold Value.okWide;rw[underlying22];exact hc
   obtain⟨A,_,cap,e2⟩:=okWide_slice underlying22 A0
   have h2':DataW.trod enc prog W base (λ_=>true) true m 22 (Value.cells u2).toList=some xs[2]:=by
    rw[<-h2,e2];rfl
   obtain⟨A,cap,zs,Ap,hr,Ab,Af⟩:=Qb A0 h2'
   exact⟨a,b,A,cap,zs,by rw[G,O,Ap],P8 A1,P8 Ao,hr,Ab,Af⟩
end
def gEr : prog.globalNamed "yardstick/adjust.errFails" = some 0 := by kernel_rfl
def tEr:(prog.globals[0]?).map (·.type)=some 96:=by kernel_rfl
def ZT:(((begin prog (λ_ _=>0) default).world.heap[0]?).bind Obj.row?).map (·.2)=some 96:=by kernel_rfl
def zEr:∃z,(((begin prog (λ_ _=>0) default).world.heap[0]?).bind Obj.row?)=some (z,96):=by
 obtain⟨⟨z,t⟩,h,e⟩:=Option.map_eq_some_iff.1 ZT
 cases e;exact⟨z,h⟩
def nEr:0<prog.globals.size:=of_decide_eq_true Hx
def Ml : "*errors.errorString" = "*" ++ "errors.errorString" := by decide +kernel
def Qd (u : TypeId)(h : prog.typeName? 3 u = some "*errors.errorString") : u = 316 :=
 typeName_ptr_named (P := prog) (nm := "errors.errorString") Hx Hx RK u (by rw [← Ml]; exact h)
def Ve {r : List (String × DataW Unit)}(hS : W.ShapedOpen prog)(h : laidMet prog (("yardstick/adjust.errFails", .iface "*errors.errorString" (.ptr (.agg [.lit (.string [97, 100, 106, 117, 115, 116])]))) :: r) W) : ∃ a, Er W a := by
 obtain⟨a,s,hv,_⟩:=laid_sentinel h gEr tEr underlying96 Qd underlying316 underlying318 Z Z underlying9 Hx Hx
 obtain⟨z,G⟩:=zEr
 obtain⟨cs',E,_⟩:=hS.1 0 z 96 nEr G
 have hc:cs'=#[.iface 316 (.pointer (some a))]:=by
  simp only[World.var?,gEr,Option.bind_some,E]at hv
  exact qb5 hv
 subst hc
 exact⟨a,E⟩
end
end Go.Proofs.YtlmihmlnpjkblaaGreatDoor
