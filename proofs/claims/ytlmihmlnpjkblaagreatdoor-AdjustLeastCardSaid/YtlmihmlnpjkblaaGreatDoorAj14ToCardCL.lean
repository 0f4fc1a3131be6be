/- Part of the proof of a statement about an adjustment. -/
import Derived.Test.YtlmihmlnpjkblaaGreatDoorAj10ToAjNL
import Derived.Stop.LaidErr
import Derived.Test.YtlmihmlnpjkblaaGreatDoorTie
import Derived.Test.YtlmihmlnpjkblaaGreatDoorCards
import Derived.ProofKit
import Derived.OpenShut
import Derived.LaidMore
import Derived.Lay
import Derived.SevenTiedAt
import Derived.Stop.Joined
import Derived.Deep.SlicePairs
import Derived.Deep.Frames
import Derived.Deep.Onto
import Derived.WideKeyArgs
import Derived.SizedLaws
set_option linter.all false
namespace Go.Proofs.YtlmihmlnpjkblaaGreatDoor
open Go Go.Eng Go.RowKit Proofs.Tryz
variable {bs l:List Nat}{xs vs:List Value}{n yl b2 b3 b4 b5 base k s ts a ta sz b i j M n0 b1 lo c N D1 D2 C CY CB pl gf CX o:Nat}{ls sp:Nat->Bool}{e:Nat->Value}{A Y B X:Option Addr}{P:Program}{el t:TypeId}{v x v':Value}{W W' w0 w w1 w':World}
section
attribute [local irreducible] wpListIn Code.wpIn Oper.wpIn Exit.then Exit.inBlock Exit.noGoto
set_option maxHeartbeats 40000000
def Hl (n m yl b2 b3 b4 b5:Nat)(W:World):Prop:=
 ap W b2 3 #[.int .i64 n]/\ap W b3 149 #[.func (.yield yl) #[] #[]]/\ap W b4 3 #[.int .i64 m]/\ap W b5 150 #[.func (.func 108) #[] #[pT b2,pT b3,pT b4,pT b5]]
def Hl.kpc {m:Nat}(h:Hl n m yl b2 b3 b4 b5 W)(k:jc bs W W')(hb:b2∉bs/\b3∉bs/\b4∉bs/\b5∉bs):Hl n m yl b2 b3 b4 b5 W':=
 ⟨k.blk hb.1 h.1,k.blk hb.2.1 h.2.1,k.blk hb.2.2.1 h.2.2.1,k.blk hb.2.2.2 h.2.2.2⟩
def FD.kpc (h:FD w0 base el v k xs x s ts a ta ls e w):jc (bl v) w0 w:=by
 cases ha:ls a with
 |false=>exact jc.ofE (h.1 ha).1
 | true=>
   obtain⟨_,_,p,q,r⟩:=h.2 ha
   exact(jc.ofE p).trans (q.kpc.trans (jc.ofE r))
def lK (h:w.ownsRow base el sz v k xs)(hb:b<base):b∉bl v:=λhm=>by
 have:=(yM h (u9.1 hm)).1;omega
def jc.nil (k:jc [] W W'):jc bs W W':=⟨k.size,λ_ h=>k.blk Wf h⟩
def va (l:List Nat)(i:Nat):ints (l++[i])=ints l++[.int .i64 i]:=by simp[ints]
def L0 (h:w.ownsRow base el 1 v (l.length+1) (ints l++[.int .i64 i])):w.ownsRow base el 1 (.slice (sA v) (l++[i]).length (sC v)) (l++[i]).length (ints (l++[i])):=by
 have e:=dj h
 rw[va,List.length_append,List.length_singleton]
 rwa [<-e]
def Hm {α:Type}{a b:List α}{d:α}(h:j<a.length):(a++b).getD j d=a.getD j d:=by simp[List.getD,List.getElem?_append_left h]
def Hn {α:Type}{a b:List α}{d:α}:(a++b).getD (a.length+j) d=b.getD j d:=by simp[List.getD,List.getElem?_append_right]
def Dm (h:W.ownsRow base el 1 (.slice (sA v') (l++[i]).length (sC v')) (l++[i]).length (ints (l++[i])))(hA:mL w w1 base el v v' l.length (ints l) (.int .i64 i)):W.ownsRow base el 1 v' (l.length+1) (ints l++[.int .i64 i]):=by
 have e:=dj hA.own
 rw[va,List.length_append,List.length_singleton]at h
 rw[e];exact h
def XY (hA:mL w w1 base el v v' l.length (ints l) (.int .i64 i))(k:jc (bl (.slice (sA v') (l++[i]).length (sC v'))) W W'):jc (bl v') W W':=by
 have e:=dj hA.own
 rw[List.length_append,List.length_singleton]at k
 rw[e];exact k
def Rw.blk1 (h:ap w b t #[x]):Rw w 0 (some ⟨b,0,none⟩) [x]:=by
 refine⟨λj u hu=>⟨b,0,rfl,?_⟩,λE e=>qa7 _,λE e=>by cases e;exact bt h⟩
 match j,hu with
 |0,hu=>cases hu;exact ab4 h Z
def FD.lit (h:FD w0 base el v k xs x s ts a ta ls e w)(hn:ls a=false)(hs:ls s=true):aO w0 w/\∃b,e ts=.slice (some ⟨b,0,none⟩) 1 1/\Rw w 0 (some ⟨b,0,none⟩) [x]:=⟨(h.1 hn).1,(h.1 hn).2 hs⟩
set_option maxRecDepth 100000 in
def wZ {m first:Nat}{k6 Jx:Nat->World->Prop}{S:Nat->List Nat}(hbx:b2<base/\b3<base/\b4<base/\b5<base)(hn0:n0<=base)(hm:m<=100)(hJ0:∀k,jW n0 (k6 k))(hY:∀k v W1,k<M->k6 k W1->(∃A c lo,v=.slice A (S k).length c/\Rw W1 lo A (ints (S k)))->YieldAt Fence.wide 7 prog yl #[v] W1 λe W'=>(e=.returned (.bool true)/\k6 (k+1) W'/\jc [] W1 W')\/(e=.returned (.bool false)/\Jx (k+1) W'))(hfm:first<=m)(ih:∀i,first<=i->i<m->LZ prog 108 [pT b2,pT b3,pT b4,pT b5] (Hl n m yl b2 b3 b4 b5) base 3 k6 Jx S M n m (i+1)):
 LZ prog 108 [pT b2,pT b3,pT b4,pT b5] (Hl n m yl b2 b3 b4 b5) base 3 k6 Jx S M n m first:=by
 intro A l A0 k Wa b0 K3 ho hbase Ab hkM hS;obtain⟨Ap,Aw,As,Ao⟩:=K3;have E:jc (bl (Value.slice A l.length A0)) Wa Wa:=jc.refl' Wa;have a8:l.length<=100:=J
 refine callsIn_wide.1 (D3 (args:=[.slice A l.length A0,.int .i64 first,pT b2,pT b3,pT b4,pT b5]) func108 Z ?_);refine I ?_;by_cases fy:((l.length:Nat):Int)=(n:Int);have Ar:l.length=n:=J
 refine I ?_;have hG:yW n m first l=[l]:=if_pos Ar;rw[hG]at hkM hS;have hSk:S k=l:=hS 0 Nat.one_pos;have hkM2:k<M:=by have:k+1<=M:=hkM;omega
 refine aa (xB (l:=yl) (vs:=[.slice A l.length A0]) Z (av Z Z) (hY k _ Wa hkM2 Ab ⟨A,A0,base,by rw[hSk],by rw[hSk];exact gi ho⟩) ?_);rintro ac bZ (⟨rfl,Av,G⟩|⟨rfl,hx⟩);refine I ?_;exact gT (v:=.bool true) (bY Z (aL (t:=8) GS _)) (.inl ⟨rfl,by rw[hG];exact Av,yL ho G (λg _=>by simp),G.nil⟩);refine I ?_;exact gT (v:=.bool false) (bY Z (aL (t:=8) GS _)) (.inr ⟨rfl,_,hx⟩);have Ar:¬l.length=n:=J
 refine I ?_;have hG:yW n m first l=HP n (m-first) first l:=if_neg Ar;rw[hG]at hkM hS;refine cg [(8,9),(18,31)] (λKY e W=>∃i:Nat,∃q:Nat,(m-i=KY)/\(e 9=.int .i64 i)/\(first<=i)/\(i<=m)/\(base<=W.heap.size)/\(q+(HP n (m-i) i l).length<=M)/\(q+(HP n (m-i) i l).length=k+(HP n (m-first) first l).length)/\(∀j,j<(HP n (m-i) i l).length->S (q+j)=(HP n (m-i) i l).getD j [])/\(jc (bl (Value.slice A l.length A0)) Wa W)/\(ap W b2 3 #[.int .i64 n])/\(ap W b3 149 #[.func (.yield yl) #[] #[]])/\(ap W b4 3 #[.int .i64 m])/\(ap W b5 150 #[.func (.func 108) #[] #[pT b2,pT b3,pT b4,pT b5]])/\(k6 q W)/\(W.ownsRow base 3 1 (Value.slice A l.length A0) l.length (ints l))) (m-first) ⟨first,k,rfl,rfl,(qa0 _),hfm,U,hkM,rfl,hS,E,Ap,Aw,As,Ao,Ab,ho⟩ ?_;rintro _ _ ny ⟨i,q,rfl,a6,W3,bW,a3,hqM,hq,hSq,E1,Ap,Aw,As,Ao,Az,H⟩;by_cases hlt:i<m;refine I ?_;refine UU tm 7 [23,24,25,26,27,28,29] [some (23,.func (.func 108) #[] #[pT b2,pT b3,pT b4,pT b5]),some (24,.slice A l.length A0),some (25,.int .i64 i),none,none,some (28,.int .i64 i),some (29,.int .i64 ((i+1:Nat):Int))] (FD ny base 3 (Value.slice A l.length A0) l.length (ints l) (.int .i64 i) 3 26 4 27) FD.start q0 q0 q0 ?_ ?_;refine⟨λE5 _ _ od _ Cr _ _ _=>?_,?_⟩;obtain⟨E5,rfl⟩:=dX od
 have an:=Cr.kpc.blk (lK H U) Ao;refine I ?_;exact XX Z Cr;refine⟨λS0 _ _ E9 _ Ix _ _ _=>?_,?_⟩;obtain⟨S0,rfl⟩:=dX E9;refine I ?_;exact XX Z Ix;refine⟨λH4 _ _ FR _ X0 _ _ _=>?_,?_⟩;obtain⟨H4,rfl⟩:=dX FR;refine I ?_;exact XX Z X0;refine⟨λwr _ _ L3 H3 T3 _ _ _=>?_,?_⟩;obtain⟨wr,rfl⟩:=dX L3;have ES:=gm (H3 2 _ _ Z Z);refine aa (XQ (vs:=[(0,.int .i64 i)]) (cells:=#[.int .i64 i]) ks k7 (cY ES Z) dc dc q0 (λ_ Lj S9=>?_));refine I ?_;exact ZB Z T3 Lj.2 (Rw.blk1 S9);refine⟨λP2 _ _ X2 VW CG _ E0 Lk=>?_,?_⟩;obtain⟨P2,rfl⟩:=dX X2;obtain⟨Ay,N0,KC,WV⟩:=CG.lit E0 (Lk 3 Z);have Li:=gm (VW 1 _ _ Z Z);refine aa (UV (b:=N0) (lo:=0) ks k7 Z (hx:=by exact Li) (ab Ay H) (hy:=by exact KC) WV Z U dc (qa8 U (bz Ay)) (λ_ _ Q0=>?_));refine I ?_;exact ZC Z CG E0 Q0;refine⟨λK2 _ _ Rm _ No _ _ _=>?_,?_⟩;obtain⟨K2,rfl⟩:=dX Rm;refine I ?_;exact XX Z No;refine⟨λNe _ _ L1 P0 a0 _ _ _=>?_,?_⟩;obtain⟨Ne,rfl⟩:=dX L1;have a4:=gm (P0 5 _ _ Z Z);refine gP (I ?_);exact XX Z a0;exact trivial;intro O E6 _ L2 EW nm A2;obtain⟨O,rfl⟩:=dX EW;obtain⟨_,_,Am,A1,Aq⟩:=A2.2 (L2 4 Z);have a9:=A2.kpc.size;have Af:=ab Aq (L0 (A1).own)
 have B1:=A2.kpc.blk (lK H U) Ap;have B2:=A2.kpc.blk (lK H U) Aw;have C1:=A2.kpc.blk (lK H U) As;have E4:=A2.kpc.blk (lK H U) Ao;have L4:=(hJ0 _).ext Aq ((A1).stab (ab Am H) (hJ0 _) hn0 ((hJ0 _).ext Am Az));have GC:O 27=.slice (sA (O 27)) ((l++[i]).length) (sC (O 27)):=by rw[List.length_append,List.length_singleton];exact dj (A1).own
 have hstep:=LY (n:=n) (l:=l) hlt;rw[hstep]at hSq;have G0:=qb2 List.length hstep;rw[List.length_append]at G0;have W2:=gm (nm 0 _ _ Z Z);have E7:=gm (nm 6 _ _ Z Z);refine aa (A4 (vs:=[.slice (sA (O 27)) ((l++[i]).length) (sC (O 27)),.int .i64 ((i+1:Nat):Int)]) (lb:=[pT b2,pT b3,pT b4,pT b5]) IH (hx:=by exact W2) (hv:=by exact(av GC (av E7 Z))) (ih i W3 hlt (sA (O 27)) (l++[i]) (sC (O 27)) q E6 q4 ⟨B1,B2,C1,E4⟩ Af U L4 U (λj Ab=>by rw[hSq j (by rw[List.length_append];omega),Hm Ab])) ?_);rintro v ad (⟨rfl,Av,Vm,G⟩|⟨rfl,hx⟩);have Ax:=(jc.ofE Aq).trans G;have KM:=G.blk (lK Af U) B1;have P1:=G.blk (lK Af U) B2;have a2:=G.blk (lK Af U) C1;have Kp:=G.blk (lK Af U) E4;have T2:=(A1).back (ab Am H) (Dm Vm A1) (XY A1 Ax);have H2:=E1.trans ((jc.ofE Am).trans ((A1).inner (XY A1 Ax)));have a5:=G.size;refine I ?_;refine gP (I ?_);exact bI ⟨i+1,q+(yW n m (i+1) (l++[i])).length,rfl,rfl,U,U,U,U,U,(λj Ab=>by have h:=hSq ((yW n m (i+1) (l++[i])).length+j) (by rw[List.length_append];omega);rw[Hn]at h;rw[<-h,Nat.add_assoc]),H2,KM,P1,a2,Kp,Av,T2⟩;refine I ?_;exact gT (v:=.bool false) (bY Z (aL (t:=8) GS _)) (.inr ⟨rfl,hx⟩);have La:=PG (n:=n) (l:=l) hlt
 rw[La]at hq;refine I ?_;exact gT (v:=.bool true) (bY Z (aL (t:=8) GS _)) (.inl ⟨rfl,by rw[hG,<-hq];exact Az,H,E1⟩)
set_option maxRecDepth 100000
def ZD (n m:Nat)(k:Nat)(v:Value)(W:World):Prop:=∃A c lo,v=.slice A ((yW n m 0 []).getD k []).length c/\Rw W lo A (ints ((yW n m 0 []).getD k []))
def FE {m:Nat}{k6 Jx:Nat->World->Prop}{S:Nat->List Nat}(hbx:b2<base/\b3<base/\b4<base/\b5<base)(hn0:n0<=base)(hm:m<=100)(hJ0:∀k,jW n0 (k6 k))(hY:∀k v W1,k<M->k6 k W1->(∃A c lo,v=.slice A (S k).length c/\Rw W1 lo A (ints (S k)))->YieldAt Fence.wide 7 prog yl #[v] W1 λe W'=>(e=.returned (.bool true)/\k6 (k+1) W'/\jc [] W1 W')\/(e=.returned (.bool false)/\Jx (k+1) W')):
 ∀d first,m-first<=d->first<=m->LZ prog 108 [pT b2,pT b3,pT b4,pT b5] (Hl n m yl b2 b3 b4 b5) base 3 k6 Jx S M n m first
 |0,first,h,hf=>wZ hbx hn0 hm hJ0 hY hf λi h1 h2=>by omega
 |d+1,first,h,hf=>wZ hbx hn0 hm hJ0 hY hf λi h1 h2=>FE hbx hn0 hm hJ0 hY d (i+1) U U
def vb {m:Nat}(h1:ap w b1 3 #[.int .i64 n])(h2:ap w b2 3 #[.int .i64 m])(hm:m<=100):
 RA prog 107 [pT b1,pT b2] (ZD n m) [] (yW n m 0 []).length w:=by
 intro l k6 Jx Wa hW hJ0 hY E;have⟨h1,h2⟩:=dZ hW h1 h2;refine qn ?_;have Ao:=bt h1;have Ap:=bt h2;refine D3 func107 Z (I ?_);refine bx (v:=.func (.yield l) #[] #[]) (hx:=rfl) (λA1 A2 G=>?_);have⟨h1,h2⟩:=dZ A2.2 h1 h2;have E:=(hJ0 _).ext A2.2 E;refine I ?_;refine al M5 (λ_ O Am=>?_);have⟨h1,h2⟩:=dZ O.2 h1 h2;have E:=(hJ0 _).ext O.2 E;have G:=be O.2 G;refine I ?_;refine aa (aD (vf:=[]) (vc:=[pT b1,pT Wa.heap.size,pT b2,pT A1.heap.size]) Z Z ?_);refine SO Am (λAf H Ab=>?_) (hi:=R6);have⟨h1,h2⟩:=jU H h1 h2;have E:=(hJ0 _).put H U E;have G:=pb H G;have Aw:=iM H;refine I ?_;have Ar:=bt h1;have As:=bt G;have Ax:=bt h2;have Aq:=bt Ab;refine aa (A4 (vs:=[.slice none 0 0,.int .i64 0]) (lb:=[pT b1,pT Wa.heap.size,pT b2,pT A1.heap.size]) IH (hx:=by exact Z) (hv:=by exact Z) (FE (base:=Af.heap.size) (n0:=Wa.heap.size) (M:=(yW n m 0 []).length) (S:=λk=>(yW n m 0 []).getD k []) (Jx:=Jx) ⟨by omega,by omega,by omega,by omega⟩ U hm hJ0 hY m 0 U U none [] 0 0 Af (qa0 _) ⟨h1,G,h2,Ab⟩ bK (qa0 _) E U (λj A0=>by rw[Nat.zero_add])) ?_);rintro v Av (⟨rfl,A0,_,_⟩|⟨rfl,hx⟩);refine I ?_;exact sh Z λv=>⟨⟨v,rfl⟩,.inl (by rw[Nat.zero_add]at A0;exact A0)⟩;refine I ?_;exact sh Z λv=>⟨⟨v,rfl⟩,.inr hx⟩
def A7 {m:Nat}:
 CL 49 #[.int .i64 m,.int .i64 n] w (aG w λv w'=>∃b1 b2,v=.func (.func 107) #[] #[pT b1,pT b2]/\ap w' b1 3 #[.int .i64 n]/\ap w' b2 3 #[.int .i64 m]/\w.heap.size<=b1/\w.heap.size<=b2):=by
 refine aC func49 Z (I ?_);refine bx (λH A1 E=>?_);have G:=A1.2;refine bx (λ_ A0 O=>?_);have⟨E,G⟩:=bn A0.2 E G;refine aa (aK (v:=.nilFunc) Z ?_);refine I ?_;refine aa (aD (vf:=[]) (vc:=[pT H.heap.size,pT w.heap.size]) Z Z ?_);refine I ?_;exact am (t:=4) (v:=.func (.func 107) #[] #[pT H.heap.size,pT w.heap.size]) Z G ⟨_,_,rfl,O,E,by omega,by omega⟩ Z
def Hp {ad:Addr}{xs:List Nat}(hx:Rw w lo (some ad) (ints xs))(hl:xs.length<=1000000):
 CL 50 #[.slice (some ad) xs.length c] w (aG w λv w'=>World.ownsRow w' w.heap.size 3 1 v xs.length (ints xs)):=by
 refine aC func50 Z (I ?_);refine aa (uE (A:=some ad) ks Z Z ?_);refine I ?_;(try refine fh (qb2 Value.bool Z) ?_);refine I ?_;refine aa (zt ks k7 (λ_ G _ O=>?_));have E:=G;have A2:=bz G;refine I ?_;refine aa (jz (v:=.slice (some ⟨w.heap.size,0,none⟩) 0 0) (k:=0) (m:=xs.length) (news:=(ints xs)) ks k7 Z dc Z O Z (hx.ext E) (by simp[ints]) (by intro u hu;simp[ints]at hu;obtain⟨a,_,rfl⟩:=hu;rfl) RC U U (λH _ A0 A1 _=>?_));have E:=bm O U U E A1;rw[List.nil_append]at A0;refine aa (aK (v:=H) Z ?_);refine I ?_;exact am (t:=2) (v:=H) Z E (aM A0 (Nat.zero_add _) Z) Z
def KO.ofExt (k:aO W W'):KeepsOthers W W':=⟨k.size,λ_ _ h _=>k.heap h⟩
def KO.put {cs:Array Value}(k:eE W W' b)(h:ap W b t cs):KeepsOthers W W':=
 ⟨by rw[k.size];exact qa0 _,λi o hi hc=>(k.block i (λe=>by subst e;unfold ap at h;rw[h]at hi;cases hi;cases hc)).trans hi⟩
def FF {cs:List Value}{r r':Loop}(h:Rw W lo A cs)(hl:W.heap[b]?=some (.loop r)):Rw (W.putObj b (.loop r')) lo A cs:=by
 refine⟨λj u hu=>?_,h.lo,λG e=>by have:=h.hi G e;simpa using this⟩
 obtain⟨H,o,e,hc⟩:=h.cells j u hu
 refine⟨H,o,e,?_⟩
 rw[<-hc]
 refine(di W b (.loop r')).cell ?_
 intro hb
 simp only at hb
 subst hb
 obtain⟨_,E,O⟩:=cells_of_cell hc
 rw[hl]at E
 cases E;cases O
def PH {fn:Func}{R:Value->World->Prop}(h2:li w' D2)(h1:li w' D1)(hne:D1≠D2)(hr:(results fn (act N e [⟨.collected D2,#[]⟩,⟨.collected D1,#[]⟩]).tmps).run P ((w'.putObj D2 (.deferred none)).putObj D1 (.deferred none))=.ok v ((w'.putObj D2 (.deferred none)).putObj D1 (.deferred none)))(hx:aO w ((w'.putObj D2 (.deferred none)).putObj D1 (.deferred none)))(hR:R v ((w'.putObj D2 (.deferred none)).putObj D1 (.deferred none))):bodyPostM Fence.wide 9 P fn (aG w R) .ret (act N e [⟨.collected D2,#[]⟩,⟨.collected D1,#[]⟩]) w':=
 ⟨by simp,.inl ⟨D2,_,rfl,run_takeDeferred h2,by simp,.inl ⟨D1,_,rfl,run_takeDeferred (ac7 (dA w') hne h1),v,hr,hx,hR⟩⟩⟩
set_option maxHeartbeats 4000000 in
set_option maxRecDepth 100000 in
def Hq {L V:Rows}{ys:List R}(hD:ey w A C Y CY B CB L V ys)(ok:eT L V ys)(h3:ys.length=3){la lb:Int}(ql:Q9 la lb)(h12:pl<=12)(hl1:0<=aN (la*1000000) (1*lb))(hl2:aN (la*2) (1*lb)<=0){KM3 KC3 KM2 KC2:Rows}{KY3 KY2:List R}(pe3:pY L V ys [0,1,2] KM3 KC3 KY3)(ok3:eT KM3 KC3 KY3)(pe2:pY L V ys [0,1] KM2 KC2 KY2)(ok2:eT KM2 KC2 KY2)(hC3:∀A C Y CY B CB W,ey W A C Y CY B CB KM3 KC3 KY3->Tb W->CL 19 #[.agg #[.slice A KY3.length C,.slice Y KY3.length CY,.slice B KY3.length CB],QV la lb,.int .i64 pl] W (aG W λv _=>v=.tuple #[.int .i64 2,.int .i64 0]))(hC2:∀A C Y CY B CB W,ey W A C Y CY B CB KM2 KC2 KY2->Tb W->CL 19 #[.agg #[.slice A KY2.length C,.slice Y KY2.length CY,.slice B KY2.length CB],QV la lb,.int .i64 pl] W (aG W λv _=>v=.tuple #[.int .i64 1,.int .i64 0]))(hb1:ap w b1 33 #[S ((qR la lb).1),S ((qR la lb).2)])(hb2:ap w b2 3 #[.int .i64 pl])(hb3:ap w b3 30 #[.slice A ys.length C,.slice Y ys.length CY,.slice B ys.length CB])(ht:Tb w):
 CL 48 #[pT b1,pT b2,pT b3] w (aG w λv w'=>w'.ownsRow w.heap.size 3 1 v 2 (ints [0,1])):=by
 obtain⟨_,H,hM⟩:=hD.m;obtain⟨_,hy⟩:=hD.y;obtain⟨_,G,hV⟩:=hD.v;have bb:=bt hb1;have a5:=bt hb2;have c9:=bt hb3;have L3:Value.int .i64 ((ys.length:Nat):Int)=.int .i64 3:=by rw[h3];rfl
 refine ra func48 Z (I ?_);refine al Qx (λ_ P0 B2=>?_);have⟨hb1,hb2,hb3⟩:=wl P0.2 hb1 hb2 hb3;have As:=P0.2;refine I ?_;refine aa (bU (vs:=[(0,QV la lb),(1,.int .i64 pl)]) (cells:=#[S (qR la lb).1,S (qR la lb).2,.int .i64 pl]) (pl:=[(0,2),(2,1)]) DK sd q0 Z q0 ?_);refine cl IC (wX ql h12 hl1 hl2 (ht.ext As)) ?_;rintro _ _ T3 rfl;have⟨hb1,hb2,hb3,B2,As⟩:=ku T3.2 hb1 hb2 hb3 B2 As;refine I ?_;(try refine aa (aP (cs:=[.slice A ys.length C,.slice Y ys.length CY,.slice B ys.length CB]) (b:=b3) (o:=0) da Z bj Z (aa0 hb3 (i:=0) Z) ?_));refine cl lc (iH (hM.ext As) (dM ok.hv) (hy.ext As) (hV.ext As) (dM ok.hv3) hD.c ok.hv ok.hv3 ok.hVl ok.hLl ok.hyo ok.hp (ht.ext As)) ?_;rintro _ _ nm rfl;have⟨hb1,hb2,hb3,B2,As⟩:=ku nm.2 hb1 hb2 hb3 B2 As;refine cl fE dh ?_;rintro _ _ VW rfl;have⟨hb1,hb2,hb3,B2,As⟩:=ku VW.2 hb1 hb2 hb3 B2 As;refine I ?_;rw[L3];refine I ?_;refine Zw 1 (I ?_);rw[L3];refine I ?_;refine cl ID (A7 (m:=3) (n:=3)) ?_;rintro _ K3 W2 ⟨KC,H4,rfl,L4,K2,cT,a8⟩;have⟨hb1,hb2,hb3,B2,As⟩:=ku W2.2 hb1 hb2 hb3 B2 As;refine I ?_;have a6:=bt hb1;have b0:=bt hb2;have X2:=bt hb3;have bd:=bt B2;have bq:=bt L4;have a4:=bt K2;have Wa:w.heap.size<=K3.heap.size:=bz As
 refine A6 (M:=(yW 3 3 0 []).length) (Pa:=ZD 3 3) (bs:=[]) (gf:=107) (lb:=[pT KC,pT H4]) (p:=29) Z IG (vb L4 K2 dc) (fun(k:Nat) W=>K3.heap.size<=W.heap.size/\aO w W/\(ap W b1 33 #[S ((qR la lb).1),S ((qR la lb).2)])/\(ap W b2 3 #[.int .i64 pl])/\(ap W b3 30 #[.slice A ys.length C,.slice Y ys.length CY,.slice B ys.length CB])/\(ap W w.heap.size 22 #[.slice none (0) (0)])/\(ap W KC 3 #[.int .i64 (3)])/\(ap W H4 3 #[.int .i64 (3)])) (λ_ _ _=>False) (λk=>⟨λO ⟨Ap,E,A2,Ab,A0,A1,Af,Am⟩=>⟨qa8 Ap (bz O),xt E O,be O A2,be O Ab,be O A0,be O A1,be O Af,be O Am⟩,λO hb ⟨Ap,E,A2,Ab,A0,A1,Af,Am⟩=>⟨kc8,bi O E,pb O A2,pb O Ab,pb O A0,pb O A1,pb O Af,pb O Am⟩⟩) ?hIx3 ?h03 (λe k e' W=>k=0/\∃Az Ar Av,e'=upd (upd e 29 (.slice Az 3 Ar)) 5 (.slice Az 3 Ar)/\Rw W Av Az (ints [0,1,2])/\(fun(k:Nat) W=>K3.heap.size<=W.heap.size/\aO w W/\(ap W b1 33 #[S ((qR la lb).1),S ((qR la lb).2)])/\(ap W b2 3 #[.int .i64 pl])/\(ap W b3 30 #[.slice A ys.length C,.slice Y ys.length CY,.slice B ys.length CB])/\(ap W w.heap.size 22 #[.slice none (0) (0)])/\(ap W KC 3 #[.int .i64 (3)])/\(ap W H4 3 #[.int .i64 (3)])) k W) ?hA3 ?asn3 ?body3 ?done3 ?stop3;case hIx3=>
  rintro c k A b r E7 hb hl ⟨⟩
 case h03=>
  exact⟨qa0 _,As,hb1,hb2,hb3,B2,L4,K2⟩
 case hA3=>
  rintro k e' W b r E7 hb hl ⟨L1,Az,Ar,Av,H3,Aq,Ap,E,A2,Ab,A0,A1,Af,Am⟩;have O:=di W b (.loop E7);exact⟨L1,Az,Ar,Av,H3,FF Aq hl,kc8,bi O E,pb O A2,pb O Ab,pb O A0,pb O A1,pb O Af,pb O Am⟩
 case asn3=>
  rintro l k v W K hkM ⟨Ap,E,A2,Ab,A0,A1,Af,Am⟩ ⟨Az,Ar,Av,rfl,Aq⟩ hK;have Aw:k=0:=(by rw[show(yW 3 3 0 []).length=1 by decide]at hkM;omega);subst Aw;have Aq:Rw W Av Az (ints [0,1,2]):=Aq;refine I ?_;exact hK _ _ (aa4 _) ⟨rfl,Az,Ar,Av,rfl,Aq,Ap,E,A2,Ab,A0,A1,Af,Am⟩
 case body3=>
  rintro l k e' W hkM ⟨rfl,Az,Ar,Av,rfl,Aq,Ap,E,A2,Ab,A0,A1,Af,Am⟩;have zW:=bz E;have EW:=aa4 W;refine I ?_;(try refine aa (aP (cs:=[.slice A ys.length C,.slice Y ys.length CY,.slice B ys.length CB]) (b:=b3) (o:=0) da Z bj Z (aa0 A0 (i:=0) Z) ?_));refine I ?_;refine cl BP (yK (hD.ext E) ok (kd:=Az) (CR:=Ar) (rl:=[0,1,2]) (Aq.ext EW) pe3 ok3 (ht.ext E)) ?_;rintro _ L2 E5 ⟨cb,rfl,P1,S0,ny,od,P2,Lk,rfl,Vm⟩;have A2:=be E5.2 A2;have Ab:=be E5.2 Ab;have A0:=be E5.2 A0;have A1:=be E5.2 A1;have Af:=be E5.2 Af;have Am:=be E5.2 Am;have E:=xt E E5.2;have EW:=xt EW E5.2;have ES:=aa4 L2;refine I ?_;refine al ee (λ_ E1 S9=>?_);have A2:=be E1.2 A2;have Ab:=be E1.2 Ab;have A0:=be E1.2 A0;have A1:=be E1.2 A1;have Af:=be E1.2 Af;have Am:=be E1.2 Am;have E:=xt E E1.2;have EW:=xt EW E1.2;have ES:=xt ES E1.2;refine aa (bF (b:=L2.heap.size) (o:=0) (vs:=[.slice P1 KY3.length S0,.slice ny KY3.length od,.slice P2 KY3.length Lk]) bj Z Z KK S9 (qa3 Z) (λ_ Cr W3=>?_));have A2:=pb Cr A2;have Ab:=pb Cr Ab;have A0:=pb Cr A0
  have A1:=pb Cr A1;have Af:=pb Cr Af;have Am:=pb Cr Am;have E:=bi Cr E;have ac:=iM Cr;have EW:=bi Cr EW;have ES:=bi Cr ES;refine I ?_;(try refine aa (aP (cs:=[.slice P1 KY3.length S0,.slice ny KY3.length od,.slice P2 KY3.length Lk]) (b:=L2.heap.size) (o:=0) da Z bj Z (aa0 W3 (i:=0) Z) ?_));refine I ?_;refine cl xq (hC3 _ _ _ _ _ _ _ (gl.ext ES Vm).des (ht.ext E)) ?_;rintro _ _ E0 rfl;have A2:=be E0.2 A2;have Ab:=be E0.2 Ab;have A0:=be E0.2 A0;have A1:=be E0.2 A1;have Af:=be E0.2 Af;have Am:=be E0.2 Am;have E:=xt E E0.2;have EW:=xt EW E0.2;have ES:=xt ES E0.2;refine I ?_;exact⟨KO.ofExt EW,jc.ofE EW,U,E,A2,Ab,A0,A1,Af,Am⟩
 case done3=>
  rintro D W hD9 ⟨Ap,E,A2,Ab,A0,A1,Af,Am⟩ hK9;have zW:=bz E;have hDlt:D<W.heap.size:=(Array.getElem?_eq_some_iff.1 hK9).1;refine I ?_;refine aa (jk (a:=3) (b:=1) (c:=2) Z Z JT Z ?_);refine I ?_;refine Zx (I ?_);rw[L3];refine I ?_;refine cl ID (A7 (m:=3) (n:=2)) ?_;rintro _ GC E9 ⟨KY,KM,rfl,Kp,La,ad,cc⟩;have A2:=be E9.2 A2;have Ab:=be E9.2 Ab;have A0:=be E9.2 A0;have A1:=be E9.2 A1;have hK9:=li.ext E9.2 hK9;have E:=xt E E9.2;refine I ?_;have a9:=bt A2;have a0:=bt Ab;have bv:=bt A0;have bp:=bt A1;have bW:=bt Kp;have a2:=bt La;have Wa:w.heap.size<=GC.heap.size:=bz E;refine A6 (M:=(yW 2 3 0 []).length) (Pa:=ZD 2 3) (bs:=[]) (gf:=107) (lb:=[pT KY,pT KM]) (p:=29) Z IG (vb Kp La dc) (fun(k:Nat) W=>k=0/\GC.heap.size<=W.heap.size/\aO w W/\(ap W b1 33 #[S (qR la lb).1,S (qR la lb).2])/\(ap W b2 3 #[.int .i64 pl])/\(ap W b3 30 #[.slice A ys.length C,.slice Y ys.length CY,.slice B ys.length CB])/\(ap W w.heap.size 22 #[.slice none 0 0])/\(li W D)/\(ap W KY 3 #[.int .i64 2])/\(ap W KM 3 #[.int .i64 3])) (λc _ W=>c=.ret/\∃v0,ap W w.heap.size 22 #[v0]/\W.ownsRow w.heap.size 3 1 v0 2 (ints [0,1])/\aO w W/\GC.heap.size<=W.heap.size/\(li W D)) (λk=>⟨λO ⟨Aw,Ap,E,A2,Ab,A0,A1,Af,Am,Ao⟩=>⟨Aw,qa8 Ap (bz O),xt E O,be O A2,be O Ab,be O A0,be O A1,li.ext O Af,be O Am,be O Ao⟩,λO hb ⟨Aw,Ap,E,A2,Ab,A0,A1,Af,Am,Ao⟩=>⟨Aw,kc8,bi O E,pb O A2,pb O Ab,pb O A0,pb O A1,ac7 O U Af,pb O Am,pb O Ao⟩⟩) ?hIx2 ?h02 (λe k e' W=>k=0/\∃Az Ar Av,e'=upd (upd e 29 (.slice Az 2 Ar)) 5 (.slice Az 2 Ar)/\Rw W Av Az (ints [0,1])/\(fun(k:Nat) W=>k=0/\GC.heap.size<=W.heap.size/\aO w W/\(ap W b1 33 #[S (qR la lb).1,S (qR la lb).2])/\(ap W b2 3 #[.int .i64 pl])/\(ap W b3 30 #[.slice A ys.length C,.slice Y ys.length CY,.slice B ys.length CB])/\(ap W w.heap.size 22 #[.slice none 0 0])/\(li W D)/\(ap W KY 3 #[.int .i64 2])/\(ap W KM 3 #[.int .i64 3])) k W) ?hA2 ?asn2 ?body2 ?done2 ?stop2
  case hIx2=>
   rintro c k A b r E7 hb hl ⟨rfl,v0,hB,hO,hE0,Li,G0⟩;have O:=di A b (.loop E7);exact⟨rfl,v0,(jc.putObj (bs:=[]) hl).blk Wf hB,yL hO (jc.putObj (bs:=[]) hl) (λg _=>by simp),bi O hE0,(by rw[O.size];exact Li),ac7 O U G0⟩
  case h02=>
   exact⟨rfl,qa0 _,E,A2,Ab,A0,A1,hK9,Kp,La⟩
  case hA2=>
   rintro k e' W b r E7 hb hl ⟨L1,Az,Ar,Av,H3,Aq,Aw,Ap,E,A2,Ab,A0,A1,Af,Am,Ao⟩;have O:=di W b (.loop E7);exact⟨L1,Az,Ar,Av,H3,FF Aq hl,Aw,kc8,bi O E,pb O A2,pb O Ab,pb O A0,pb O A1,ac7 O U Af,pb O Am,pb O Ao⟩
  case asn2=>
   rintro l k v W K hkM ⟨Aw,Ap,E,A2,Ab,A0,A1,Af,Am,Ao⟩ ⟨Az,Ar,Av,rfl,Aq⟩ hK;subst Aw;have Aq:Rw W Av Az (ints [0,1]):=Aq;have Aw:0=0:=rfl;refine I ?_;exact hK _ _ (aa4 _) ⟨rfl,Az,Ar,Av,rfl,Aq,rfl,Ap,E,A2,Ab,A0,A1,Af,Am,Ao⟩
  case body2=>
   rintro l k e' W hkM ⟨rfl,Az,Ar,Av,rfl,Aq,Aw,Ap,E,A2,Ab,A0,A1,Af,Am,Ao⟩;have zW:=bz E;have EW:=aa4 W;obtain⟨bZ,X0,rfl,_⟩:=Aq.cells 0 _ Z;refine I ?_;(try refine aa (aP (cs:=[.slice A ys.length C,.slice Y ys.length CY,.slice B ys.length CB]) (b:=b3) (o:=0) da Z bj Z (aa0 A0 (i:=0) Z) ?_));refine I ?_;refine cl BP (yK (hD.ext E) ok (kd:=(some ⟨bZ,X0,none⟩)) (CR:=Ar) (rl:=[0,1]) (Aq.ext EW) pe2 ok2 (ht.ext E)) ?_;rintro _ H2 E4 ⟨an,rfl,No,N0,Rm,wr,Ne,Q0,rfl,W1⟩;have A2:=be E4.2 A2;have Ab:=be E4.2 Ab;have A0:=be E4.2 A0;have A1:=be E4.2 A1;have Af:=li.ext E4.2 Af;have Am:=be E4.2 Am;have Ao:=be E4.2 Ao;have E:=xt E E4.2;have EW:=xt EW E4.2;have ES:=aa4 H2;refine I ?_;refine al ee (λ_ C1 Lj=>?_);have A2:=be C1.2 A2;have Ab:=be C1.2 Ab;have A0:=be C1.2 A0;have A1:=be C1.2 A1;have Af:=li.ext C1.2 Af;have Am:=be C1.2 Am;have Ao:=be C1.2 Ao;have E:=xt E C1.2;have EW:=xt EW C1.2;have ES:=xt ES C1.2;refine aa (bF (b:=H2.heap.size) (o:=0) (vs:=[.slice No KY2.length N0,.slice Rm KY2.length wr,.slice Ne KY2.length Q0]) bj Z Z KK Lj (qa3 Z) (λ_ B1 E6=>?_))
   have A2:=pb B1 A2;have Ab:=pb B1 Ab;have A0:=pb B1 A0;have A1:=pb B1 A1;have Af:=ac7 B1 (Af.ne Lj) Af;have Am:=pb B1 Am;have Ao:=pb B1 Ao;have E:=bi B1 E;have a3:=iM B1;have EW:=bi B1 EW;have ES:=bi B1 ES;refine I ?_;(try refine aa (aP (cs:=[.slice No KY2.length N0,.slice Rm KY2.length wr,.slice Ne KY2.length Q0]) (b:=H2.heap.size) (o:=0) da Z bj Z (aa0 E6 (i:=0) Z) ?_));refine I ?_;refine cl xq (hC2 _ _ _ _ _ _ _ (gl.ext ES W1).des (ht.ext E)) ?_;rintro _ _ CG rfl;have A2:=be CG.2 A2;have Ab:=be CG.2 Ab;have A0:=be CG.2 A0;have A1:=be CG.2 A1;have Af:=li.ext CG.2 Af;have Am:=be CG.2 Am;have Ao:=be CG.2 Ao;have E6:=be CG.2 E6;have E:=xt E CG.2;have EW:=xt EW CG.2;refine I ?_;refine clb SJ (hc:=Hp (xs:=[0,1]) (Aq.ext EW) dc) (hk:=?_);rintro T2 _ Ax FR;have Ax:=Ax.2;have A2:=be Ax A2;have Ab:=be Ax Ab;have A0:=be Ax A0;have A1:=be Ax A1;have Af:=li.ext Ax Af;have Am:=be Ax Am;have Ao:=be Ax Ao;have E6:=be Ax E6;have E:=xt E Ax;have EW:=xt EW Ax;refine aa (cC (b:=w.heap.size) (o:=0) (v:=T2) BD Z Z (bQ FR) A1 (qa3 Z) (λ_ Ay WV=>?_))
   have KO9:=(KO.ofExt EW).trans (KO.put Ay A1);have A2:=pb Ay A2;have Ab:=pb Ay Ab;have A0:=pb Ay A0;have Af:=ac7 Ay (Af.ne A1) Af;have Am:=pb Ay Am;have Ao:=pb Ay Ao;have E6:=pb Ay E6;have FR:=ax Ay (λe=>by have:=aU FR _ e;omega) FR;have E:=bi Ay E;have ce:=iM Ay;refine I ?_;exact⟨KO9,rfl,_,WV,(ck U FR),E,U,Af⟩
  case done2=>
   rintro D W hD9 ⟨Aw,Ap,E,A2,Ab,A0,A1,Af,Am,Ao⟩ hK9;exact absurd Aw dc
  case stop2=>
   rintro D2 c k W hD9 ⟨rfl,v0,hB,hO,hE0,Li,G0⟩ hK9;refine I ?_;have Ix:D≠D2:=J
   have hB9:=ap.dfr (ac7 (dA W) Ix G0) (ap.dfr hK9 hB);refine PH (v:=v0) hK9 G0 Ix (bY Z ?_) ((dA _).low ((dA _).low hE0 U) U) (DZ (ac7 (dA W) Ix G0) (DZ hK9 hO));refine bC (t:=3) (b:=w.heap.size) (o:=0) ks Z ?_ ?_;exact Z;exact ab4 hB9 Z
 case stop3=>
  rintro D c k W hD9 ⟨⟩
def L5 {lb:List Value}{xs:List Nat}(hg:Enters prog gf)(hc:∀W,aO w W->CL gf lb.toArray W (aG W λv w'=>w'.ownsRow W.heap.size 3 1 v k (ints xs))):
 CL 47 #[.func (.func gf) #[] lb.toArray] w (aG w λv w'=>∃u,v=.tuple #[u,.int .i64 0]/\w'.ownsRow w.heap.size 3 1 u k (ints xs)):=by
 refine lQ func47 Z (I ?_);refine al Qx (λA0 Ap H=>?_);have E:=Ap.2;refine al lO (λ_ Am O=>?_);have⟨H,E⟩:=bn Am.2 H E;refine I ?_;refine aa (aD (vf:=[]) (vc:=[pT w.heap.size,pT A0.heap.size]) Z Z ?_);refine aa (i8 (lb:=[pT w.heap.size,pT A0.heap.size]) Z ?_);refine I ?_;refine aa (lW (f:=gf) (lb:=lb) (vs:=[]) hg Z Z (hc _ E) ?_);rintro Af _ Aq G;have⟨H,O,E⟩:=cj Aq.2 H O E;refine aa (cC (b:=w.heap.size) (o:=0) (v:=Af) BD Z Z (bQ G) H (qa3 Z) (λ_ A1 A2=>?_));have O:=pb A1 O;have G:=ax A1 (λe=>by have:=aU G _ e;omega) G;have E:=bi A1 E;refine SO O (λ_ Ab Ao=>?_);have A2:=pb Ab A2;have G:=ax Ab (λe=>by have:=aU G _ e;omega) G;have E:=bi Ab E;refine I ?_;refine og (b1:=w.heap.size) (b2:=A0.heap.size) (v:=.tuple #[Af,.int .i64 0]) SY (λ_ _=>Kd) E (cO (r1:=.cell 2 22) (r2:=.cell 3 36) Z ?_ ?_) ⟨_,rfl,ck U G⟩;refine bC (t:=2) (b:=w.heap.size) (o:=0) ks Z ?_ ?_;exact Z;exact ab4 A2 Z;refine bC (t:=3) (b:=A0.heap.size) (o:=0) y5 Z ?_ ?_;exact Z;exact ab4 Ao Z
def L6 {L V:Rows}{ys:List R}(hD:ey w A C Y CY B CB L V ys)(ok:eT L V ys)(h3:ys.length=3){la lb:Int}(ql:Q9 la lb)(h12:pl<=12)(hl1:0<=aN (la*1000000) (1*lb))(hl2:aN (la*2) (1*lb)<=0){KM3 KC3 KM2 KC2:Rows}{KY3 KY2:List R}(pe3:pY L V ys [0,1,2] KM3 KC3 KY3)(ok3:eT KM3 KC3 KY3)(pe2:pY L V ys [0,1] KM2 KC2 KY2)(ok2:eT KM2 KC2 KY2)(hC3:∀A C Y CY B CB W,ey W A C Y CY B CB KM3 KC3 KY3->Tb W->CL 19 #[.agg #[.slice A KY3.length C,.slice Y KY3.length CY,.slice B KY3.length CB],QV la lb,.int .i64 pl] W (aG W λv _=>v=.tuple #[.int .i64 2,.int .i64 0]))(hC2:∀A C Y CY B CB W,ey W A C Y CY B CB KM2 KC2 KY2->Tb W->CL 19 #[.agg #[.slice A KY2.length C,.slice Y KY2.length CY,.slice B KY2.length CB],QV la lb,.int .i64 pl] W (aG W λv _=>v=.tuple #[.int .i64 1,.int .i64 0]))(ht:Tb w):
 CL 21 #[.agg #[.slice A ys.length C,.slice Y ys.length CY,.slice B ys.length CB],QV la lb,.int .i64 pl] w (aG w λv w'=>∃u,v=.tuple #[u,.int .i64 0]/\w'.ownsRow w.heap.size 3 1 u 2 (ints [0,1])):=by
 obtain⟨_,H,_⟩:=hD.m;obtain⟨_,_⟩:=hD.y;obtain⟨_,G,_⟩:=hD.v;refine ra func21 Z (I ?_);refine bx (λAb Ap O=>?_);have E:=Ap.2;refine bx (λA1 Am A0=>?_);have⟨O,E⟩:=bn Am.2 O E;refine bx (λ_ Ao Ar=>?_);have⟨O,A0,E⟩:=cj Ao.2 O A0 E;refine I ?_;refine aa (aD (vf:=[]) (vc:=[pT Ab.heap.size,pT A1.heap.size,pT w.heap.size]) Z Z ?_);refine cl SH (L5 (gf:=48) (lb:=[pT Ab.heap.size,pT A1.heap.size,pT w.heap.size]) SI (λW q=>Hq (hD.ext (xt E q)) ok h3 ql h12 hl1 hl2 pe3 ok3 pe2 ok2 hC3 hC2 (be q A0) (be q Ar) (be q O) (ht.ext (xt E q)))) ?_;rintro _ _ Af ⟨A2,rfl,Aq⟩;have E:=xt E Af.2;refine I ?_;refine aa (aK (v:=A2) Z ?_);refine I ?_;refine xA (v:=.tuple #[A2,.int .i64 0]) (cO (r1:=.tmp 6) (r2:=.tmp 7) Z ?_ ?_) E ⟨_,rfl,ck U Aq⟩;exact aL (t:=6) GS _;exact aL (t:=7) GS _
section
variable {r:Option Nat}{ds:List Deferred}{Q:Exit->Act->World->Prop}{K:Act->World->Prop}
variable {d ty:Nat}{pos:String}{af:Array Edge}{g:Option (Nat×Bool)}{x y:Operand}{t':TypeId}{a b:Int}
def UW {c:Int}(hx:ev N e x=.int .i64 a)(hy:ev N e y=.int .i64 b)(hc:IntKind.i64.wrap (a+b)=c)(hk:K (act N (upd e d (.int .i64 c)) ds) w):
 Oper.wpIn (Fw r) n P ⟨some d,.binOp .add t x y t',ty,pos,af,g⟩ (act N e ds) w K Q:=
 dE hx hy (bV ..) (by subst hc;simp[binOp,Op.intArith]) hk
end
def kv (xs:List Int)(i:Nat):Int:=if xs.length=0 then 3*(i:Int)+1 else IntKind.i64.wrap (xs.getD (i%xs.length) 0+((i/xs.length:Nat):Int))
def wrap64 (z:Int):In64 (IntKind.i64.wrap z):=by
 have h:=Int.emod_nonneg z (show(2:Int)^64≠0 by decide)
 have h2:=Int.emod_lt_of_pos z (show(0:Int)<2^64 by decide)
 have e:IntKind.i64.wrap z=if(true&&decide (z%2^64≥2^(64-1)))=true then z%2^64-2^64 else z%2^64:=rfl
 rw[e]
 unfold In64
 by_cases hc:(true&&decide (z%2^64≥2^(64-1)))=true
 · rw[if_pos hc];simp at hc;omega
 · rw[if_neg hc];simp at hc;omega
def sU {xs:List Int}(hi:i<=1000):In64 (kv xs i):=by
 unfold kv;split
 · unfold In64;omega
 · exact wrap64 _
def L8 (a b:Nat):(a:Int).tdiv (b:Int)=((a/b:Nat):Int):=rfl
def jw (c m:Int)(w:World)(hc:In64 c)(hm:0<m):
 CL 79 #[.int .i64 c,.int .i64 m] w (aG w λv w'=>v=.int .i64 (aV c m)):=by
 unfold In64 at hc;refine aC func79 Z (I ?_);by_cases cf:c<0;refine I ?_;refine gP ?_;refine aa (yY (a:=c+1) Z JT ?_);refine I ?_;refine aa (l8 (a:=-(c+1)) (b:=m) (c:=aV c m) Z Z U U (Ag cf) ?_);refine I ?_;exact am (t:=4) (v:=.int .i64 (aV c m)) Z (aa4 _) Z Z;refine I ?_;refine aa (l8 (a:=c) (b:=m) (c:=aV c m) Z Z U U (Ah cf) ?_);refine I ?_;exact am (t:=4) (v:=.int .i64 (aV c m)) Z (aa4 _) Z Z
def vd (c m:Int)(w:World)(hc:In64 c)(hm:0<m):
 CL 12 #[.int .i64 c,.int .i64 m] w (aG w λv w'=>v=.int .i64 (aV c m)):=by
 unfold In64 at hc;refine aC func12 Z (I ?_);by_cases cf:c<0;refine I ?_;refine gP ?_;refine aa (yY (a:=c+1) Z JT ?_);refine I ?_;refine aa (l8 (a:=-(c+1)) (b:=m) (c:=aV c m) Z Z U U (Ag cf) ?_);refine I ?_;exact am (t:=4) (v:=.int .i64 (aV c m)) Z (aa4 _) Z Z;refine I ?_;refine aa (l8 (a:=c) (b:=m) (c:=aV c m) Z Z U U (Ah cf) ?_);refine I ?_;exact am (t:=4) (v:=.int .i64 (aV c m)) Z (aa4 _) Z Z
def cZ (a b:Int)(ha:-100000000<=a/\a<=100000000)(hb:-100000000<=b/\b<=100000000):
 CL 11 #[.int .i64 a,.int .i64 b] w (aG w λv w'=>v=.agg #[S (br a b).1,S (br a b).2]):=by
 refine aC func11 Z (I ?_);refine al aS (λ_ A0 G=>?_);have E:=A0.2;refine I ?_;refine clb H9 (hc:=Aj a b _ U U) (hk:=?_);rintro _ _ A2 rfl;have⟨G,E⟩:=bn A2.2 G E;refine I ?_;refine al aS (λ_ Am A1=>?_);have⟨G,E⟩:=bn Am.2 G E;refine SA A1 (λ_ Af H=>?_);have⟨G,E,_⟩:=kt Af G E;refine I ?_;refine SA G (λ_ O Ab=>?_);have H:=pb O H;have E:=bi O E;refine I ?_;refine aX (v:=.agg #[S ((br a b).1),S ((br a b).2)]) (bY  rfl ?_) E Z;refine ak (t:=4) (cs:=[S ((br a b).1),S ((br a b).2)]) (b:=w.heap.size) (o:=0) iK Z bX ?_ ?_;exact Z;exact aa0 Ab (i:=0) Z
def sX {xs:List Int}(hi:i<=1000)(hx:Rw w lo X (nk xs)):
 CL 80 #[.slice X xs.length CX,.int .i64 i] w (aG w λv w'=>v=.int .i64 (kv xs i)):=by
 refine aC func80 Z (I ?_);by_cases cf:((xs.length:Nat):Int)=0;refine I ?_;refine aa (qX (a:=3) (b:=(i:Int)) (c:=3*(i:Int)) Z Z JT Z ?_);refine gP (I ?_);exact am (t:=4) (v:=.int .i64 ((3*(i:Int))+1)) Z (aa4 _) (by unfold kv;split <;>first|rfl|omega) Z
 refine I ?_;refine bL 11 ?_;refine sf ?_;refine aA (λ_ _ _ _=>by refine aa (Ca (a:=(i:Int)) (b:=((xs.length:Nat):Int)) (c:=((i%xs.length:Nat):Int)) Z Z U Z ?_);refine I ?_;exact aH) ?_
 refine aA (λ_ _ E _=>by refine aa (aB (i:=i%xs.length) (oo:=(gY X+(i%xs.length))) ks iT Z (EX (hx.ext E) (i:=i%xs.length) (Nat.mod_lt _ U)).1 (dw Z U) (Nat.mod_lt _ U) Nd ?_);refine I ?_;exact aH) ?_
 refine aA (λ_ _ A0 _=>by have A1:=EX (hx.ext A0) (i:=i%xs.length) (Nat.mod_lt _ U);refine I ?_;exact aH) ?_;refine sf ?_;refine aA (λ_ _ _ _=>by have H:i/xs.length<=i:=Nat.div_le_self _ _;obtain⟨dq,hdq⟩:∃dq:Nat,dq=i/xs.length:=⟨_,rfl⟩;refine aa (B9 (a:=(i:Int)) (b:=((xs.length:Nat):Int)) (c:=((i/xs.length:Nat):Int)) Z Z U (L8 _ _) (by rw[<-hdq]at H ⊢;unfold In64;omega) ?_);refine I ?_;exact aH) ?_;refine sf ?_;intro _ _ G _;have O:=G.2;refine aa (UW (a:=(xs).getD (i%xs.length) 0) (b:=((i/xs.length:Nat):Int)) (c:=IntKind.i64.wrap (xs.getD (i%xs.length) 0+((i/xs.length:Nat):Int))) Z Z Z ?_);refine I ?_;exact am (t:=4) (v:=.int .i64 (IntKind.i64.wrap (xs.getD (i%xs.length) 0+((i/xs.length:Nat):Int)))) Z O (by unfold kv;split <;>first|rfl|omega) Z
end
section
set_option maxRecDepth 100000
open Go.ChangeShapes Go.WideShapes Go.ChangeAt Go.Deep Proofs.Tryz
def ZE:ownKnob prog.godebug=none:=by kernel_rfl
def XZ:laidOutB prog=true:=by kernel_rfl
def c3:prog.cellsOf 3=1:=by kernel_rfl
def c25:prog.cellsOf 25=2:=by kernel_rfl
def L9 :W.cell? ((⟨b,o,none⟩:Addr).add i)=W.cell? ⟨b,o+i,none⟩:=by unfold Addr.add;split <;>simp_all
def X1 : prog.globalNamed "internal/strconv.uint64pow10" = some 4 := by kernel_rfl
def ZF:(prog.globals[4]?).map (·.type)=some 306:=by kernel_rfl
def X3:(((begin prog (λ_ _=>0) default).world.heap[4]?).bind Obj.row?).map (·.2)=some 306:=by kernel_rfl
def ZG:∃z,(((begin prog (λ_ _=>0) default).world.heap[4]?).bind Obj.row?)=some (z,306):=by
 obtain⟨⟨z,t⟩,h,e⟩:=Option.map_eq_some_iff.1 X3
 cases e;exact⟨z,h⟩
def ZH:4<prog.globals.size:=of_decide_eq_true q0
def ZI:Rows.laid_internal_strconv_uint64pow10=(.agg (Lib.pow10Tab.map λz=>DataW.lit (.int .u64 z)):DataW Unit):=by kernel_rfl
def cU:prog.cellsOf 259=1:=by kernel_rfl
def uU:prog.underlying 259=some (.int .u64):=by kernel_rfl
def cA:prog.cellsOf 306=20:=by kernel_rfl
def UX:Lib.pow10Tab.length=20:=by kernel_rfl
def xa {H:Type}{enc:TypeId×Value->H}{hd:Bool}{ts:List TypeId}{ds:List (DataW H)}{ps:List MemPlace}(h:DataW.TrodAll enc P w base sp hd (t::ts) vs ds ps):∃v vs' d ds' p q,vs=v::vs'/\ds=d::ds'/\DataW.Trod enc P w base sp hd t v d p/\DataW.TrodAll enc P w base sp hd ts vs' ds' q:=by
 match vs,ds,h with
 | v::vs',d::ds',h=>
   obtain⟨p,q,h1,h2,_⟩:=h
   exact⟨v,vs',d,ds',p,q,rfl,rfl,h1,h2⟩
def Ma {H:Type}{enc:TypeId×Value->H}{hd:Bool}{ds:List (DataW H)}{ps:List MemPlace}(h:DataW.TrodAll enc P w base sp hd [] vs ds ps):vs=[]/\ds=[]:=by
 match vs,ds,h with
 |[],[],_=>exact⟨rfl,rfl⟩
def xb {H:Type}{enc:TypeId×Value->H}{W W':World}{sp':Nat->Bool}(k:aO W W'):∀{ts:List TypeId} {vs:List Value} {ds:List (DataW H)} {ps:List MemPlace},
 (∀t∈ts,prog.readableRec t=true/\t<prog.types.size)->DataW.TrodAll enc prog W 0 (λ_=>true) true ts vs ds ps->(∀p∈ps,p.block<W.heap.size)->(∀p∈ps,sp' p.block=true)->DataW.TrodAll enc prog W' 0 sp' true ts vs ds ps
 |[],[],[],_,_,h,_,_=>h
 | t::ts,v::vs,d::ds,ps,hr,h,hl,hs=>by
   obtain⟨p,q,h1,h2,rfl⟩:=h
   refine⟨p,q,WideElems.Trod_stays XZ (hr t Wf).1 (hr t Wf).2 h1 (λx hx=>?_) (λx hx=>hs x (by simp[hx])),xb k (λu hu=>hr u (by simp[hu])) h2 (λx hx=>hl x (by simp[hx])) (λx hx=>hs x (by simp[hx])),rfl⟩
   have hb:=hl x (by simp[hx])
   cases x with
   |cell b o=>exact World.cell?_of_block (k.block b hb)
   |map b=>exact k.block b hb
 |[],[],_::_,_,_,h,_,_=>h.elim
 |[],_::_,_,_,_,h,_,_=>h.elim
 |_::_,[],_,_,_,h,_,_=>h.elim
 |_::_,_::_,[],_,_,h,_,_=>h.elim
def PI {n:Int}(h:(Lit.int .i64 n).wf=true):In64 n:=by
 simp only[Lit.wf,Bool.and_eq_true,decide_eq_true_eq]at h
 have E:IntKind.i64.min=-9223372036854775808:=rfl
 have e2:IntKind.i64.max=9223372036854775807:=rfl
 rw[E,e2]at h
 unfold In64;omega
section
variable {H:Type}{enc:TypeId×Value->H}{fuel b0:Nat}{x:DataW H×List MemPlace}
def PK (hv:Value.okWide prog W .any b0 25 v)(h:DataW.trod enc prog W base (λ_=>true) true fuel 25 v.cells.toList=some x):
 ∃a b:Int,v=.agg #[.int .i64 a,.int .i64 b]/\In64 a/\In64 b:=by
 unfold Value.okWide at hv
 rw[underlying25]at hv
 obtain⟨cs,rfl,hs,_⟩:=hv
 rw[c25]at hs
 obtain⟨xs,m,_,_,_,_,hx⟩:=DataW.trod_array underlying25 h
 obtain⟨l⟩:=cs
 match l,hs with
 | [u,v],_=>
   have E:=hx 0 zd
   have h1:=hx 1 zd
   rw[c3]at E h1
   rw[List.getElem?_eq_getElem (show 0<xs.length by omega)]at E
   rw[List.getElem?_eq_getElem (show 1<xs.length by omega)]at h1
   obtain⟨a,O,_,A0⟩:=DataW.trod_int underlying3 E
   obtain⟨b,G,_,A1⟩:=DataW.trod_int underlying3 h1
   have O:u=.int .i64 a:=by simpa[Value.cells]using O
   have G:v=.int .i64 b:=by simpa[Value.cells]using G
   exact⟨a,b,by rw[O,G],PI A0,PI A1⟩
end
def ZJ:maxLen=9223372036854775807:=by decide +kernel
section
variable {H:Type}{enc:TypeId×Value->H}{fuel b0:Nat}{cs:List Value}{x:DataW H×List MemPlace}
def PL {e:TypeId}{a:Addr}{len cap:Nat}(ht:prog.underlying t=some (.slice e))(h:Value.okWide prog W .any b0 t (.slice (some a) len cap)):a.spot=none/\a.block<W.heap.size:=by
 simp only[Value.okWide,ht,Cell.okWide,Cell.ok,World.has]at h
 obtain⟨_,_,_,hs,_,_,hsh,_⟩:=h
 refine⟨hs,?_⟩
 unfold World.shape? at hsh
 cases hh:W.heap[a.block]? with
 |none=>rw[hh]at hsh;cases hsh
 |some o=>exact(Array.getElem?_eq_some_iff.1 hh).1
def PM (hv:Value.okWide prog W .any b0 22 v)(h:DataW.trod enc prog W base (λ_=>true) true fuel 22 v.cells.toList=some x):
 ∃(A:Option Addr) (cap:Nat) (zs:List Int),v=.slice A zs.length cap/\Rw W 0 A (nk zs)/\(∀z∈zs,In64 z)/\zs.length<=cap:=by
 obtain⟨A,len,cap,rfl⟩:=okWide_slice underlying22 hv
 rcases open_ints underlying22 underlying3 c3 h with⟨hc,_⟩|⟨a,len',cap',zs,hc,_,hl,hm,A0,_,hcell,hwf⟩
 · simp[Value.cells]at hc;obtain⟨rfl,rfl,rfl⟩:=hc
   exact⟨none,0,[],rfl,Rw.nil W 0,λz E=>by simp at E,Nat.le_refl _⟩
 simp[Value.cells]at hc
 obtain⟨rfl,rfl,rfl⟩:=hc
 obtain⟨hs,hb⟩:=PL underlying22 hv
 have hlen':zs.length=cap:=by simpa using A0
 have A1:=ZJ
 have ht:(zs.take len).length=len:=by simp;omega
 refine⟨some a,cap,zs.take len,by rw[ht],⟨λj u hu=>?_,λ_ _=>qa7 _,λ_ e=>by cases e;exact hb⟩,λz E=>?_,by rw[ht];exact hl⟩
 · have O:j<len:=by
    have:=(List.getElem?_eq_some_iff.1 hu).1
    simp[nk]at this;omega
   have h1:=hcell j J
   obtain⟨b,o,_⟩:=a
   cases hs
   rw[L9]at h1
   refine⟨b,o,rfl,h1.trans ?_⟩
   rw[<-hu]
   simp[nk,List.getElem?_take,O,List.getD,show j<zs.length by omega]
 · have:=hwf z (List.mem_of_mem_take E)
   simp only[Lit.wf,Bool.and_eq_true,decide_eq_true_eq]at this
   have G:IntKind.i64.min=-9223372036854775808:=rfl
   have e2:IntKind.i64.max=9223372036854775807:=rfl
   rw[G,e2]at this
   unfold In64;omega
def X4:prog.cellsOf 24=3:=by kernel_rfl
def X5:prog.cellsOf 22=1:=by kernel_rfl
def X6:prog.cellTypes prog.depth 24=some [3,3,22]:=by kernel_rfl
def PO (hv:Value.okWide prog W .any b0 24 v)(h:DataW.trod enc prog W base (λ_=>true) true fuel 24 v.cells.toList=some x):
 ∃(a b:Int) (A:Option Addr) (cap:Nat) (zs:List Int),v=.agg #[.int .i64 a,.int .i64 b,.slice A zs.length cap]/\In64 a/\In64 b/\Rw W 0 A (nk zs)/\(∀z∈zs,In64 z)/\zs.length<=cap:=by
 unfold Value.okWide at hv
 rw[underlying24]at hv
 obtain⟨cs,rfl,hs,_,Ap,_,A2⟩:=hv
 rw[X4]at hs
 obtain rfl:=qb5 (X6.symm.trans Ap)
 obtain⟨xs,m,_,_,_,hl,hx⟩:=DataW.trod_struct underlying24 h
 obtain⟨l⟩:=cs
 match l,hs with
 | [u0,u1,u2],_=>
   have G:DataW.trod enc prog W base (λ_=>true) true m 3 (([u0,u1,u2].drop 0).take (prog.cellsOf 3))=xs[0]?:=hx 0 _ Z
   have h1:DataW.trod enc prog W base (λ_=>true) true m 3 (([u0,u1,u2].drop 1).take (prog.cellsOf 3))=xs[1]?:=hx 1 _ Z
   have h2:DataW.trod enc prog W base (λ_=>true) true m 22 (([u0,u1,u2].drop 2).take (prog.cellsOf 22))=xs[2]?:=hx 2 _ Z
   rw[c3]at G h1
   rw[X5]at h2
   have Aq:xs.length=3:=hl
   rw[List.getElem?_eq_getElem (show 0<xs.length by omega)]at G
   rw[List.getElem?_eq_getElem (show 1<xs.length by omega)]at h1
   rw[List.getElem?_eq_getElem (show 2<xs.length by omega)]at h2
   obtain⟨a,O,_,Af⟩:=DataW.trod_int underlying3 G
   obtain⟨b,E,_,Am⟩:=DataW.trod_int underlying3 h1
   have O:u0=.int .i64 a:=by simpa[Value.cells]using O
   have E:u1=.int .i64 b:=by simpa[Value.cells]using E
   obtain⟨u,hu,hc⟩:=A2 2 u2 Z
   have hu:u=22:=by simpa using hu.symm
   subst hu
   have A0:Value.okWide prog W .any b0 22 u2:=by
    unfold Value.okWide;rw[underlying22];exact hc
   obtain⟨A,_,cap,e2⟩:=okWide_slice underlying22 A0
   have h2':DataW.trod enc prog W base (λ_=>true) true m 22 (Value.cells u2).toList=some xs[2]:=by
    rw[<-h2,e2];rfl
   obtain⟨A,cap,zs,A1,hr,Ao,Ab⟩:=PM A0 h2'
   exact⟨a,b,A,cap,zs,by rw[O,E,A1],PI Af,PI Am,hr,Ao,Ab⟩
end
def gEr : prog.globalNamed "yardstick/adjust.errFails" = some 0 := by kernel_rfl
def tEr:(prog.globals[0]?).map (·.type)=some 96:=by kernel_rfl
def ZK:(((begin prog (λ_ _=>0) default).world.heap[0]?).bind Obj.row?).map (·.2)=some 96:=by kernel_rfl
def zEr:∃z,(((begin prog (λ_ _=>0) default).world.heap[0]?).bind Obj.row?)=some (z,96):=by
 obtain⟨⟨z,t⟩,h,e⟩:=Option.map_eq_some_iff.1 ZK
 cases e;exact⟨z,h⟩
def nEr:0<prog.globals.size:=of_decide_eq_true q0
def Mb : "*errors.errorString" = "*" ++ "errors.errorString" := by decide +kernel
def PP (u : TypeId)(h : prog.typeName? 3 u = some "*errors.errorString") : u = 316 :=
 typeName_ptr_named (P := prog) (nm := "errors.errorString") q0 q0 Hx u (by rw [← Mb]; exact h)
def UY {r : List (String × DataW Unit)}(hS : W.ShapedOpen prog)(h : laidMet prog (("yardstick/adjust.errFails", .iface "*errors.errorString" (.ptr (.agg [.lit (.string [97, 100, 106, 117, 115, 116])]))) :: r) W) : ∃ a, Er W a := by
 obtain⟨a,s,hv,_⟩:=laid_sentinel h gEr tEr underlying96 PP underlying316 underlying318 Z Z underlying9 q0 q0
 obtain⟨z,G⟩:=zEr
 obtain⟨cs',E,_⟩:=hS.1 0 z 96 nEr G
 have hc:cs'=#[.iface 316 (.pointer (some a))]:=by
  simp only[World.var?,gEr,Option.bind_some,E]at hv
  exact qb5 hv
 subst hc
 exact⟨a,E⟩
end
end Go.Proofs.YtlmihmlnpjkblaaGreatDoor
