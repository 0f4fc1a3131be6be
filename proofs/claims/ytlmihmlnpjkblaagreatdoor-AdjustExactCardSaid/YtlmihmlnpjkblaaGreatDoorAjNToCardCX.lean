/- Part of the proof of a statement about an adjustment. -/
import Derived.Test.YtlmihmlnpjkblaaGreatDoorAj10ToAjMX
import Derived.Stop.LaidErr
import Derived.Test.YtlmihmlnpjkblaaGreatDoorTie
import Derived.Test.YtlmihmlnpjkblaaGreatDoorCards
import Derived.ProofKit
import Derived.OpenShut
import Derived.LaidMore
import Derived.Lay
import Derived.SevenTiedAt
import Derived.Stop.Joined
import Derived.Deep.SlicePairs
import Derived.Deep.Frames
import Derived.Deep.Onto
import Derived.WideKeyArgs
import Derived.SizedLaws
set_option linter.all false
namespace Go.Proofs.YtlmihmlnpjkblaaGreatDoor
open Go Go.Eng Go.RowKit Proofs.Tryz
variable {bs l:List Nat}{xs vs:List Value}{base b lo n i yl b2 b3 b4 b5 k s ts a ta sz j M n0 b1 c N D1 D2 C CY CB pl gf CX o:Nat}{ls sp:Nat->Bool}{e:Nat->Value}{A Y B X:Option Addr}{P:Program}{el t:TypeId}{v x v':Value}{W W' w0 w w1 w':World}
section
section
variable {r:Option Nat}{ds:List Deferred}{Q:Exit->Act->World->Prop}{K:Act->World->Prop}
variable {d ty:Nat}{pos:String}{af:Array Edge}{g:Option (Nat×Bool)}{u:Value}{x y:Operand}
def UU {z:Value}{bytes k0:Nat}(hu:P.underlying t=some (.slice el))(hi:gk P el z 1 bytes)(hz:z.cells.size=1)(hx:ev N e x=v)(hown:w.ownsRow base el 1 v k0 xs)(hy:ev N e y=.slice (some ⟨b,0,none⟩) 1 1)(hr:Rw w lo (some ⟨b,0,none⟩) [u])(h1:u.oneCell'=true)(hk0:k0<=1000)(hby:bytes<=1000)(hbase:base<=w.heap.size)(hk:∀v' w',mK w w' base el v v' k0 xs u->K (act N (upd e d v') ds) w'):
 Oper.wpIn (Fw r) n P ⟨some d,.call {callee:=.builtin .append,args:=#[x,y],argTypes:=#[t,t]},ty,pos,af,g⟩ (act N e ds) w K Q:=by
 obtain⟨v',w',E,hA⟩:=L8 (P:=P) (t:=t) (ty:=ty) hu hi hz hown hr h1 hk0 hby hbase
 refine cJ (v:=v') (w':=w') Z ?_ (by rw[ax];exact hk v' w' hA)
 simp[execOp,resolve,invoke,builtin,hx,hy,E]
end
def FJ (w0:World)(base:Nat)(el:TypeId)(v:Value)(k:Nat)(xs:List Value)(x:Value)(s ts a ta:Nat)(ls:Nat->Bool)(e:Nat->Value)(w:World):Prop:=
 (ls a=false->aP w0 w/\(ls s=true->∃b,e ts=.slice (some ⟨b,0,none⟩) 1 1/\Rw w 0 (some ⟨b,0,none⟩) [x]))/\
 (ls a=true->∃w1 w2,aP w0 w1/\mK w1 w2 base el v (e ta) k xs x/\aP w2 w)
section
variable {ds:List Deferred}{L:List (Option (Nat×Value))}{d:Nat}{u:Value}
def FJ.start:FJ w0 base el v k xs x s ts a ta (λ_=>false) e w0.drew:=⟨λ_=>⟨ac1 w0,λh=>by cases h⟩,λh=>by cases h⟩
def XY (hl:oG L i=some (some (d,u)))(hX:FJ w0 base el v k xs x s ts a ta ls e w)(h1:Nat.beq a i=false:=by rfl)(h2:Nat.beq s i=false:=by rfl)(h3:Nat.beq ts d=false:=by rfl)(h4:Nat.beq ta d=false:=by rfl):
 vZ N ds (FJ w0 base el v k xs x s ts a ta) L ls e i (some d) .normal (act N (upd e d u) ds) w:=by
 refine⟨rfl,u,(ax ..).symm,(λ_ _ h=>by rw[hl]at h;cases h;rfl),λh=>?_,λh=>?_⟩
 · rw[fm h1]at h
   refine⟨(hX.1 h).1,λhs=>?_⟩
   rw[fm h2]at hs
   obtain⟨b,G,e2⟩:=(hX.1 h).2 hs
   exact⟨b,by show upd e d u ts=_;rw[jU h3];exact G,e2⟩
 · rw[fm h1]at h
   obtain⟨w1,E,p,q,r⟩:=hX.2 h
   exact⟨w1,E,p,by show mK w1 E base el v (upd e d u ta) k xs x;rw[jU h4];exact q,r⟩
def ZC (hl:oG L s=some none)(hX:FJ w0 base el v k xs x s ts a ta ls e w)(kx:aP w w')(hr:Rw w' 0 (some ⟨b,0,none⟩) [x])(h1:Nat.beq a s=false:=by rfl)(h4:Nat.beq ta ts=false:=by rfl):
 vZ N ds (FJ w0 base el v k xs x s ts a ta) L ls e s (some ts) .normal (act N (upd e ts (.slice (some ⟨b,0,none⟩) 1 1)) ds) w':=by
 refine⟨rfl,_,(ax ..).symm,(λ_ _ h=>by rw[hl]at h;cases h),λh=>?_,λh=>?_⟩
 · rw[fm h1]at h
   exact⟨(hX.1 h).1.trans kx,λ_=>⟨b,by show upd e ts _ ts=_;rw[ki],hr⟩⟩
 · rw[fm h1]at h
   obtain⟨w1,E,p,q,r⟩:=hX.2 h
   exact⟨w1,E,p,by show mK w1 E base el v (upd e ts _ ta) k xs x;rw[jU h4];exact q,r.trans kx⟩
def ZD (hl:oG L a=some none)(hX:FJ w0 base el v k xs x s ts a ta ls e w)(hn:ls a=false)(hA:mK w w' base el v v' k xs x):
 vZ N ds (FJ w0 base el v k xs x s ts a ta) L ls e a (some ta) .normal (act N (upd e ta v') ds) w':=by
 refine⟨rfl,_,(ax ..).symm,(λ_ _ h=>by rw[hl]at h;cases h),λh=>?_,λ_=>?_⟩
 · rw[PP]at h;cases h
 · exact⟨w,w',(hX.1 hn).1,by show mK w w' base el v (upd e ta v' ta) k xs x;rw[ki];exact hA,aa1 _⟩
end
def jc.refl' (W:World):jc bs W W:=⟨qa0 _,λ_ h=>h⟩
def jc.ofExt (k:aP W W'):jc bs W W':=jc.ofE k
def HV (n:Nat):Nat->Nat->List Nat->List (List Nat)
 |0,_,_=>[]
 |f+1,i,l=>(if l.length+1=n then[l++[i]]else HV n f (i+1) (l++[i]))++HV n f (i+1) l
def y5 (n m i:Nat)(l:List Nat):List (List Nat):=if l.length=n then[l]else HV n (m-i) i l
def L9 {m:Nat}(h:i<m):HV n (m-i) i l=y5 n m (i+1) (l++[i])++HV n (m-(i+1)) (i+1) l:=by
 rw[show m-i=(m-(i+1))+1 by omega]
 unfold y5
 rw[List.length_append,List.length_singleton]
 rfl
def PT {m:Nat}(h:¬i<m):HV n (m-i) i l=[]:=by rw[show m-i=0 by omega];rfl
def Ma (P:Program)(gf:Nat)(lb:List Value)(box:World->Prop)(base:Nat)(el:TypeId)(k6 Jx:Nat->World->Prop)(S:Nat->List Nat)(M n m first:Nat):Prop:=
 ∀ (A:Option Addr) (l:List Nat) (cp k:Nat) (W:World),l.length<=first->box W->W.ownsRow base el 1 (.slice A l.length cp) l.length (ints l)->base<=W.heap.size->k6 k W->k+(y5 n m first l).length<=M->(∀j,j<(y5 n m first l).length->S (k+j)=(y5 n m first l).getD j [])->
  Calls P gf (([Value.slice A l.length cp,Value.int .i64 ((first:Nat):Int)]:List Value)++lb).toArray W (kn λv W'=>(v=.bool true/\k6 (k+(y5 n m first l).length) W'/\W'.ownsRow base el 1 (.slice A l.length cp) l.length (ints l)/\jc (bl (.slice A l.length cp)) W W')\/(v=.bool false/\∃k,Jx k W'))
end
section
attribute [local irreducible] wpListIn Code.wpIn Oper.wpIn Exit.then Exit.inBlock Exit.noGoto
set_option maxHeartbeats 40000000
def Hr (n m yl b2 b3 b4 b5:Nat)(W:World):Prop:=
 ao W b2 3 #[.int .i64 n]/\ao W b3 149 #[.func (.yield yl) #[] #[]]/\ao W b4 3 #[.int .i64 m]/\ao W b5 150 #[.func (.func 108) #[] #[pT b2,pT b3,pT b4,pT b5]]
def Hr.kpc {m:Nat}(h:Hr n m yl b2 b3 b4 b5 W)(k:jc bs W W')(hb:b2∉bs/\b3∉bs/\b4∉bs/\b5∉bs):Hr n m yl b2 b3 b4 b5 W':=
 ⟨k.blk hb.1 h.1,k.blk hb.2.1 h.2.1,k.blk hb.2.2.1 h.2.2.1,k.blk hb.2.2.2 h.2.2.2⟩
def FJ.kpc (h:FJ w0 base el v k xs x s ts a ta ls e w):jc (bl v) w0 w:=by
 cases ha:ls a with
 |false=>exact jc.ofE (h.1 ha).1
 | true=>
   obtain⟨_,_,p,q,r⟩:=h.2 ha
   exact(jc.ofE p).trans (q.kpc.trans (jc.ofE r))
def lM (h:w.ownsRow base el sz v k xs)(hb:b<base):b∉bl v:=λhm=>by
 have:=(yS h (vj.1 hm)).1;omega
def jc.nil (k:jc [] W W'):jc bs W W':=⟨k.size,λ_ h=>k.blk JT h⟩
def vk (l:List Nat)(i:Nat):ints (l++[i])=ints l++[.int .i64 i]:=by simp[ints]
def Mb (h:w.ownsRow base el 1 v (l.length+1) (ints l++[.int .i64 i])):w.ownsRow base el 1 (.slice (sA v) (l++[i]).length (sC v)) (l++[i]).length (ints (l++[i])):=by
 have e:=dl h
 rw[vk,List.length_append,List.length_singleton]
 rwa [<-e]
def Hs {α:Type}{a b:List α}{d:α}(h:j<a.length):(a++b).getD j d=a.getD j d:=by simp[List.getD,List.getElem?_append_left h]
def Ht {α:Type}{a b:List α}{d:α}:(a++b).getD (a.length+j) d=b.getD j d:=by simp[List.getD,List.getElem?_append_right]
def Dw (h:W.ownsRow base el 1 (.slice (sA v') (l++[i]).length (sC v')) (l++[i]).length (ints (l++[i])))(hA:mK w w1 base el v v' l.length (ints l) (.int .i64 i)):W.ownsRow base el 1 v' (l.length+1) (ints l++[.int .i64 i]):=by
 have e:=dl hA.own
 rw[vk,List.length_append,List.length_singleton]at h
 rw[e];exact h
def XZ (hA:mK w w1 base el v v' l.length (ints l) (.int .i64 i))(k:jc (bl (.slice (sA v') (l++[i]).length (sC v'))) W W'):jc (bl v') W W':=by
 have e:=dl hA.own
 rw[List.length_append,List.length_singleton]at k
 rw[e];exact k
def Rw.blk1 (h:ao w b t #[x]):Rw w 0 (some ⟨b,0,none⟩) [x]:=by
 refine⟨λj u hu=>⟨b,0,rfl,?_⟩,λE e=>qa7 _,λE e=>by cases e;exact bt h⟩
 match j,hu with
 |0,hu=>cases hu;exact ab3 h Z
def FJ.lit (h:FJ w0 base el v k xs x s ts a ta ls e w)(hn:ls a=false)(hs:ls s=true):aP w0 w/\∃b,e ts=.slice (some ⟨b,0,none⟩) 1 1/\Rw w 0 (some ⟨b,0,none⟩) [x]:=⟨(h.1 hn).1,(h.1 hn).2 hs⟩
set_option maxRecDepth 100000 in
def xd {m first:Nat}{k6 Jx:Nat->World->Prop}{S:Nat->List Nat}(hbx:b2<base/\b3<base/\b4<base/\b5<base)(hn0:n0<=base)(hm:m<=100)(hJ0:∀k,jX n0 (k6 k))(hY:∀k v W1,k<M->k6 k W1->(∃A c lo,v=.slice A (S k).length c/\Rw W1 lo A (ints (S k)))->YieldAt Fence.wide 7 prog yl #[v] W1 λe W'=>(e=.returned (.bool true)/\k6 (k+1) W'/\jc [] W1 W')\/(e=.returned (.bool false)/\Jx (k+1) W'))(hfm:first<=m)(ih:∀i,first<=i->i<m->Ma prog 108 [pT b2,pT b3,pT b4,pT b5] (Hr n m yl b2 b3 b4 b5) base 3 k6 Jx S M n m (i+1)):
 Ma prog 108 [pT b2,pT b3,pT b4,pT b5] (Hr n m yl b2 b3 b4 b5) base 3 k6 Jx S M n m first:=by
 intro A l O k Wa a3 H3 ho hbase Ab hkM hS;obtain⟨Aq,As,Aw,Ao⟩:=H3;have E:jc (bl (Value.slice A l.length O)) Wa Wa:=jc.refl' Wa;have a9:l.length<=100:=J
 refine callsIn_wide.1 (Ec (args:=[.slice A l.length O,.int .i64 first,pT b2,pT b3,pT b4,pT b5]) func108 Z ?_);refine I ?_;by_cases fy:((l.length:Nat):Int)=(n:Int);have Av:l.length=n:=J
 refine I ?_;have hG:y5 n m first l=[l]:=if_pos Av;rw[hG]at hkM hS;have hSk:S k=l:=hS 0 Nat.one_pos;have hkM2:k<M:=by have:k+1<=M:=hkM;omega
 refine aa (xE (l:=yl) (vs:=[.slice A l.length O]) Z (au Z Z) (hY k _ Wa hkM2 Ab ⟨A,O,base,by rw[hSk],by rw[hSk];exact fh ho⟩) ?_);rintro a0 ad (⟨rfl,Ap,G⟩|⟨rfl,hx⟩);refine I ?_;exact gY (v:=.bool true) (bY Z (aM (t:=8) WD _)) (.inl ⟨rfl,by rw[hG];exact Ap,yR ho G (λg _=>by simp),G.nil⟩);refine I ?_;exact gY (v:=.bool false) (bY Z (aM (t:=8) WD _)) (.inr ⟨rfl,_,hx⟩);have Av:¬l.length=n:=J
 refine I ?_;have hG:y5 n m first l=HV n (m-first) first l:=if_neg Av;rw[hG]at hkM hS;refine cg [(8,9),(18,31)] (λK3 e W=>∃i:Nat,∃q:Nat,(m-i=K3)/\(e 9=.int .i64 i)/\(first<=i)/\(i<=m)/\(base<=W.heap.size)/\(q+(HV n (m-i) i l).length<=M)/\(q+(HV n (m-i) i l).length=k+(HV n (m-first) first l).length)/\(∀j,j<(HV n (m-i) i l).length->S (q+j)=(HV n (m-i) i l).getD j [])/\(jc (bl (Value.slice A l.length O)) Wa W)/\(ao W b2 3 #[.int .i64 n])/\(ao W b3 149 #[.func (.yield yl) #[] #[]])/\(ao W b4 3 #[.int .i64 m])/\(ao W b5 150 #[.func (.func 108) #[] #[pT b2,pT b3,pT b4,pT b5]])/\(k6 q W)/\(W.ownsRow base 3 1 (Value.slice A l.length O) l.length (ints l))) (m-first) ⟨first,k,rfl,rfl,(qa0 _),hfm,U,hkM,rfl,hS,E,Aq,As,Aw,Ao,Ab,ho⟩ ?_;rintro _ _ ny ⟨i,q,rfl,an,T3,a5,a6,hqM,hq,hSq,B0,Aq,As,Aw,Ao,Ay,H⟩;by_cases hlt:i<m;refine I ?_;refine UT sd 7 [23,24,25,26,27,28,29] [some (23,.func (.func 108) #[] #[pT b2,pT b3,pT b4,pT b5]),some (24,.slice A l.length O),some (25,.int .i64 i),none,none,some (28,.int .i64 i),some (29,.int .i64 ((i+1:Nat):Int))] (FJ ny base 3 (Value.slice A l.length O) l.length (ints l) (.int .i64 i) 3 26 4 27) FJ.start q0 q0 q0 ?_ ?_;refine⟨λE4 _ _ od _ Ax _ _ _=>?_,?_⟩;obtain⟨E4,rfl⟩:=dK od
 have ac:=Ax.kpc.blk (lM H U) Ao;refine I ?_;exact XY Z Ax;refine⟨λLa _ _ Q0 _ Kp _ _ _=>?_,?_⟩;obtain⟨La,rfl⟩:=dK Q0;refine I ?_;exact XY Z Kp;refine⟨λX2 _ _ W3 _ Li _ _ _=>?_,?_⟩;obtain⟨X2,rfl⟩:=dK W3;refine I ?_;exact XY Z Li;refine⟨λwr _ _ Ix KC GC _ _ _=>?_,?_⟩;obtain⟨wr,rfl⟩:=dK Ix;have EW:=fA (KC 2 _ _ Z Z);refine aa (XR (vs:=[(0,.int .i64 i)]) (cells:=#[.int .i64 i]) kt kB (c6 EW Z) dc dc q0 (λ_ W0 N0=>?_));refine I ?_;exact ZC Z GC W0.2 (Rw.blk1 N0);refine⟨λES _ _ KY W2 Cr _ B1 P2=>?_,?_⟩;obtain⟨ES,rfl⟩:=dK KY;obtain⟨E0,FR,L3,E6⟩:=Cr.lit B1 (P2 3 Z);have E7:=fA (W2 1 _ _ Z Z);refine aa (UU (b:=FR) (lo:=0) kt kB Z (hx:=by exact E7) (ab E0 H) (hy:=by exact L3) E6 Z U dc (qa8 U (bz E0)) (λ_ _ P1=>?_));refine I ?_;exact ZD Z Cr B1 P1;refine⟨λLj _ _ K2 _ G0 _ _ _=>?_,?_⟩;obtain⟨Lj,rfl⟩:=dK K2;refine I ?_;exact XY Z G0;refine⟨λE9 _ _ WV L4 S9 _ _ _=>?_,?_⟩;obtain⟨E9,rfl⟩:=dK WV;have b0:=fA (L4 5 _ _ Z Z);refine gO (I ?_);exact XY Z S9;exact trivial;intro A1 P0 _ VW Lk nm A2;obtain⟨A1,rfl⟩:=dK Lk;obtain⟨_,_,Am,A0,Ar⟩:=A2.2 (VW 4 Z);have a8:=A2.kpc.size;have Af:=ab Ar (Mb (A0).own)
 have CG:=A2.kpc.blk (lM H U) Aq;have B2:=A2.kpc.blk (lM H U) As;have E1:=A2.kpc.blk (lM H U) Aw;have C1:=A2.kpc.blk (lM H U) Ao;have S0:=(hJ0 _).ext Ar ((A0).stab (ab Am H) (hJ0 _) hn0 ((hJ0 _).ext Am Ay));have E5:A1 27=.slice (sA (A1 27)) ((l++[i]).length) (sC (A1 27)):=by rw[List.length_append,List.length_singleton];exact dl (A0).own
 have hstep:=L9 (n:=n) (l:=l) hlt;rw[hstep]at hSq;have Rm:=qb2 List.length hstep;rw[List.length_append]at Rm;have No:=fA (nm 0 _ _ Z Z);have L2:=fA (nm 6 _ _ Z Z);refine aa (Bb (vs:=[.slice (sA (A1 27)) ((l++[i]).length) (sC (A1 27)),.int .i64 ((i+1:Nat):Int)]) (lb:=[pT b2,pT b3,pT b4,pT b5]) IM (hx:=by exact No) (hv:=by exact(au E5 (au L2 Z))) (ih i T3 hlt (sA (A1 27)) (l++[i]) (sC (A1 27)) q P0 j0 ⟨CG,B2,E1,C1⟩ Af U S0 U (λj Ab=>by rw[hSq j (by rw[List.length_append];omega),Hs Ab])) ?_);rintro v a2 (⟨rfl,Ap,H4,G⟩|⟨rfl,hx⟩);have Az:=(jc.ofE Ar).trans G;have Ne:=G.blk (lM Af U) CG;have H2:=G.blk (lM Af U) B2;have T2:=G.blk (lM Af U) E1;have Vm:=G.blk (lM Af U) C1;have KM:=(A0).back (ab Am H) (Dw H4 A0) (XZ A0 Az);have L1:=B0.trans ((jc.ofE Am).trans ((A0).inner (XZ A0 Az)));have a4:=G.size;refine I ?_;refine gO (I ?_);exact bJ ⟨i+1,q+(y5 n m (i+1) (l++[i])).length,rfl,rfl,U,U,U,U,U,(λj Ab=>by have h:=hSq ((y5 n m (i+1) (l++[i])).length+j) (by rw[List.length_append];omega);rw[Ht]at h;rw[<-h,Nat.add_assoc]),L1,Ne,H2,T2,Vm,Ap,KM⟩;refine I ?_;exact gY (v:=.bool false) (bY Z (aM (t:=8) WD _)) (.inr ⟨rfl,hx⟩);have X0:=PT (n:=n) (l:=l) hlt
 rw[X0]at hq;refine I ?_;exact gY (v:=.bool true) (bY Z (aM (t:=8) WD _)) (.inl ⟨rfl,by rw[hG,<-hq];exact Ay,H,B0⟩)
set_option maxRecDepth 100000
def ZE (n m:Nat)(k:Nat)(v:Value)(W:World):Prop:=∃A c lo,v=.slice A ((y5 n m 0 []).getD k []).length c/\Rw W lo A (ints ((y5 n m 0 []).getD k []))
def FK {m:Nat}{k6 Jx:Nat->World->Prop}{S:Nat->List Nat}(hbx:b2<base/\b3<base/\b4<base/\b5<base)(hn0:n0<=base)(hm:m<=100)(hJ0:∀k,jX n0 (k6 k))(hY:∀k v W1,k<M->k6 k W1->(∃A c lo,v=.slice A (S k).length c/\Rw W1 lo A (ints (S k)))->YieldAt Fence.wide 7 prog yl #[v] W1 λe W'=>(e=.returned (.bool true)/\k6 (k+1) W'/\jc [] W1 W')\/(e=.returned (.bool false)/\Jx (k+1) W')):
 ∀d first,m-first<=d->first<=m->Ma prog 108 [pT b2,pT b3,pT b4,pT b5] (Hr n m yl b2 b3 b4 b5) base 3 k6 Jx S M n m first
 |0,first,h,hf=>xd hbx hn0 hm hJ0 hY hf λi h1 h2=>by omega
 |d+1,first,h,hf=>xd hbx hn0 hm hJ0 hY hf λi h1 h2=>FK hbx hn0 hm hJ0 hY d (i+1) U U
def vl {m:Nat}(h1:ao w b1 3 #[.int .i64 n])(h2:ao w b2 3 #[.int .i64 m])(hm:m<=100):
 RG prog 107 [pT b1,pT b2] (ZE n m) [] (y5 n m 0 []).length w:=by
 intro l k6 Jx Wa hW hJ0 hY E;have⟨h1,h2⟩:=gg hW h1 h2;refine qE ?_;have Aw:=bt h1;have As:=bt h2;refine Ec func107 Z (I ?_);refine bx (v:=.func (.yield l) #[] #[]) (hx:=rfl) (λA1 Af G=>?_);have⟨h1,h2⟩:=gg Af.2 h1 h2;have E:=(hJ0 _).ext Af.2 E;refine I ?_;refine al Ni (λ_ A0 Am=>?_);have⟨h1,h2⟩:=gg A0.2 h1 h2;have E:=(hJ0 _).ext A0.2 E;have G:=be A0.2 G;refine I ?_;refine aa (aF (vf:=[]) (vc:=[pT b1,pT Wa.heap.size,pT b2,pT A1.heap.size]) Z Z ?_);refine SO Am (λA2 H Ab=>?_) (hi:=R7);have⟨h1,h2⟩:=kI H h1 h2;have E:=(hJ0 _).put H U E;have G:=pb H G;have Av:=iQ H;refine I ?_;have Ax:=bt h1;have Ar:=bt G;have Ao:=bt h2;have Ap:=bt Ab;refine aa (Bb (vs:=[.slice none 0 0,.int .i64 0]) (lb:=[pT b1,pT Wa.heap.size,pT b2,pT A1.heap.size]) IM (hx:=by exact Z) (hv:=by exact Z) (FK (base:=A2.heap.size) (n0:=Wa.heap.size) (M:=(y5 n m 0 []).length) (S:=λk=>(y5 n m 0 []).getD k []) (Jx:=Jx) ⟨by omega,by omega,by omega,by omega⟩ U hm hJ0 hY m 0 U U none [] 0 0 A2 (qa0 _) ⟨h1,G,h2,Ab⟩ bM (qa0 _) E U (λj O=>by rw[Nat.zero_add])) ?_);rintro v Aq (⟨rfl,O,_,_⟩|⟨rfl,hx⟩);refine I ?_;exact sG Z λv=>⟨⟨v,rfl⟩,.inl (by rw[Nat.zero_add]at O;exact O)⟩;refine I ?_;exact sG Z λv=>⟨⟨v,rfl⟩,.inr hx⟩
def Be {m:Nat}:
 CL 49 #[.int .i64 m,.int .i64 n] w (aI w λv w'=>∃b1 b2,v=.func (.func 107) #[] #[pT b1,pT b2]/\ao w' b1 3 #[.int .i64 n]/\ao w' b2 3 #[.int .i64 m]/\w.heap.size<=b1/\w.heap.size<=b2):=by
 refine aE func49 Z (I ?_);refine bx (λH A1 E=>?_);have G:=A1.2;refine bx (λ_ A0 O=>?_);have⟨E,G⟩:=bn A0.2 E G;refine aa (aL (v:=.nilFunc) Z ?_);refine I ?_;refine aa (aF (vf:=[]) (vc:=[pT H.heap.size,pT w.heap.size]) Z Z ?_);refine I ?_;exact am (t:=4) (v:=.func (.func 107) #[] #[pT H.heap.size,pT w.heap.size]) Z G ⟨_,_,rfl,O,E,by omega,by omega⟩ Z
def Hu {ad:Addr}{xs:List Nat}(hx:Rw w lo (some ad) (ints xs))(hl:xs.length<=1000000):
 CL 50 #[.slice (some ad) xs.length c] w (aI w λv w'=>World.ownsRow w' w.heap.size 3 1 v xs.length (ints xs)):=by
 refine aE func50 Z (I ?_);refine aa (uN (A:=some ad) kt Z Z ?_);refine I ?_;(try refine fM (qb2 Value.bool Z) ?_);refine I ?_;refine aa (zx kt kB (λ_ O _ A0=>?_));have E:=O;have A2:=bz O;refine I ?_;refine aa (jB (v:=.slice (some ⟨w.heap.size,0,none⟩) 0 0) (k:=0) (m:=xs.length) (news:=(ints xs)) kt kB Z dc Z A0 Z (hx.ext E) (by simp[ints]) (by intro u hu;simp[ints]at hu;obtain⟨a,_,rfl⟩:=hu;rfl) Rg U U (λG _ H A1 _=>?_));have E:=bo A0 U U E A1;rw[List.nil_append]at H;refine aa (aL (v:=G) Z ?_);refine I ?_;exact am (t:=2) (v:=G) Z E (aQ H (Nat.zero_add _) Z) Z
def KO.ofExt (k:aP W W'):KeepsOthers W W':=⟨k.size,λ_ _ h _=>k.heap h⟩
def KO.put {cs:Array Value}(k:ez W W' b)(h:ao W b t cs):KeepsOthers W W':=
 ⟨by rw[k.size];exact qa0 _,λi o hi hc=>(k.block i (λe=>by subst e;unfold ao at h;rw[h]at hi;cases hi;cases hc)).trans hi⟩
def FL {cs:List Value}{r r':Loop}(h:Rw W lo A cs)(hl:W.heap[b]?=some (.loop r)):Rw (W.putObj b (.loop r')) lo A cs:=by
 refine⟨λj u hu=>?_,h.lo,λH e=>by have:=h.hi H e;simpa using this⟩
 obtain⟨O,o,e,hc⟩:=h.cells j u hu
 refine⟨O,o,e,?_⟩
 rw[<-hc]
 refine(dj W b (.loop r')).cell ?_
 intro hb
 simp only at hb
 subst hb
 obtain⟨_,E,G⟩:=cells_of_cell hc
 rw[hl]at E
 cases E;cases G
def PU {fn:Func}{R:Value->World->Prop}(h2:lj w' D2)(h1:lj w' D1)(hne:D1≠D2)(hr:(results fn (act N e [⟨.collected D2,#[]⟩,⟨.collected D1,#[]⟩]).tmps).run P ((w'.putObj D2 (.deferred none)).putObj D1 (.deferred none))=.ok v ((w'.putObj D2 (.deferred none)).putObj D1 (.deferred none)))(hx:aP w ((w'.putObj D2 (.deferred none)).putObj D1 (.deferred none)))(hR:R v ((w'.putObj D2 (.deferred none)).putObj D1 (.deferred none))):bodyPostM Fence.wide 9 P fn (aI w R) .ret (act N e [⟨.collected D2,#[]⟩,⟨.collected D1,#[]⟩]) w':=
 ⟨by simp,.inl ⟨D2,_,rfl,run_takeDeferred h2,by simp,.inl ⟨D1,_,rfl,run_takeDeferred (ac8 (dG w') hne h1),v,hr,hx,hR⟩⟩⟩
set_option maxHeartbeats 4000000 in
set_option maxRecDepth 100000 in
def Hw {L V:Rows}{ys:List R}(hD:eE w A C Y CY B CB L V ys)(ok:fL L V ys)(h3:ys.length=3){la lb:Int}(ql:Q9 la lb)(h12:pl<=12)(hl1:0<=aO (la*1000000) (1*lb))(hl2:aO (la*2) (1*lb)<=0){KM3 KC3 KM2 KC2:Rows}{KY3 KY2:List R}(pe3:qd L V ys [0,1,2] KM3 KC3 KY3)(ok3:fL KM3 KC3 KY3)(pe2:qd L V ys [0,1] KM2 KC2 KY2)(ok2:fL KM2 KC2 KY2)(hC3:∀A C Y CY B CB W,eE W A C Y CY B CB KM3 KC3 KY3->Tb W->CL 19 #[.agg #[.slice A KY3.length C,.slice Y KY3.length CY,.slice B KY3.length CB],QV la lb,.int .i64 pl] W (aI W λv _=>v=.tuple #[.int .i64 2,.int .i64 0]))(hC2:∀A C Y CY B CB W,eE W A C Y CY B CB KM2 KC2 KY2->Tb W->CL 19 #[.agg #[.slice A KY2.length C,.slice Y KY2.length CY,.slice B KY2.length CB],QV la lb,.int .i64 pl] W (aI W λv _=>v=.tuple #[.int .i64 1,.int .i64 0]))(hb1:ao w b1 33 #[S ((qR la lb).1),S ((qR la lb).2)])(hb2:ao w b2 3 #[.int .i64 pl])(hb3:ao w b3 30 #[.slice A ys.length C,.slice Y ys.length CY,.slice B ys.length CB])(ht:Tb w):
 CL 48 #[pT b1,pT b2,pT b3] w (aI w λv w'=>w'.ownsRow w.heap.size 3 1 v 2 (ints [0,1])):=by
 obtain⟨_,H,hM⟩:=hD.m;obtain⟨_,hy⟩:=hD.y;obtain⟨_,G,hV⟩:=hD.v;have X2:=bt hb1;have X0:=bt hb2;have bb:=bt hb3;have L3:Value.int .i64 ((ys.length:Nat):Int)=.int .i64 3:=by rw[h3];rfl
 refine rx func48 Z (I ?_);refine al QA (λ_ P2 B2=>?_);have⟨hb1,hb2,hb3⟩:=qH P2.2 hb1 hb2 hb3;have Av:=P2.2;refine I ?_;refine aa (bR (vs:=[(0,QV la lb),(1,.int .i64 pl)]) (cells:=#[S (qR la lb).1,S (qR la lb).2,.int .i64 pl]) (pl:=[(0,2),(2,1)]) tu mM q0 Z q0 ?_);refine cl B5 (q8 ql h12 hl1 hl2 (ht.ext Av)) ?_;rintro _ _ W1 rfl;have⟨hb1,hb2,hb3,B2,Av⟩:=kv W1.2 hb1 hb2 hb3 B2 Av;refine I ?_;(try refine aa (aN (cs:=[.slice A ys.length C,.slice Y ys.length CY,.slice B ys.length CB]) (b:=b3) (o:=0) c8 Z bf Z (aa0 hb3 (i:=0) Z) ?_));refine cl lf (iK (hM.ext Av) (k8 ok.hv) (hy.ext Av) (hV.ext Av) (k8 ok.hv3) hD.c ok.hv ok.hv3 ok.hVl ok.hLl ok.hyo ok.hp (ht.ext Av)) ?_;rintro _ _ nm rfl;have⟨hb1,hb2,hb3,B2,Av⟩:=kv nm.2 hb1 hb2 hb3 B2 Av;refine cl fe di ?_;rintro _ _ W0 rfl;have⟨hb1,hb2,hb3,B2,Av⟩:=kv W0.2 hb1 hb2 hb3 B2 Av;refine I ?_;rw[L3];refine I ?_;refine Zx 1 (I ?_);rw[L3];refine I ?_;refine cl IH (Be (m:=3) (n:=3)) ?_;rintro _ L1 T2 ⟨H4,KM,rfl,GC,H2,c9,cb⟩;have⟨hb1,hb2,hb3,B2,Av⟩:=kv T2.2 hb1 hb2 hb3 B2 Av;refine I ?_;have bd:=bt hb1;have a9:=bt hb2;have Wa:=bt hb3;have a3:=bt B2;have bv:=bt GC;have a2:=bt H2;have WV:w.heap.size<=L1.heap.size:=bz Av
 refine Bc (M:=(y5 3 3 0 []).length) (Pa:=ZE 3 3) (bs:=[]) (gf:=107) (lb:=[pT H4,pT KM]) (p:=29) Z IL (vl GC H2 dc) (fun(k:Nat) W=>L1.heap.size<=W.heap.size/\aP w W/\(ao W b1 33 #[S ((qR la lb).1),S ((qR la lb).2)])/\(ao W b2 3 #[.int .i64 pl])/\(ao W b3 30 #[.slice A ys.length C,.slice Y ys.length CY,.slice B ys.length CB])/\(ao W w.heap.size 22 #[.slice none (0) (0)])/\(ao W H4 3 #[.int .i64 (3)])/\(ao W KM 3 #[.int .i64 (3)])) (λ_ _ _=>False) (λk=>⟨λO ⟨Ap,E,Ab,A2,A0,A1,Af,Am⟩=>⟨qa8 Ap (bz O),xt E O,be O Ab,be O A2,be O A0,be O A1,be O Af,be O Am⟩,λO hb ⟨Ap,E,Ab,A2,A0,A1,Af,Am⟩=>⟨kc7,bh O E,pb O Ab,pb O A2,pb O A0,pb O A1,pb O Af,pb O Am⟩⟩) ?hIx3 ?h03 (λe k e' W=>k=0/\∃Az Aq As,e'=upd (upd e 29 (.slice Az 3 Aq)) 5 (.slice Az 3 Aq)/\Rw W As Az (ints [0,1,2])/\(fun(k:Nat) W=>L1.heap.size<=W.heap.size/\aP w W/\(ao W b1 33 #[S ((qR la lb).1),S ((qR la lb).2)])/\(ao W b2 3 #[.int .i64 pl])/\(ao W b3 30 #[.slice A ys.length C,.slice Y ys.length CY,.slice B ys.length CB])/\(ao W w.heap.size 22 #[.slice none (0) (0)])/\(ao W H4 3 #[.int .i64 (3)])/\(ao W KM 3 #[.int .i64 (3)])) k W) ?hA3 ?asn3 ?body3 ?done3 ?stop3;case hIx3=>
  rintro c k A b r E6 hb hl ⟨⟩
 case h03=>
  exact⟨qa0 _,Av,hb1,hb2,hb3,B2,GC,H2⟩
 case hA3=>
  rintro k e' W b r E6 hb hl ⟨KC,Az,Aq,As,Ix,Ar,Ap,E,Ab,A2,A0,A1,Af,Am⟩;have O:=dj W b (.loop E6);exact⟨KC,Az,Aq,As,Ix,FL Ar hl,kc7,bh O E,pb O Ab,pb O A2,pb O A0,pb O A1,pb O Af,pb O Am⟩
 case asn3=>
  rintro l k v W K hkM ⟨Ap,E,Ab,A2,A0,A1,Af,Am⟩ ⟨Az,Aq,As,rfl,Ar⟩ hK;have Aw:k=0:=(by rw[show(y5 3 3 0 []).length=1 by decide]at hkM;omega);subst Aw;have Ar:Rw W As Az (ints [0,1,2]):=Ar;refine I ?_;exact hK _ _ (aa1 _) ⟨rfl,Az,Aq,As,rfl,Ar,Ap,E,Ab,A2,A0,A1,Af,Am⟩
 case body3=>
  rintro l k e' W hkM ⟨rfl,Az,Aq,As,rfl,Ar,Ap,E,Ab,A2,A0,A1,Af,Am⟩;have zW:=bz E;have EW:=aa1 W;refine I ?_;(try refine aa (aN (cs:=[.slice A ys.length C,.slice Y ys.length CY,.slice B ys.length CB]) (b:=b3) (o:=0) c8 Z bf Z (aa0 A0 (i:=0) Z) ?_));refine I ?_;refine cl BY (yQ (hD.ext E) ok (kd:=Az) (CR:=Aq) (rl:=[0,1,2]) (Ar.ext EW) pe3 ok3 (ht.ext E)) ?_;rintro _ Kp E4 ⟨a6,rfl,Rm,Ne,ny,od,P1,P0,rfl,W3⟩;have Ab:=be E4.2 Ab;have A2:=be E4.2 A2;have A0:=be E4.2 A0;have A1:=be E4.2 A1;have Af:=be E4.2 Af;have Am:=be E4.2 Am;have E:=xt E E4.2;have EW:=xt EW E4.2;have ES:=aa1 Kp;refine I ?_;refine al eh (λ_ Cr T3=>?_);have Ab:=be Cr.2 Ab;have A2:=be Cr.2 A2;have A0:=be Cr.2 A0;have A1:=be Cr.2 A1;have Af:=be Cr.2 Af;have Am:=be Cr.2 Am;have E:=xt E Cr.2;have EW:=xt EW Cr.2;have ES:=xt ES Cr.2;refine aa (bB (b:=Kp.heap.size) (o:=0) (vs:=[.slice Rm KY3.length Ne,.slice ny KY3.length od,.slice P1 KY3.length P0]) bf Z Z Hx T3 (qa3 Z) (λ_ B1 S9=>?_));have Ab:=pb B1 Ab;have A2:=pb B1 A2;have A0:=pb B1 A0
  have A1:=pb B1 A1;have Af:=pb B1 Af;have Am:=pb B1 Am;have E:=bh B1 E;have ac:=iQ B1;have EW:=bh B1 EW;have ES:=bh B1 ES;refine I ?_;(try refine aa (aN (cs:=[.slice Rm KY3.length Ne,.slice ny KY3.length od,.slice P1 KY3.length P0]) (b:=Kp.heap.size) (o:=0) c8 Z bf Z (aa0 S9 (i:=0) Z) ?_));refine I ?_;refine cl qB (hC3 _ _ _ _ _ _ _ (ia.ext ES W3).des (ht.ext E)) ?_;rintro _ _ E1 rfl;have Ab:=be E1.2 Ab;have A2:=be E1.2 A2;have A0:=be E1.2 A0;have A1:=be E1.2 A1;have Af:=be E1.2 Af;have Am:=be E1.2 Am;have E:=xt E E1.2;have EW:=xt EW E1.2;have ES:=xt ES E1.2;refine I ?_;exact⟨KO.ofExt EW,jc.ofE EW,U,E,Ab,A2,A0,A1,Af,Am⟩
 case done3=>
  rintro D W hD9 ⟨Ap,E,Ab,A2,A0,A1,Af,Am⟩ hK9;have zW:=bz E;have hDlt:D<W.heap.size:=(Array.getElem?_eq_some_iff.1 hK9).1;refine I ?_;refine aa (jl (a:=3) (b:=1) (c:=2) Z Z zd Z ?_);refine I ?_;refine Zy (I ?_);rw[L3];refine I ?_;refine cl IH (Be (m:=3) (n:=2)) ?_;rintro _ G0 E7 ⟨K2,H3,rfl,KY,L2,ad,bp⟩;have Ab:=be E7.2 Ab;have A2:=be E7.2 A2;have A0:=be E7.2 A0;have A1:=be E7.2 A1;have hK9:=lj.ext E7.2 hK9;have E:=xt E E7.2;refine I ?_;have cT:=bt Ab;have a5:=bt A2;have a0:=bt A0;have bW:=bt A1;have bq:=bt KY;have an:=bt L2;have WV:w.heap.size<=G0.heap.size:=bz E;refine Bc (M:=(y5 2 3 0 []).length) (Pa:=ZE 2 3) (bs:=[]) (gf:=107) (lb:=[pT K2,pT H3]) (p:=29) Z IL (vl KY L2 dc) (fun(k:Nat) W=>k=0/\G0.heap.size<=W.heap.size/\aP w W/\(ao W b1 33 #[S (qR la lb).1,S (qR la lb).2])/\(ao W b2 3 #[.int .i64 pl])/\(ao W b3 30 #[.slice A ys.length C,.slice Y ys.length CY,.slice B ys.length CB])/\(ao W w.heap.size 22 #[.slice none 0 0])/\(lj W D)/\(ao W K2 3 #[.int .i64 2])/\(ao W H3 3 #[.int .i64 3])) (λc _ W=>c=.ret/\∃v0,ao W w.heap.size 22 #[v0]/\W.ownsRow w.heap.size 3 1 v0 2 (ints [0,1])/\aP w W/\G0.heap.size<=W.heap.size/\(lj W D)) (λk=>⟨λO ⟨Aw,Ap,E,Ab,A2,A0,A1,Af,Am,Ao⟩=>⟨Aw,qa8 Ap (bz O),xt E O,be O Ab,be O A2,be O A0,be O A1,lj.ext O Af,be O Am,be O Ao⟩,λO hb ⟨Aw,Ap,E,Ab,A2,A0,A1,Af,Am,Ao⟩=>⟨Aw,kc7,bh O E,pb O Ab,pb O A2,pb O A0,pb O A1,ac8 O U Af,pb O Am,pb O Ao⟩⟩) ?hIx2 ?h02 (λe k e' W=>k=0/\∃Az Aq As,e'=upd (upd e 29 (.slice Az 2 Aq)) 5 (.slice Az 2 Aq)/\Rw W As Az (ints [0,1])/\(fun(k:Nat) W=>k=0/\G0.heap.size<=W.heap.size/\aP w W/\(ao W b1 33 #[S (qR la lb).1,S (qR la lb).2])/\(ao W b2 3 #[.int .i64 pl])/\(ao W b3 30 #[.slice A ys.length C,.slice Y ys.length CY,.slice B ys.length CB])/\(ao W w.heap.size 22 #[.slice none 0 0])/\(lj W D)/\(ao W K2 3 #[.int .i64 2])/\(ao W H3 3 #[.int .i64 3])) k W) ?hA2 ?asn2 ?body2 ?done2 ?stop2
  case hIx2=>
   rintro c k A b r E6 hb hl ⟨rfl,v0,hB,hO,hE0,Li,FR⟩;have O:=dj A b (.loop E6);exact⟨rfl,v0,(jc.putObj (bs:=[]) hl).blk JT hB,yR hO (jc.putObj (bs:=[]) hl) (λg _=>by simp),bh O hE0,(by rw[O.size];exact Li),ac8 O U FR⟩
  case h02=>
   exact⟨rfl,qa0 _,E,Ab,A2,A0,A1,hK9,KY,L2⟩
  case hA2=>
   rintro k e' W b r E6 hb hl ⟨KC,Az,Aq,As,Ix,Ar,Aw,Ap,E,Ab,A2,A0,A1,Af,Am,Ao⟩;have O:=dj W b (.loop E6);exact⟨KC,Az,Aq,As,Ix,FL Ar hl,Aw,kc7,bh O E,pb O Ab,pb O A2,pb O A0,pb O A1,ac8 O U Af,pb O Am,pb O Ao⟩
  case asn2=>
   rintro l k v W K hkM ⟨Aw,Ap,E,Ab,A2,A0,A1,Af,Am,Ao⟩ ⟨Az,Aq,As,rfl,Ar⟩ hK;subst Aw;have Ar:Rw W As Az (ints [0,1]):=Ar;have Aw:0=0:=rfl;refine I ?_;exact hK _ _ (aa1 _) ⟨rfl,Az,Aq,As,rfl,Ar,rfl,Ap,E,Ab,A2,A0,A1,Af,Am,Ao⟩
  case body2=>
   rintro l k e' W hkM ⟨rfl,Az,Aq,As,rfl,Ar,Aw,Ap,E,Ab,A2,A0,A1,Af,Am,Ao⟩;have zW:=bz E;have EW:=aa1 W;obtain⟨bZ,VW,rfl,_⟩:=Ar.cells 0 _ Z;refine I ?_;(try refine aa (aN (cs:=[.slice A ys.length C,.slice Y ys.length CY,.slice B ys.length CB]) (b:=b3) (o:=0) c8 Z bf Z (aa0 A0 (i:=0) Z) ?_));refine I ?_;refine cl BY (yQ (hD.ext E) ok (kd:=(some ⟨bZ,VW,none⟩)) (CR:=Aq) (rl:=[0,1]) (Ar.ext EW) pe2 ok2 (ht.ext E)) ?_;rintro _ L4 E0 ⟨a4,rfl,Lk,Q0,N0,wr,Lj,La,rfl,W2⟩;have Ab:=be E0.2 Ab;have A2:=be E0.2 A2;have A0:=be E0.2 A0;have A1:=be E0.2 A1;have Af:=lj.ext E0.2 Af;have Am:=be E0.2 Am;have Ao:=be E0.2 Ao;have E:=xt E E0.2;have EW:=xt EW E0.2;have ES:=aa1 L4;refine I ?_;refine al eh (λ_ C1 No=>?_);have Ab:=be C1.2 Ab;have A2:=be C1.2 A2;have A0:=be C1.2 A0;have A1:=be C1.2 A1;have Af:=lj.ext C1.2 Af;have Am:=be C1.2 Am;have Ao:=be C1.2 Ao;have E:=xt E C1.2;have EW:=xt EW C1.2;have ES:=xt ES C1.2;refine aa (bB (b:=L4.heap.size) (o:=0) (vs:=[.slice Lk KY2.length Q0,.slice N0 KY2.length wr,.slice Lj KY2.length La]) bf Z Z Hx No (qa3 Z) (λ_ Ay E5=>?_))
   have Ab:=pb Ay Ab;have A2:=pb Ay A2;have A0:=pb Ay A0;have A1:=pb Ay A1;have Af:=ac8 Ay (Af.ne No) Af;have Am:=pb Ay Am;have Ao:=pb Ay Ao;have E:=bh Ay E;have b0:=iQ Ay;have EW:=bh Ay EW;have ES:=bh Ay ES;refine I ?_;(try refine aa (aN (cs:=[.slice Lk KY2.length Q0,.slice N0 KY2.length wr,.slice Lj KY2.length La]) (b:=L4.heap.size) (o:=0) c8 Z bf Z (aa0 E5 (i:=0) Z) ?_));refine I ?_;refine cl qB (hC2 _ _ _ _ _ _ _ (ia.ext ES W2).des (ht.ext E)) ?_;rintro _ _ CG rfl;have Ab:=be CG.2 Ab;have A2:=be CG.2 A2;have A0:=be CG.2 A0;have A1:=be CG.2 A1;have Af:=lj.ext CG.2 Af;have Am:=be CG.2 Am;have Ao:=be CG.2 Ao;have E5:=be CG.2 E5;have E:=xt E CG.2;have EW:=xt EW CG.2;refine I ?_;refine clb SJ (hc:=Hu (xs:=[0,1]) (Ar.ext EW) dc) (hk:=?_);rintro S0 _ Ax E9;have Ax:=Ax.2;have Ab:=be Ax Ab;have A2:=be Ax A2;have A0:=be Ax A0;have A1:=be Ax A1;have Af:=lj.ext Ax Af;have Am:=be Ax Am;have Ao:=be Ax Ao;have E5:=be Ax E5;have E:=xt E Ax;have EW:=xt EW Ax;refine aa (b7 (b:=w.heap.size) (o:=0) (v:=S0) BK Z Z (bS E9) A1 (qa3 Z) (λ_ B0 Vm=>?_))
   have KO9:=(KO.ofExt EW).trans (KO.put B0 A1);have Ab:=pb B0 Ab;have A2:=pb B0 A2;have A0:=pb B0 A0;have Af:=ac8 B0 (Af.ne A1) Af;have Am:=pb B0 Am;have Ao:=pb B0 Ao;have E5:=pb B0 E5;have E9:=aw B0 (λe=>by have:=aV E9 _ e;omega) E9;have E:=bh B0 E;have a8:=iQ B0;refine I ?_;exact⟨KO9,rfl,_,Vm,(cD U E9),E,U,Af⟩
  case done2=>
   rintro D W hD9 ⟨Aw,Ap,E,Ab,A2,A0,A1,Af,Am,Ao⟩ hK9;exact absurd Aw dc
  case stop2=>
   rintro D2 c k W hD9 ⟨rfl,v0,hB,hO,hE0,Li,FR⟩ hK9;refine I ?_;have K3:D≠D2:=J
   have hB9:=ao.dfr (ac8 (dG W) K3 FR) (ao.dfr hK9 hB);refine PU (v:=v0) hK9 FR K3 (bY Z ?_) ((dG _).low ((dG _).low hE0 U) U) (Eb (ac8 (dG W) K3 FR) (Eb hK9 hO));refine bu (t:=3) (b:=w.heap.size) (o:=0) kt Z ?_ ?_;exact Z;exact ab3 hB9 Z
 case stop3=>
  rintro D c k W hD9 ⟨⟩
def Mc {lb:List Value}{xs:List Nat}(hg:Enters prog gf)(hc:∀W,aP w W->CL gf lb.toArray W (aI W λv w'=>w'.ownsRow W.heap.size 3 1 v k (ints xs))):
 CL 47 #[.func (.func gf) #[] lb.toArray] w (aI w λv w'=>∃u,v=.tuple #[u,.int .i64 0]/\w'.ownsRow w.heap.size 3 1 u k (ints xs)):=by
 refine kR func47 Z (I ?_);refine al QA (λA0 Ap H=>?_);have E:=Ap.2;refine al kC (λ_ Am O=>?_);have⟨H,E⟩:=bn Am.2 H E;refine I ?_;refine aa (aF (vf:=[]) (vc:=[pT w.heap.size,pT A0.heap.size]) Z Z ?_);refine aa (g7 (lb:=[pT w.heap.size,pT A0.heap.size]) Z ?_);refine I ?_;refine aa (lV (f:=gf) (lb:=lb) (vs:=[]) hg Z Z (hc _ E) ?_);rintro Af _ Ao G;have⟨H,O,E⟩:=cj Ao.2 H O E;refine aa (b7 (b:=w.heap.size) (o:=0) (v:=Af) BK Z Z (bS G) H (qa3 Z) (λ_ A2 Ab=>?_));have O:=pb A2 O;have G:=aw A2 (λe=>by have:=aV G _ e;omega) G;have E:=bh A2 E;refine SO O (λ_ A1 Aq=>?_);have Ab:=pb A1 Ab;have G:=aw A1 (λe=>by have:=aV G _ e;omega) G;have E:=bh A1 E;refine I ?_;refine ou (b1:=w.heap.size) (b2:=A0.heap.size) (v:=.tuple #[Af,.int .i64 0]) SX (λ_ _=>Kh) E (cQ (r1:=.cell 2 22) (r2:=.cell 3 36) Z ?_ ?_) ⟨_,rfl,cD U G⟩;refine bu (t:=2) (b:=w.heap.size) (o:=0) kt Z ?_ ?_;exact Z;exact ab3 Ab Z;refine bu (t:=3) (b:=A0.heap.size) (o:=0) yZ Z ?_ ?_;exact Z;exact ab3 Aq Z
def Md {L V:Rows}{ys:List R}(hD:eE w A C Y CY B CB L V ys)(ok:fL L V ys)(h3:ys.length=3){la lb:Int}(ql:Q9 la lb)(h12:pl<=12)(hl1:0<=aO (la*1000000) (1*lb))(hl2:aO (la*2) (1*lb)<=0){KM3 KC3 KM2 KC2:Rows}{KY3 KY2:List R}(pe3:qd L V ys [0,1,2] KM3 KC3 KY3)(ok3:fL KM3 KC3 KY3)(pe2:qd L V ys [0,1] KM2 KC2 KY2)(ok2:fL KM2 KC2 KY2)(hC3:∀A C Y CY B CB W,eE W A C Y CY B CB KM3 KC3 KY3->Tb W->CL 19 #[.agg #[.slice A KY3.length C,.slice Y KY3.length CY,.slice B KY3.length CB],QV la lb,.int .i64 pl] W (aI W λv _=>v=.tuple #[.int .i64 2,.int .i64 0]))(hC2:∀A C Y CY B CB W,eE W A C Y CY B CB KM2 KC2 KY2->Tb W->CL 19 #[.agg #[.slice A KY2.length C,.slice Y KY2.length CY,.slice B KY2.length CB],QV la lb,.int .i64 pl] W (aI W λv _=>v=.tuple #[.int .i64 1,.int .i64 0]))(ht:Tb w):
 CL 21 #[.agg #[.slice A ys.length C,.slice Y ys.length CY,.slice B ys.length CB],QV la lb,.int .i64 pl] w (aI w λv w'=>∃u,v=.tuple #[u,.int .i64 0]/\w'.ownsRow w.heap.size 3 1 u 2 (ints [0,1])):=by
 obtain⟨_,H,_⟩:=hD.m;obtain⟨_,_⟩:=hD.y;obtain⟨_,G,_⟩:=hD.v;refine rx func21 Z (I ?_);refine bx (λAb Ar O=>?_);have E:=Ar.2;refine bx (λA1 Af A0=>?_);have⟨O,E⟩:=bn Af.2 O E;refine bx (λ_ Am Ao=>?_);have⟨O,A0,E⟩:=cj Am.2 O A0 E;refine I ?_;refine aa (aF (vf:=[]) (vc:=[pT Ab.heap.size,pT A1.heap.size,pT w.heap.size]) Z Z ?_);refine cl SH (Mc (gf:=48) (lb:=[pT Ab.heap.size,pT A1.heap.size,pT w.heap.size]) SI (λW q=>Hw (hD.ext (xt E q)) ok h3 ql h12 hl1 hl2 pe3 ok3 pe2 ok2 hC3 hC2 (be q A0) (be q Ao) (be q O) (ht.ext (xt E q)))) ?_;rintro _ _ Aq ⟨A2,rfl,Ap⟩;have E:=xt E Aq.2;refine I ?_;refine aa (aL (v:=A2) Z ?_);refine I ?_;refine xD (v:=.tuple #[A2,.int .i64 0]) (cQ (r1:=.tmp 6) (r2:=.tmp 7) Z ?_ ?_) E ⟨_,rfl,cD U Ap⟩;exact aM (t:=6) WD _;exact aM (t:=7) WD _
section
variable {r:Option Nat}{ds:List Deferred}{Q:Exit->Act->World->Prop}{K:Act->World->Prop}
variable {d ty:Nat}{pos:String}{af:Array Edge}{g:Option (Nat×Bool)}{x y:Operand}{t':TypeId}{a b:Int}
def UV {c:Int}(hx:ev N e x=.int .i64 a)(hy:ev N e y=.int .i64 b)(hc:IntKind.i64.wrap (a+b)=c)(hk:K (act N (upd e d (.int .i64 c)) ds) w):
 Oper.wpIn (Fw r) n P ⟨some d,.binOp .add t x y t',ty,pos,af,g⟩ (act N e ds) w K Q:=
 dI hx hy (b6 ..) (by subst hc;simp[binOp,Op.intArith]) hk
end
def kw (xs:List Int)(i:Nat):Int:=if xs.length=0 then 3*(i:Int)+1 else IntKind.i64.wrap (xs.getD (i%xs.length) 0+((i/xs.length:Nat):Int))
def wrap64 (z:Int):In64 (IntKind.i64.wrap z):=by
 have h:=Int.emod_nonneg z (show(2:Int)^64≠0 by decide)
 have h2:=Int.emod_lt_of_pos z (show(0:Int)<2^64 by decide)
 have e:IntKind.i64.wrap z=if(true&&decide (z%2^64≥2^(64-1)))=true then z%2^64-2^64 else z%2^64:=rfl
 rw[e]
 unfold In64
 by_cases hc:(true&&decide (z%2^64≥2^(64-1)))=true
 · rw[if_pos hc];simp at hc;omega
 · rw[if_neg hc];simp at hc;omega
def te {xs:List Int}(hi:i<=1000):In64 (kw xs i):=by
 unfold kw;split
 · unfold In64;omega
 · exact wrap64 _
def Me (a b:Nat):(a:Int).tdiv (b:Int)=((a/b:Nat):Int):=rfl
def jA (c m:Int)(w:World)(hc:In64 c)(hm:0<m):
 CL 79 #[.int .i64 c,.int .i64 m] w (aI w λv w'=>v=.int .i64 (ay c m)):=by
 unfold In64 at hc;refine aE func79 Z (I ?_);by_cases cf:c<0;refine I ?_;refine gO ?_;refine aa (y6 (a:=c+1) Z zd ?_);refine I ?_;refine aa (mc (a:=-(c+1)) (b:=m) (c:=ay c m) Z Z U U (Aj cf) ?_);refine I ?_;exact am (t:=4) (v:=.int .i64 (ay c m)) Z (aa1 _) Z Z;refine I ?_;refine aa (mc (a:=c) (b:=m) (c:=ay c m) Z Z U U (Ak cf) ?_);refine I ?_;exact am (t:=4) (v:=.int .i64 (ay c m)) Z (aa1 _) Z Z
def gL (c m:Int)(w:World)(hc:In64 c)(hm:0<m):
 CL 12 #[.int .i64 c,.int .i64 m] w (aI w λv w'=>v=.int .i64 (ay c m)):=by
 unfold In64 at hc;refine aE func12 Z (I ?_);by_cases cf:c<0;refine I ?_;refine gO ?_;refine aa (y6 (a:=c+1) Z zd ?_);refine I ?_;refine aa (mc (a:=-(c+1)) (b:=m) (c:=ay c m) Z Z U U (Aj cf) ?_);refine I ?_;exact am (t:=4) (v:=.int .i64 (ay c m)) Z (aa1 _) Z Z;refine I ?_;refine aa (mc (a:=c) (b:=m) (c:=ay c m) Z Z U U (Ak cf) ?_);refine I ?_;exact am (t:=4) (v:=.int .i64 (ay c m)) Z (aa1 _) Z Z
def cE (a b:Int)(ha:-100000000<=a/\a<=100000000)(hb:-100000000<=b/\b<=100000000):
 CL 11 #[.int .i64 a,.int .i64 b] w (aI w λv w'=>v=.agg #[S (aS a b).1,S (aS a b).2]):=by
 refine aE func11 Z (I ?_);refine al aY (λ_ Ab G=>?_);have E:=Ab.2;refine I ?_;refine clb Ic (hc:=An a b _ U U) (hk:=?_);rintro _ _ A1 rfl;have⟨G,E⟩:=bn A1.2 G E;refine I ?_;refine al aY (λ_ A2 A0=>?_);have⟨G,E⟩:=bn A2.2 G E;refine SA A0 (λ_ Am H=>?_);have⟨G,E,_⟩:=ku Am G E;refine I ?_;refine SA G (λ_ O Af=>?_);have H:=pb O H;have E:=bh O E;refine I ?_;refine aX (v:=.agg #[S ((aS a b).1),S ((aS a b).2)]) (bY  rfl ?_) E Z;refine ai (t:=4) (cs:=[S ((aS a b).1),S ((aS a b).2)]) (b:=w.heap.size) (o:=0) iO Z bV ?_ ?_;exact Z;exact aa0 Af (i:=0) Z
def tg {xs:List Int}(hi:i<=1000)(hx:Rw w lo X (nj xs)):
 CL 80 #[.slice X xs.length CX,.int .i64 i] w (aI w λv w'=>v=.int .i64 (kw xs i)):=by
 refine aE func80 Z (I ?_);by_cases cf:((xs.length:Nat):Int)=0;refine I ?_;refine aa (ri (a:=3) (b:=(i:Int)) (c:=3*(i:Int)) Z Z zd Z ?_);refine gO (I ?_);exact am (t:=4) (v:=.int .i64 ((3*(i:Int))+1)) Z (aa1 _) (by unfold kw;split <;>first|rfl|omega) Z
 refine I ?_;refine bH 11 ?_;refine sf ?_;refine aB (λ_ _ _ _=>by refine aa (Cj (a:=(i:Int)) (b:=((xs.length:Nat):Int)) (c:=((i%xs.length:Nat):Int)) Z Z U Z ?_);refine I ?_;exact aG) ?_
 refine aB (λ_ _ O _=>by refine aa (aD (i:=i%xs.length) (oo:=(gH X+(i%xs.length))) kt ie Z (Fe (hx.ext O) (i:=i%xs.length) (Nat.mod_lt _ U)).1 (dv Z U) (Nat.mod_lt _ U) MT ?_);refine I ?_;exact aG) ?_
 refine aB (λ_ _ A0 _=>by have A1:=Fe (hx.ext A0) (i:=i%xs.length) (Nat.mod_lt _ U);refine I ?_;exact aG) ?_;refine sf ?_;refine aB (λ_ _ _ _=>by have E:i/xs.length<=i:=Nat.div_le_self _ _;obtain⟨dq,hdq⟩:∃dq:Nat,dq=i/xs.length:=⟨_,rfl⟩;refine aa (Ci (a:=(i:Int)) (b:=((xs.length:Nat):Int)) (c:=((i/xs.length:Nat):Int)) Z Z U (Me _ _) (by rw[<-hdq]at E ⊢;unfold In64;omega) ?_);refine I ?_;exact aG) ?_;refine sf ?_;intro _ _ G _;have H:=G.2;refine aa (UV (a:=(xs).getD (i%xs.length) 0) (b:=((i/xs.length:Nat):Int)) (c:=IntKind.i64.wrap (xs.getD (i%xs.length) 0+((i/xs.length:Nat):Int))) Z Z Z ?_);refine I ?_;exact am (t:=4) (v:=.int .i64 (IntKind.i64.wrap (xs.getD (i%xs.length) 0+((i/xs.length:Nat):Int)))) Z H (by unfold kw;split <;>first|rfl|omega) Z
end
section
set_option maxRecDepth 100000
open Go.ChangeShapes Go.WideShapes Go.ChangeAt Go.Deep Proofs.Tryz
def ZF:ownKnob prog.godebug=none:=by kernel_rfl
def X1:laidOutB prog=true:=by kernel_rfl
def c3:prog.cellsOf 3=1:=by kernel_rfl
def c25:prog.cellsOf 25=2:=by kernel_rfl
def Mf :W.cell? ((⟨b,o,none⟩:Addr).add i)=W.cell? ⟨b,o+i,none⟩:=by unfold Addr.add;split <;>simp_all
def X3 : prog.globalNamed "internal/strconv.uint64pow10" = some 4 := by kernel_rfl
def ZG:(prog.globals[4]?).map (·.type)=some 306:=by kernel_rfl
def X4:(((begin prog (λ_ _=>0) default).world.heap[4]?).bind Obj.row?).map (·.2)=some 306:=by kernel_rfl
def ZH:∃z,(((begin prog (λ_ _=>0) default).world.heap[4]?).bind Obj.row?)=some (z,306):=by
 obtain⟨⟨z,t⟩,h,e⟩:=Option.map_eq_some_iff.1 X4
 cases e;exact⟨z,h⟩
def ZI:4<prog.globals.size:=of_decide_eq_true q0
def ZJ:Rows.laid_internal_strconv_uint64pow10=(.agg (Lib.pow10Tab.map λz=>DataW.lit (.int .u64 z)):DataW Unit):=by kernel_rfl
def cU:prog.cellsOf 259=1:=by kernel_rfl
def uU:prog.underlying 259=some (.int .u64):=by kernel_rfl
def cA:prog.cellsOf 306=20:=by kernel_rfl
def UW:Lib.pow10Tab.length=20:=by kernel_rfl
def nc {H:Type}{enc:TypeId×Value->H}{hd:Bool}{ts:List TypeId}{ds:List (DataW H)}{ps:List MemPlace}(h:DataW.TrodAll enc P w base sp hd (t::ts) vs ds ps):∃v vs' d ds' p q,vs=v::vs'/\ds=d::ds'/\DataW.Trod enc P w base sp hd t v d p/\DataW.TrodAll enc P w base sp hd ts vs' ds' q:=by
 match vs,ds,h with
 | v::vs',d::ds',h=>
   obtain⟨p,q,h1,h2,_⟩:=h
   exact⟨v,vs',d,ds',p,q,rfl,rfl,h1,h2⟩
def Mg {H:Type}{enc:TypeId×Value->H}{hd:Bool}{ds:List (DataW H)}{ps:List MemPlace}(h:DataW.TrodAll enc P w base sp hd [] vs ds ps):vs=[]/\ds=[]:=by
 match vs,ds,h with
 |[],[],_=>exact⟨rfl,rfl⟩
def xe {H:Type}{enc:TypeId×Value->H}{W W':World}{sp':Nat->Bool}(k:aP W W'):∀{ts:List TypeId} {vs:List Value} {ds:List (DataW H)} {ps:List MemPlace},
 (∀t∈ts,prog.readableRec t=true/\t<prog.types.size)->DataW.TrodAll enc prog W 0 (λ_=>true) true ts vs ds ps->(∀p∈ps,p.block<W.heap.size)->(∀p∈ps,sp' p.block=true)->DataW.TrodAll enc prog W' 0 sp' true ts vs ds ps
 |[],[],[],_,_,h,_,_=>h
 | t::ts,v::vs,d::ds,ps,hr,h,hl,hs=>by
   obtain⟨p,q,h1,h2,rfl⟩:=h
   refine⟨p,q,WideElems.Trod_stays X1 (hr t JT).1 (hr t JT).2 h1 (λx hx=>?_) (λx hx=>hs x (by simp[hx])),xe k (λu hu=>hr u (by simp[hu])) h2 (λx hx=>hl x (by simp[hx])) (λx hx=>hs x (by simp[hx])),rfl⟩
   have hb:=hl x (by simp[hx])
   cases x with
   |cell b o=>exact World.cell?_of_block (k.block b hb)
   |map b=>exact k.block b hb
 |[],[],_::_,_,_,h,_,_=>h.elim
 |[],_::_,_,_,_,h,_,_=>h.elim
 |_::_,[],_,_,_,h,_,_=>h.elim
 |_::_,_::_,[],_,_,h,_,_=>h.elim
def Hy {n:Int}(h:(Lit.int .i64 n).wf=true):In64 n:=by
 simp only[Lit.wf,Bool.and_eq_true,decide_eq_true_eq]at h
 have E:IntKind.i64.min=-9223372036854775808:=rfl
 have e2:IntKind.i64.max=9223372036854775807:=rfl
 rw[E,e2]at h
 unfold In64;omega
section
variable {H:Type}{enc:TypeId×Value->H}{fuel b0:Nat}{x:DataW H×List MemPlace}
def PV (hv:Value.okWide prog W .any b0 25 v)(h:DataW.trod enc prog W base (λ_=>true) true fuel 25 v.cells.toList=some x):
 ∃a b:Int,v=.agg #[.int .i64 a,.int .i64 b]/\In64 a/\In64 b:=by
 unfold Value.okWide at hv
 rw[underlying25]at hv
 obtain⟨cs,rfl,hs,_⟩:=hv
 rw[c25]at hs
 obtain⟨xs,m,_,_,_,_,hx⟩:=DataW.trod_array underlying25 h
 obtain⟨l⟩:=cs
 match l,hs with
 | [u,v],_=>
   have E:=hx 0 j1
   have h1:=hx 1 j1
   rw[c3]at E h1
   rw[List.getElem?_eq_getElem (show 0<xs.length by omega)]at E
   rw[List.getElem?_eq_getElem (show 1<xs.length by omega)]at h1
   obtain⟨a,G,_,A1⟩:=DataW.trod_int underlying3 E
   obtain⟨b,O,_,A0⟩:=DataW.trod_int underlying3 h1
   have G:u=.int .i64 a:=by simpa[Value.cells]using G
   have O:v=.int .i64 b:=by simpa[Value.cells]using O
   exact⟨a,b,by rw[G,O],Hy A1,Hy A0⟩
end
def ZK:maxLen=9223372036854775807:=by decide +kernel
section
variable {H:Type}{enc:TypeId×Value->H}{fuel b0:Nat}{cs:List Value}{x:DataW H×List MemPlace}
def PW {e:TypeId}{a:Addr}{len cap:Nat}(ht:prog.underlying t=some (.slice e))(h:Value.okWide prog W .any b0 t (.slice (some a) len cap)):a.spot=none/\a.block<W.heap.size:=by
 simp only[Value.okWide,ht,Cell.okWide,Cell.ok,World.has]at h
 obtain⟨_,_,_,hs,_,_,hsh,_⟩:=h
 refine⟨hs,?_⟩
 unfold World.shape? at hsh
 cases hh:W.heap[a.block]? with
 |none=>rw[hh]at hsh;cases hsh
 |some o=>exact(Array.getElem?_eq_some_iff.1 hh).1
def PX (hv:Value.okWide prog W .any b0 22 v)(h:DataW.trod enc prog W base (λ_=>true) true fuel 22 v.cells.toList=some x):
 ∃(A:Option Addr) (cap:Nat) (zs:List Int),v=.slice A zs.length cap/\Rw W 0 A (nj zs)/\(∀z∈zs,In64 z)/\zs.length<=cap:=by
 obtain⟨A,len,cap,rfl⟩:=okWide_slice underlying22 hv
 rcases open_ints underlying22 underlying3 c3 h with⟨hc,_⟩|⟨a,len',cap',zs,hc,_,hl,hm,G,_,hcell,hwf⟩
 · simp[Value.cells]at hc;obtain⟨rfl,rfl,rfl⟩:=hc
   exact⟨none,0,[],rfl,Rw.nil W 0,λz E=>by simp at E,Nat.le_refl _⟩
 simp[Value.cells]at hc
 obtain⟨rfl,rfl,rfl⟩:=hc
 obtain⟨hs,hb⟩:=PW underlying22 hv
 have hlen':zs.length=cap:=by simpa using G
 have A1:=ZK
 have ht:(zs.take len).length=len:=by simp;omega
 refine⟨some a,cap,zs.take len,by rw[ht],⟨λj u hu=>?_,λ_ _=>qa7 _,λ_ e=>by cases e;exact hb⟩,λz E=>?_,by rw[ht];exact hl⟩
 · have A0:j<len:=by
    have:=(List.getElem?_eq_some_iff.1 hu).1
    simp[nj]at this;omega
   have h1:=hcell j J
   obtain⟨b,o,_⟩:=a
   cases hs
   rw[Mf]at h1
   refine⟨b,o,rfl,h1.trans ?_⟩
   rw[<-hu]
   simp[nj,List.getElem?_take,A0,List.getD,show j<zs.length by omega]
 · have:=hwf z (List.mem_of_mem_take E)
   simp only[Lit.wf,Bool.and_eq_true,decide_eq_true_eq]at this
   have O:IntKind.i64.min=-9223372036854775808:=rfl
   have e2:IntKind.i64.max=9223372036854775807:=rfl
   rw[O,e2]at this
   unfold In64;omega
def X5:prog.cellsOf 24=3:=by kernel_rfl
def X6:prog.cellsOf 22=1:=by kernel_rfl
def X7:prog.cellTypes prog.depth 24=some [3,3,22]:=by kernel_rfl
def PY (hv:Value.okWide prog W .any b0 24 v)(h:DataW.trod enc prog W base (λ_=>true) true fuel 24 v.cells.toList=some x):
 ∃(a b:Int) (A:Option Addr) (cap:Nat) (zs:List Int),v=.agg #[.int .i64 a,.int .i64 b,.slice A zs.length cap]/\In64 a/\In64 b/\Rw W 0 A (nj zs)/\(∀z∈zs,In64 z)/\zs.length<=cap:=by
 unfold Value.okWide at hv
 rw[underlying24]at hv
 obtain⟨cs,rfl,hs,_,Ao,_,Am⟩:=hv
 rw[X5]at hs
 obtain rfl:=qb5 (X7.symm.trans Ao)
 obtain⟨xs,m,_,_,_,hl,hx⟩:=DataW.trod_struct underlying24 h
 obtain⟨l⟩:=cs
 match l,hs with
 | [u0,u1,u2],_=>
   have G:DataW.trod enc prog W base (λ_=>true) true m 3 (([u0,u1,u2].drop 0).take (prog.cellsOf 3))=xs[0]?:=hx 0 _ Z
   have h1:DataW.trod enc prog W base (λ_=>true) true m 3 (([u0,u1,u2].drop 1).take (prog.cellsOf 3))=xs[1]?:=hx 1 _ Z
   have h2:DataW.trod enc prog W base (λ_=>true) true m 22 (([u0,u1,u2].drop 2).take (prog.cellsOf 22))=xs[2]?:=hx 2 _ Z
   rw[c3]at G h1
   rw[X6]at h2
   have Aq:xs.length=3:=hl
   rw[List.getElem?_eq_getElem (show 0<xs.length by omega)]at G
   rw[List.getElem?_eq_getElem (show 1<xs.length by omega)]at h1
   rw[List.getElem?_eq_getElem (show 2<xs.length by omega)]at h2
   obtain⟨a,O,_,Ab⟩:=DataW.trod_int underlying3 G
   obtain⟨b,E,_,A2⟩:=DataW.trod_int underlying3 h1
   have O:u0=.int .i64 a:=by simpa[Value.cells]using O
   have E:u1=.int .i64 b:=by simpa[Value.cells]using E
   obtain⟨u,hu,hc⟩:=Am 2 u2 Z
   have hu:u=22:=by simpa using hu.symm
   subst hu
   have A0:Value.okWide prog W .any b0 22 u2:=by
    unfold Value.okWide;rw[underlying22];exact hc
   obtain⟨A,_,cap,e2⟩:=okWide_slice underlying22 A0
   have h2':DataW.trod enc prog W base (λ_=>true) true m 22 (Value.cells u2).toList=some xs[2]:=by
    rw[<-h2,e2];rfl
   obtain⟨A,cap,zs,A1,hr,Af,Ap⟩:=PX A0 h2'
   exact⟨a,b,A,cap,zs,by rw[O,E,A1],Hy Ab,Hy A2,hr,Af,Ap⟩
end
def gEr : prog.globalNamed "yardstick/adjust.errFails" = some 0 := by kernel_rfl
def tEr:(prog.globals[0]?).map (·.type)=some 96:=by kernel_rfl
def ZL:(((begin prog (λ_ _=>0) default).world.heap[0]?).bind Obj.row?).map (·.2)=some 96:=by kernel_rfl
def zEr:∃z,(((begin prog (λ_ _=>0) default).world.heap[0]?).bind Obj.row?)=some (z,96):=by
 obtain⟨⟨z,t⟩,h,e⟩:=Option.map_eq_some_iff.1 ZL
 cases e;exact⟨z,h⟩
def nEr:0<prog.globals.size:=of_decide_eq_true q0
def Mh : "*errors.errorString" = "*" ++ "errors.errorString" := by decide +kernel
def PZ (u : TypeId)(h : prog.typeName? 3 u = some "*errors.errorString") : u = 316 :=
 typeName_ptr_named (P := prog) (nm := "errors.errorString") q0 q0 L7 u (by rw [← Mh]; exact h)
def UX {r : List (String × DataW Unit)}(hS : W.ShapedOpen prog)(h : laidMet prog (("yardstick/adjust.errFails", .iface "*errors.errorString" (.ptr (.agg [.lit (.string [97, 100, 106, 117, 115, 116])]))) :: r) W) : ∃ a, Er W a := by
 obtain⟨a,s,hv,_⟩:=laid_sentinel h gEr tEr underlying96 PZ underlying316 underlying318 Z Z underlying9 q0 q0
 obtain⟨z,G⟩:=zEr
 obtain⟨cs',E,_⟩:=hS.1 0 z 96 nEr G
 have hc:cs'=#[.iface 316 (.pointer (some a))]:=by
  simp only[World.var?,gEr,Option.bind_some,E]at hv
  exact qb5 hv
 subst hc
 exact⟨a,E⟩
end
end Go.Proofs.YtlmihmlnpjkblaaGreatDoor
