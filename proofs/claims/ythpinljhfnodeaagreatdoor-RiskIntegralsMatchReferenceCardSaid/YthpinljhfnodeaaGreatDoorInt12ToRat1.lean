/- Part of the proof of a statement about risks. -/
import Derived.Test.YthpinljhfnodeaaGreatDoorInt4ToInt11
import Derived.Lib.OthersKept
set_option linter.all false
namespace Go.Proofs.YthpinljhfnodeaaGreatDoor
open Go Go.Eng Go.RowKit Tryz
variable {ng nx ny:Bool}{X:List Nat}{l s a:List UInt8}{c lo g x n k i q y G m d f h:Nat}{A A1:Option Addr}{p:Prop}{w w' W W' B:World}
section
attribute [local irreducible] wpListIn Code.wpIn Oper.wpIn Exit.then Exit.inBlock Exit.noGoto
set_option maxHeartbeats 40000000
def dx (h:p:=by assumption):p:=h
def pf (w:World)(b:Nat)(l:List UInt8):Prop:=Lib.IsBuilderF 183 5 b b (Lib.byteCells l) w
def Iz {b:Nat}{p:Value}{bs:List Value}(hk:∀(k:Nat) (c:Array Value) (t:TypeId) (fz:Nat×Nat),w.heap[k]?=some (Obj.cells c t fz)->w'.heap[k]?=w.heap[k]?)(h:Lib.BuilderAtF 183 5 b b p bs w):Lib.BuilderAtF 183 5 b b p bs w':=by
 obtain⟨hB,v,hb,⟨hl,hv|⟨g,cap,A2,fz,rfl,qn,qr,r⟩⟩,O⟩:=h
 · exact⟨hB,v,(hk _ _ _ _ hb).trans hb,⟨hl,.inl hv⟩,O⟩
 · exact⟨hB,_,(hk _ _ _ _ hb).trans hb,⟨hl,.inr ⟨g,cap,A2,fz,rfl,qn,(hk _ _ _ _ qr).trans qr,r⟩⟩,O⟩
def pf.of {b:Nat}(hk:∀(k:Nat) (c:Array Value) (t:TypeId) (fz:Nat×Nat),w.heap[k]?=some (Obj.cells c t fz)->w'.heap[k]?=w.heap[k]?)(h:pf w b l):pf w' b l:=
 h.elim (λx=>.inl (Iz hk x)) (λx=>.inr (Iz hk x))
def pf.ext {b:Nat}(k:bF w w')(h:pf w b l):pf w' b l:=pf.of (h:=h) (λi _ _ _ hi=>k.block i (Array.getElem?_eq_some_iff.1 hi).1)
def pf.cel {row:Option Nat}{B b:Nat}(hg:W.grownBy W' row)(hr:∀r,row=some r->B<=r/\∃o:Obj,W.heap[r]?=some o/\o.isCells=false)(h:pf W b l):pf W' b l:=
 pf.of (h:=h) (λi _ _ _ hi=>grownBy_keeps_cells hg (λr e=>(hr r e).2) hi Z)
def pf.start {b:Nat}(h:au w b 183 #[.pointer none,.slice none 0 0]):pf w b []:=
 .inl ⟨qa0 _,_,h,World.ownsRowF_of iO,by simp[Value.ownBlock]⟩
def pf.cells {b:Nat}(h:pf w b l):∃(c:Array Value) (t:TypeId) (fz:Nat×Nat),w.heap[b]?=some (Obj.cells c t fz):=by
 rcases h with h|h <;>(obtain⟨_,v,hb,_⟩:=h;exact⟨_,_,_,hb⟩)
def pf.lt {b:Nat}(h:pf w b l):b<w.heap.size:=by
 obtain⟨_,_,_,hb⟩:=h.cells
 exact(Array.getElem?_eq_some_iff.1 hb).1
structure KB (b:Nat)(W W':World):Prop where
 oth:Lib.OthersKept 5 (some b) W W'
 low:Below b W W'
def KB.refl (b:Nat)(W:World):KB b W W:=⟨Lib.OthersKept.refl _ _ _,Below.refl _ _⟩
def KB.ext {b:Nat}{A:World}(hb:b<=A.heap.size)(h:KB b W A)(k:bF A B):KB b W B:=
 ⟨h.oth.trans (λi o hi _ _=>(k.block i (Array.getElem?_eq_some_iff.1 hi).1).trans hi),Below.trans h.low (Below.mono k hb)⟩
def KB.wr {b:Nat}{A:World}(h:KB b W A)(k:KB b A B):KB b W B:=⟨h.oth.trans k.oth,Below.trans h.low k.low⟩
def KB.others {b:Nat}(h:KB b W W')(hb:pf W b l):KeepsOthers W W':=by
 refine⟨h.low.size,λk o hk ho=>h.oth k o hk ?_ ?_⟩
 · intro e
   cases e
   obtain⟨c,t,fz,hc⟩:=hb.cells
   rw[hc]at hk;cases hk;cases ho
 · intro c fz e;subst e;cases ho
def KB.blk {b:Nat}{t:TypeId}{cs:Array Value}(h:KB b W W')(hn:c≠b)(ht:t≠5)(hb:au W c t cs):au W' c t cs:=
 h.oth c _ hb (λe=>hn (by cases e;rfl)) (λ_ _ e=>ht (by cases e;rfl))
def KB.rw {b:Nat}{cs:List Value}(h:KB b W W')(hA:∀ad,A=some ad->ad.block<b)(hr:Rw W lo A cs):Rw W' lo A cs:=by
 refine⟨λj u hu=>?_,hr.lo,λad e=>qb0 (hr.hi ad e) h.low.size⟩
 obtain⟨c,o,e,hc⟩:=hr.cells j u hu
 exact⟨c,o,e,(World.cell?_of_block (h.low.block c (hA _ e))).trans hc⟩
def KB.dfr {b D:Nat}(h:KB b W W')(hb:pf W b l)(hD:oV W D):oV W' D:=
 h.oth D _ hD (λe=>by
  cases e
  obtain⟨c,t,fz,hc⟩:=hb.cells
  unfold oV at hD;rw[hc]at hD;cases hD) (λ_ _ e=>by cases e)
def zK {b:Nat}(h:pf w b l)(hl:l.length+s.length<=1000000):
 CL 183 #[pT b,S s] w (fp λv w'=>v=.tuple #[.int .i64 ((s.length:Nat):Int),.nilIface]/\pf w' b (l++s)/\KB b w w'):=
 DO (Any.Builder_WriteString_k {Tryz.lays105 with} Tryz.Builder_Extra_105 b b (Lib.byteCells l) ⟨s.toArray⟩ w h (by rw[Lib.byteCells_length,uy];omega) (Nat.le_of_lt h.lt)) (by
  rintro e w' ⟨rfl,h1,h2,h3⟩
  refine⟨_,rfl,by rw[uy],?_,h3,h2⟩
  have:Lib.byteCells (l++s)=Lib.byteCells l++Lib.strCells ⟨s.toArray⟩:=by simp[Lib.byteCells,Lib.strCells]
  unfold pf
  rw[this]
  exact .inr h1)
def FG {b:Nat}(h:pf w b l):
 CL 184 #[pT b] w (fp λv w'=>v=S l/\pf w' b l/\KB b w w'):=
 DO (Tryz.Builder_String_any_k b b l w h (Nat.le_of_lt h.lt)) (by
  rintro e w' ⟨rfl,h1,h2,h3⟩
  exact⟨_,rfl,rfl,h1,h3,h2⟩)
def P4 (g:Nat):List Nat:=av 10 g++List.replicate (4-(av 10 g).length) 0
def D4:List Nat->List Nat
 |[]=>[]
 |[g]=>av 10 g
 |g::rest=>P4 g++D4 rest
def IA (g g2:Nat)(r:List Nat):D4 (g::g2::r)=P4 g++D4 (g2::r):=rfl
def RD (g:Nat){r:List Nat}(h:r≠[]):D4 (g::r)=P4 g++D4 r:=by
 cases r with
 |nil=>exact absurd Z h
 |cons a b=>rfl
def UZ (h:g<10000):(av 10 g).length<=4:=(aW 10 U g 4).2 h
def xV (h:g<10000):(P4 g).length=4:=by have:=UZ h;simp[P4];omega
def wy:∀k,b8 10 (List.replicate k 0)=0
 |0=>rfl
 |k+1=>by simp[List.replicate_succ,b8,wy k]
def RE (g:Nat):b8 10 (P4 g)=g:=by rw[P4,cS,wy,dj 10 U];simp
def U0 (g:Nat):∀d∈P4 g,d<10:=by
 intro d hd
 rcases List.mem_append.1 hd with h|h
 · exact dH 10 U g d h
 · rw[(List.mem_replicate.1 h).2];omega
def Pd:∀X:List Nat,∀d∈D4 X,d<10
 |[],d,h=>by simp[D4]at h
 |[g],d,h=>dH 10 U g d h
 | g::g2::r,d,h=>by
   rw[IA]at h
   rcases List.mem_append.1 h with h|h
   · exact U0 g d h
   · exact Pd (g2::r) d h
def IB:∀X:List Nat,(∀g∈X,g<10000)->b8 10 (D4 X)=b8 10000 X
 |[],_=>rfl
 |[g],_=>by simp[D4,b8,dj 10 (show 2<=10 by omega)]
 | g::g2::r,h=>by
   rw[IA,cS,RE,xV (h g RW),IB (g2::r) (λx hx=>h x (by simp at hx ⊢;right;exact hx))]
   simp[b8]
def Ea:∀X:List Nat,X≠[]->X.getLast?≠some 0->(∀g∈X,g<10000)->(D4 X)≠[]/\(D4 X).getLast?≠some 0
 |[],h,_,_=>absurd Z h
 | [g],_,h,_=>by
   have hg:g≠0:=by intro e;subst e;simp at h
   exact⟨oA hg,jY 10 U g⟩
 | g::g2::r,_,h,hl=>by
   have O:=Ea (g2::r) RW ka3 (λx hx=>hl x (by simp at hx ⊢;right;exact hx))
   rw[IA]
   refine⟨by simp[O.1],?_⟩
   rw[List.getLast?_append]
   cases hq:(D4 (g2::r)).getLast? with
   |none=>exact absurd (List.getLast?_eq_none_iff.1 hq) O.1
   |some y=>simpa[hq]using O.2
def RF (a:Nat):D4 (av 10000 a)=av 10 a:=by
 by_cases h0:av 10000 a=[]
 · have:a=0:=jw (B:=10000) U (by rw[h0];rfl)
   subst this;rfl
 · have O:=dH 10000 U a
   have h1:=Ea (av 10000 a) h0 (jY 10000 U a) O
   have h2:Canon 10 (D4 (av 10000 a)):=⟨Pd _,h1.2⟩
   rw[mw U h2,IB _ O,dj 10000 U]
def pg (a b:List Nat):du (a++b)=du b++du a:=by simp[du]
def jl (u:Nat):Lib.decDigits u=bQ u:=by
 induction u using Nat.strongRecOn with
 | _ u ih=>
   by_cases h:u<10
   · rw[Lib.decDigits_one h]
     unfold bQ
     split
     · next h0=>subst h0;rfl
     · next h0=>
       rw[gw 10 u U U,show u/10=0 by omega,gL,Nat.mod_eq_of_lt h];rfl
   · rw[Lib.decDigits,dif_neg h,ih (u/10) U]
     unfold bQ
     rw[if_neg U,if_neg U]
     conv=>rhs;rw[gw 10 u U U]
     simp[du]
def zL (g:Nat):Lib.itoa (g:Int)=bQ g:=by
 rw[Lib.itoa,if_neg U,Int.toNat_natCast,jl]
def wA (h:g<10000):0<(bQ g).length/\(bQ g).length<=4:=by
 unfold bQ;split
 · simp
 · next h0=>
   rw[dr]
   exact⟨List.length_pos_iff.2 (oA h0),UZ h⟩
def zM (k:Nat):Lib.repeatL [48] k=du (List.replicate k 0):=by
 induction k with
 |zero=>rfl
 |succ k ih=>rw[Lib.repeatL,ih,List.replicate_succ'];simp[du]
def MP (h:g<10000):Lib.repeatL [48] (4-(bQ g).length)++bQ g=du (P4 g):=by
 by_cases h0:g=0
 · subst h0;rfl
 · have e:bQ g=du (av 10 g):=by unfold bQ;rw[if_neg h0]
   rw[e,dr,P4,pg,zM]
def drop_at (h:x<X.length):X.drop x=X.getD x 0::X.drop (x+1):=by
 rw[List.drop_eq_getElem_cons h];simp[h]
def FH (hn:X.length=n)(hx:x<n)(hk:x+1=k)(hlt:∀g∈X,g<10000)(h0:X.getLast?≠some 0):
 du (D4 (X.drop k))++(if x+1<n then Lib.repeatL [48] (4-(bQ (X.getD x 0)).length)++bQ (X.getD x 0)else bQ (X.getD x 0))=du (D4 (X.drop x)):=by
 subst hk
 have qn:X.getD x 0<10000:=getD_lt hlt x
 have Ab:X.drop x=X.getD x 0::X.drop (x+1):=drop_at U
 rw[Ab]
 by_cases hc:x+1<n
 · rw[if_pos hc,MP qn]
   have:X.drop (x+1)=X.getD (x+1) 0::X.drop (x+1+1):=drop_at U
   rw[RD _ (by rw[this];simp),pg]
 · rw[if_neg hc]
   have A2:X.drop (x+1)=[]:=List.drop_eq_nil_of_le U
   rw[A2]
   have qr:X.getD x 0≠0:=by
    intro e
    apply h0
    rw[List.getLast?_eq_getElem?,show X.length-1=x by omega]
    have O:X[x]?=some X[x]:=qa5 U
    rw[List.getD,O]at e
    rw[O];exact qb1 some e
   simp only[D4]
   unfold bQ
   rw[if_neg qr]
   simp[du]
def rS (o:Option (List UInt8)):List UInt8:=o.getD []
def rE (o:Option (List UInt8)):Int:=if o.isSome then 0 else 30
def gj (o:Option (List UInt8)):Value:=.tuple #[S (rS o),.int .i64 (rE o)]
def iH (ng:Bool)(a:Nat):(cK ng a).natAbs=a:=by unfold cK;split <;>simp
def Eb (ng:Bool){a:Nat}(h:0<a):(cK ng a<0)↔ng=true:=by
 unfold cK;cases ng <;>simp;omega
def qX (ng:Bool){a:Nat}(h:0<a):ae (cK ng a)=if ng then 45::bQ a else bQ a:=by
 unfold ae
 rw[iH]
 by_cases hn:ng=true
 · rw[if_pos ((Eb ng h).2 hn),if_pos hn]
 · rw[if_neg (λhc=>hn ((Eb ng h).1 hc)),if_neg hn]
def pi (ng:Bool){a:Nat}(h:0<a):fits (cK ng a)=decide ((bQ a).length<=200):=by
 unfold fits
 rw[iH]
 unfold bQ
 rw[if_neg U,dr,decide_eq_decide]
 exact(aW 10 U a 200).symm
def pj (ng:Bool):Value.tuple #[S [48],.int .i64 0]=gj (bw (cK ng 0)):=by cases ng <;>rfl
def sT (ng:Bool){a:Nat}(h:0<a)(hl:(200:Int)<(((bQ a).length:Nat):Int)):Value.tuple #[S [],.int .i64 30]=gj (bw (cK ng a)):=by
 unfold bw
 rw[pi ng h,decide_eq_false U];rfl
def sU {a:Nat}(h:0<a)(hl:¬(200:Int)<(((bQ a).length:Nat):Int))(hn:ng=true):Value.tuple #[S ([45]++bQ a),.int .i64 0]=gj (bw (cK ng a)):=by
 unfold bw
 rw[pi ng h,decide_eq_true U,if_pos Z,qX ng h,if_pos hn];rfl
def sV {a:Nat}(h:0<a)(hl:¬(200:Int)<(((bQ a).length:Nat):Int))(hn:ng=false):Value.tuple #[S (bQ a),.int .i64 0]=gj (bw (cK ng a)):=by
 unfold bw
 rw[pi ng h,decide_eq_true U,if_pos Z,qX ng h,if_neg (by simp[hn])];rfl
def Pe (X:List Nat)(n i:Nat):List UInt8:=if i+1<n then Lib.repeatL [48] (4-(bQ (X.getD i 0)).length)++bQ (X.getD i 0)else bQ (X.getD i 0)
def tx (X:List Nat)(n:Nat)(pre:List Nat):List UInt8:=pre.flatMap (Pe X n)
def Ec (X:List Nat)(n:Nat)(pre:List Nat)(x:Nat):tx X n (pre++[x])=tx X n pre++Pe X n x:=by simp[tx]
def MQ (h:i+1<n):Pe X n i=Lib.repeatL [48] (4-(bQ (X.getD i 0)).length)++bQ (X.getD i 0):=if_pos h
def MR (h:¬i+1<n):Pe X n i=bQ (X.getD i 0):=if_neg h
def MS (hX:∀g∈X,g<10000)(n i:Nat):(Pe X n i).length<=4:=by
 have h1:=getD_lt hX i
 have h2:=wA h1
 unfold Pe;split
 · rw[MP h1,dr,xV h1];omega
 · exact h2.2
def IC {X:List Nat}(hX:∀g∈X,g<10000)(n:Nat):∀pre:List Nat,(tx X n pre).length<=4*pre.length
 |[]=>by simp[tx]
 | i::l=>by
   have ih:=IC hX n l
   have:=MS hX n i
   simp only[tx,List.flatMap_cons,List.length_append,List.length_cons]at ih ⊢
   omega
def ID {X:List Nat}{n:Nat}(hn:X.length=n)(hlt:∀g∈X,g<10000)(h0:X.getLast?≠some 0):∀j,j<=n->du (D4 (X.drop j))++tx X n (List.range j).reverse=du (D4 X)
 |0,_=>by simp[tx]
 | j+1,h=>by
   have e:(List.range (j+1)).reverse=j::(List.range j).reverse:=by simp[List.range_succ]
   rw[e]
   show _++(Pe X n j++tx X n _)=_
   rw[<-List.append_assoc]
   have:=FH (X:=X) (x:=j) (n:=n) (k:=j+1) hn U Z hlt h0
   unfold Pe
   rw[this]
   exact ID hn hlt h0 j U
def RG {a:Nat}(hn:(av 10000 a).length=n)(h0:0<a):tx (av 10000 a) n (List.range n).reverse=bQ a:=by
 have h:=ID hn (dH 10000 U a) (jY 10000 U a) n (qa0 _)
 rw[List.drop_eq_nil_of_le U,RF]at h
 have h2:du (D4 [])=[]:=rfl
 rw[h2,List.nil_append]at h
 rw[h];unfold bQ;rw[if_neg U]
set_option maxRecDepth 100000 in
def gk {n1 c1 a lo1:Nat}(h1:eM w lo1 A1 n1 c1 a)(s1:n1<=9000)(ht:Tb w):
 CL 148 #[.agg #[.bool ng,.slice A1 n1 c1]] w (aC w λv w'=>v=gj (bw (cK ng a))):=by
 have E1:=h1.hi;refine uc func148 Z (I ?_);refine bx (λAf EP O=>?_);have A2:=EP.2;refine I ?_;by_cases lq:(n1:Int)=0;have Ap:a=0:=jw (B:=10000) U (h1.len.trans U);refine I ?_;refine DK (v:=.tuple #[S [48],.int .i64 0]) (cn (r1:=.tmp 2) (r2:=.tmp 3) Z ?_ ?_) A2 DH;exact aD (t:=2) Rd _;exact aD (t:=3) Rd _;have qn:0<a:=mH (B:=10000) U kb8;refine I ?_;refine al PY (λE4 Ek Av=>?_);have⟨O,A2⟩:=bD Ek.2 O A2;refine I ?_;refine cl Dy (j4 (A:=A1) (n:=n1) (c:=c1)) ?_;rintro _ E7 EE ⟨rfl,EW⟩;have⟨O,Av,A2⟩:=bC EE.2 O Av A2;refine I ?_;have qr:=pf.start Av
 refine sM (m:=n1) (enc:=λx=>[.int .i64 x,.int .i64 (((av 10000 a).getD x 0:Nat):Int)]) (order:=(List.range n1).reverse) (Kq:=λW=>au W E4.heap.size 150 #[.slice A1 n1 c1]/\Rw W lo1 A1 (ints (av 10000 a))) (gf:=223) (lb:=[pT E4.heap.size]) (ps:=[16,17]) Z DD (iP EW (h1.row.ext A2) h1.len U) (λW W' row hq Ab hr=>⟨ab7 Ab hr hq.1,Rw.cel Ab hr hq.2⟩) (λ_=>rfl) [5,6] (λx=>[.int .i64 x,.int .i64 (((av 10000 a).getD x 0:Nat):Int)]) ?asn (λpre W=>(E7.heap.size<=W.heap.size)/\(bF w W)/\(au W w.heap.size 152 #[.bool ng,.slice A1 n1 c1])/\(pf W Af.heap.size (tx (av 10000 a) n1 pre))) (λ_ _ _=>False) ?hI ?hIx ?h0 ?body ?done ?stop;case asn=>
  intro l x W K hK;refine I ?_;exact hK
 case hI=>
  rintro pre W W' row ⟨Ax,E,O,qr⟩ Ab hr;exact⟨qa8 Ax Ab.size,oU (B:=E7.heap.size) U Ab hr (bz E) E,ab7 Ab hr O,pf.cel Ab hr qr⟩
 case hIx=>
  exact λ_ _ _ _ _ h=>h.elim
 case h0=>
  exact⟨qa0 _,A2,O,qr⟩
 case body=>
  rintro l pre x W ⟨Ax,E,O,qr⟩ F2 hx F1;have Kp:=KB.refl Af.heap.size W;have zW:=bz E;have Ad:=getD_lt h1.lt x;have F3:=wA Ad;have E0:=qr;have hbW:=qr.lt;have hDl:=IC h1.lt n1 pre;refine I ?_;refine clb Hg (hc:=xU _ _ U U (ht.ext E)) (hk:=?_);rintro _ _ Ar rfl;have O:=be Ar.2 O;have qr:=pf.ext Ar.2 qr;have E:=xt E Ar.2;have Kp:=KB.ext U Kp Ar.2;rw[zL];refine I ?_;refine vJ (I ?_);by_cases nm:(x:Int)<((n1:Int)-1);refine I ?_;refine ac (cY (l:=bQ ((av 10000 a).getD x 0)) U9 Z ?_);refine ac (iT (a:=4) (b:=(((bQ ((av 10000 a).getD x 0)).length:Nat):Int)) (c:=((4-(bQ ((av 10000 a).getD x 0)).length:Nat):Int)) Z Z L7 U ?_);refine clb Hh (hc:=qW [48] (4-(bQ ((av 10000 a).getD x 0)).length) _ U RW) (hk:=?_);rintro _ _ Aq rfl;have O:=be Aq.2 O;have qr:=pf.ext Aq.2 qr;have E:=xt E Aq.2;have Kp:=KB.ext U Kp Aq.2;refine I ?_;refine ac (km (a:=Lib.repeatL [48] (4-(bQ ((av 10000 a).getD x 0)).length)) (b:=bQ ((av 10000 a).getD x 0)) Z Z (by rw[<-List.length_append,MP Ad,dr,xV Ad];omega) ?_);refine I ?_;have E9:((Lib.repeatL [48] (4-(bQ ((av 10000 a).getD x 0)).length))++(bQ ((av 10000 a).getD x 0))).length<=8:=by rw[MP Ad,dr,xV Ad];omega
  refine ac (bU (vs:=[pT Af.heap.size,S ((Lib.repeatL [48] (4-(bQ ((av 10000 a).getD x 0)).length))++(bQ ((av 10000 a).getD x 0)))]) OP Z (zK qr U) ?_);rintro _ _ ⟨rfl,Am,As⟩;have O:=KB.blk As U dc O;have E:=Below.trans E (Below.mono As.low U);have F5:=As.low.size;have Kp:=KB.wr Kp As;have qr:=Am;refine I ?_;exact⟨Kp.others E0,λhq=>⟨Kp.blk U dc hq.1,Kp.rw (λAw e=>by have:=E1 Aw e;omega) hq.2⟩,⟨U,E,O,(by rw[Ec,MQ U];exact qr)⟩⟩;refine I ?_;have E9:(bQ ((av 10000 a).getD x 0)).length<=8:=J
  refine ac (bU (vs:=[pT Af.heap.size,S (bQ ((av 10000 a).getD x 0))]) OP Z (zK qr U) ?_);rintro _ _ ⟨rfl,Am,Ao⟩;have O:=KB.blk Ao U dc O;have E:=Below.trans E (Below.mono Ao.low U);have F4:=Ao.low.size;have Kp:=KB.wr Kp Ao;have qr:=Am;refine I ?_;exact⟨Kp.others E0,λhq=>⟨Kp.blk U dc hq.1,Kp.rw (λAw e=>by have:=E1 Aw e;omega) hq.2⟩,⟨U,E,O,(by rw[Ec,MR U];exact qr)⟩⟩
 case stop=>
  exact λ_ _ _ _ _ _ h _=>h.elim
 case done=>
  rintro D W hD ⟨Ax,E,O,qr⟩ hK;have zW:=bz E;refine I ?_;rw[RG h1.len qn]at qr;refine ac (bU (vs:=[pT Af.heap.size]) Ub Z (FG qr) ?_);rintro _ _ ⟨rfl,Am,Ay⟩;have O:=KB.blk Ay U dc O;have hK:=KB.dfr Ay qr hK;have E:=Below.trans E (Below.mono Ay.low U);have qr:=Am;refine I ?_;refine ac (cY (l:=bQ a) U9 Z ?_);refine I ?_;by_cases np:200<(((bQ a).length:Nat):Int);refine I ?_;refine jK (v:=.tuple #[S [],.int .i64 30]) hK (cn (r1:=.tmp 2) (r2:=.tmp 3) Z ?_ ?_) ((fk _).low E U) DH;exact aD (t:=2) Rd _;exact aD (t:=3) Rd _;refine I ?_;rcases qa4 ng with lp|lp;refine I ?_;refine ac (km (a:=[45]) (b:=bQ a) Z Z Hx ?_);refine I ?_;refine jK (v:=.tuple #[S (([45])++(bQ a)),.int .i64 0]) hK (cn (r1:=.tmp 2) (r2:=.tmp 3) Z ?_ ?_) ((fk _).low E U) DH;exact aD (t:=2) Rd _;exact aD (t:=3) Rd _
  refine I ?_;refine jK (v:=.tuple #[S (bQ a),.int .i64 0]) hK (cn (r1:=.tmp 2) (r2:=.tmp 3) Z ?_ ?_) ((fk _).low E U) DH;exact aD (t:=2) Rd _;exact aD (t:=3) Rd _
set_option maxRecDepth 100000
def ce (h:p:=by assumption):p:=h
def dt {a:Nat}(h:eM w lo A n c a)(hl:a<10000^k):n<=k:=by rw[<-h.len];exact(aW 10000 U a k).2 hl
def eW (h:isInt l=true):aN (body l)<10000^50:=qb0 (sR (eF h)) dc
def j5 (l:List UInt8):cK (neg l) (aN (body l))=aA l:=rfl
def Ed (ng:Bool)(a:Nat):cK (!ng) a=-cK ng a:=by cases ng <;>simp[cK]
def qY {a b:Bool}(h:¬(a&&b)=true):(a&&b)=false:=by simpa using h
def fL {a b:Bool}(h:(a&&b)=true):a=true:=by simp at h;exact h.1
def fB {a b:Bool}(h:(a&&b)=true):b=true:=by simp at h;exact h.2
def pm {b:List UInt8}(h:(isInt a&&isInt b)=true):ku a b=bw (aA a+aA b):=by unfold ku;rw[if_pos h]
def xW {b:List UInt8}(h:(isInt a&&isInt b)=false):ku a b=none:=by unfold ku;rw[h];rfl
def m8 {b:List UInt8}(h:(isInt a&&isInt b)=true):bi a b=bw (aA a-aA b):=by unfold bi;rw[if_pos h]
def xX {b:List UInt8}(h:(isInt a&&isInt b)=false):bi a b=none:=by unfold bi;rw[h];rfl
def eI {b:List UInt8}(h:(isInt a&&isInt b)=true):ao a b=bw (aA a*aA b):=by unfold ao;rw[if_pos h]
def xY {b:List UInt8}(h:(isInt a&&isInt b)=false):ao a b=none:=by unfold ao;rw[h];rfl
def xZ {b:List UInt8}(h:(isInt a&&isInt b)=false):cQ a b=none:=by unfold cQ;rw[h];rfl
def x7 {b:List UInt8}(h:(isInt a&&isInt b)=false):gG a b=0:=by unfold gG;rw[h];rfl
def Ee {b:List UInt8}(h:(isInt a&&isInt b)=true):cQ a b=bw (cK false (Nat.gcd (aN (body a)) (aN (body b)))):=by
 unfold cQ;rw[if_pos h]
 have:Int.gcd (aA a) (aA b)=Nat.gcd (aN (body a)) (aN (body b)):=by rw[Int.gcd,e9,e9]
 rw[this];rfl
def Ef (x y:Bool)(a b:Nat):cK (!(x==y)) (a*b)=cK x a*cK y b:=by cases x <;>cases y <;>simp[cK,Int.neg_mul,Int.mul_neg]
def sum_lt {b:List UInt8}(ha:isInt a=true)(hb:isInt b=true){r:Nat}{s:Int}(h:cK ng r=aA a+s)(hs:s=aA b\/s=-aA b):r<10000^51:=by
 have h1:=eW ha
 have h2:=eW hb
 have e:(cK ng r).natAbs=r:=iH ng r
 have ea:=e9 a
 have eb:=e9 b
 have:(10000:Nat)^51=10000^50*10000:=by rw[<-Nat.pow_succ]
 generalize (10000:Nat)^50=M at *
 omega
def uB {b:List UInt8}(h:(isInt a&&isInt b)=true)(ha:neg a=true)(hb:neg b=true):aG ((aN (body b):Nat):Int) ((aN (body a):Nat):Int)=gG a b:=by
 unfold gG;rw[if_pos h]
 refine ut ?_ ?_ <;>(unfold aA;rw[if_pos ha,if_pos hb];omega)
def uC {b:List UInt8}(h:(isInt a&&isInt b)=true)(ha:neg a=true)(hb:neg b=false):(-1:Int)=gG a b:=by
 unfold gG;rw[if_pos h,dE]
 have:=o8 (eF (fL h)) (oB (fL h) ha)
 unfold aA;rw[if_pos ha,if_neg (by simp[hb])];omega
def uD {b:List UInt8}(h:(isInt a&&isInt b)=true)(ha:neg a=false)(hb:neg b=true):(1:Int)=gG a b:=by
 unfold gG;rw[if_pos h,dk]
 have:=o8 (eF (fB h)) (oB (fB h) hb)
 have O:aA a=(aN (body a):Int):=by unfold aA;rw[if_neg (by simp[ha])]
 have qr:aA b=-(aN (body b):Int):=by unfold aA;rw[if_pos hb]
 rw[O,qr];omega
def uE {b:List UInt8}(h:(isInt a&&isInt b)=true)(ha:neg a=false)(hb:neg b=false):aG ((aN (body a):Nat):Int) ((aN (body b):Nat):Int)=gG a b:=by
 unfold gG;rw[if_pos h]
 unfold aA;rw[if_neg (by simp[ha]),if_neg (by simp[hb])]
def nJ (o:Option (List UInt8×List UInt8)):Value:=.tuple #[S (rS (o.map (·.1))),S (rS (o.map (·.2))),.int .i64 (if o.isSome then 0 else 30)]
def x8 {b:List UInt8}(h:(isInt a&&isInt b)=false):Vc a b=none:=by unfold Vc;rw[h];rfl
def mK {b:List UInt8}(h:aN (body b)=0):Vc a b=none:=by
 unfold Vc
 by_cases hb:isInt b=true
 · have:b=[48]:=(ii hb).1 (by have:=e9 b;omega)
   simp[this]
 · simp[hb]
def pn {b:List UInt8}(h:(isInt a&&isInt b)=true)(h0:0<aN (body b)):Vc a b=(bw (aA a/aA b)).map λq=>(q,ae (aA a%aA b)):=by
 have hb:b≠[48]:=by intro e;subst e;exact absurd qS (by have:body [48]=[48]:=rfl;rw[this]at h0;omega)
 unfold Vc
 rw[h,decide_eq_true hb];rfl
def zN (ny:Bool)(x:Int)(b:Nat):x/cK ny b=(if ny then -(x/(b:Int))else x/(b:Int))/\x%cK ny b=x%(b:Int):=by
 cases ny
 · simp[cK]
 · simp[cK,Int.ediv_neg,Int.emod_neg]
def FI {a b:Nat}(hb:0<b)(hc:nx=false\/a%b=0):cK (!(nx==ny)) (a/b)=cK nx a/cK ny b/\((a%b:Nat):Int)=cK nx a%cK ny b:=by
 obtain⟨qr,qn⟩:=zN ny (cK nx a) b
 rw[qr,qn]
 cases nx with
 | false=>
   simp only[cK,Bool.false_eq_true,if_false]
   cases ny <;>simp
 | true=>
   have O:a%b=0:=by rcases hc with h|h;cases h;exact h
   have hd:(b:Int)∣(a:Int):=Int.natCast_dvd_natCast.2 (Nat.dvd_of_mod_eq_zero O)
   simp only[cK,if_true]
   rw[Int.neg_ediv_of_dvd hd,Int.emod_eq_zero_of_dvd (Int.dvd_neg.2 hd),O]
   cases ny <;>simp
def FJ {a b:Nat}(hb:0<b)(hr:0<a%b):cK (!(true==ny)) (a/b+1)=cK true a/cK ny b/\((b-a%b:Nat):Int)=cK true a%cK ny b:=by
 obtain⟨O,qn⟩:=zN ny (cK true a) b
 rw[O,qn]
 have A2:=Nat.mod_lt a hb
 have qr:=Nat.div_add_mod a b
 have key:(-(a:Int))/(b:Int)=-((a/b:Nat):Int)-1/\(-(a:Int))%(b:Int)=((b-a%b:Nat):Int):=by
  refine(Int.ediv_emod_unique U).2 ⟨?_,by omega,by omega⟩
  have h3:(a:Int)=(b:Int)*((a/b:Nat):Int)+((a%b:Nat):Int):=by rw[<-Int.natCast_mul,<-Int.natCast_add,qr]
  rw[Int.mul_sub,Int.mul_neg]
  omega
 simp only[cK,if_true]
 rw[key.1,key.2]
 cases ny <;>simp <;>omega
def RH {r:Nat}{x:Int}(hr:r<10^200)(h:(r:Int)=x):rS (bw (cK false r))=ae x:=by
 have hf:fits x=true:=by unfold fits;rw[decide_eq_true_eq];omega
 have e:cK false r=x:=h
 rw[e];unfold bw;rw[if_pos hf];rfl
def lM {b:List UInt8}{r:Nat}(hb:isInt b=true)(h:r<=aN (body b)):r<10^200:=Nat.lt_of_le_of_lt h (sR (eF hb))
def MU {o:Option (List UInt8)}(h:rE o=0):∃s,o=some s:=by cases o with|none=>simp[rE]at h|some s=>exact⟨s,rfl⟩
def U1 {o:Option (List UInt8)}(h:¬rE o=0):o=none:=by cases o with|none=>rfl|some s=>simp[rE]at h
def gz {b:List UInt8}{r:Nat}(h:(isInt a&&isInt b)=true)(h0:0<aN (body b))(hq:cK ng q=aA a/aA b)(hr:(r:Int)=aA a%aA b)(hl:r<=aN (body b))(hE:rE (bw (cK ng q))=0):
 Value.tuple #[S (rS (bw (cK ng q))),S (rS (bw (cK false r))),.int .i64 0]=nJ (Vc a b):=by
 rw[pn h h0,RH (lM (fB h) hl) hr,<-hq]
 obtain⟨s,hs⟩:=MU hE
 rw[hs];rfl
def gA {b:List UInt8}(h:(isInt a&&isInt b)=true)(h0:0<aN (body b))(hq:cK ng q=aA a/aA b)(hE:¬rE (bw (cK ng q))=0):
 Value.tuple #[S [],S [],.int .i64 (rE (bw (cK ng q)))]=nJ (Vc a b):=by
 rw[pn h h0,<-hq,U1 hE];rfl
def MV {b:List UInt8}(ha:isInt a=true)(hb:isInt b=true):aN (body a)*aN (body b)<10000^100:=by
 have h1:=eW ha
 have h2:=eW hb
 have:(10000:Nat)^100=10000^50*10000^50:=by rw[<-Nat.pow_add]
 rw[this]
 exact Nat.mul_lt_mul'' h1 h2
def x9 (lo:Nat)(ng:Bool)(a:Nat)(v:Value)(w:World):Prop:=∃A n c,v=.agg #[.bool ng,.slice A n c]/\eM w lo A n c a
def x9.ext {a:Nat}{v:Value}(k:bF w w')(h:x9 lo ng a v w):x9 lo ng a v w':=by
 obtain⟨A,n,c,hv,O⟩:=h
 exact⟨A,n,c,hv,O.ext k⟩
def yc (a b:List UInt8)(w:World)(ht:Tb w):
 CL 95 #[S a,S b] w (aC w λv w'=>v=gj (ku a b)):=by
 by_cases Ab:(isInt a&&isInt b)=true;have ha:=fL Ab;have hb:=fB Ab;refine aE func95 Z (I ?_);refine cl kU (lL _ _ _ ha hb) ?_;rintro _ _ E4 ⟨A1,n1,c1,A2,n2,c2,rfl,h1,h2⟩;have O:=E4.2;have EW:=dt h1 (eW ha);have l2:=dt h2 (eW hb);have Ax:=h1.hi;have Aw:=h2.hi;refine I ?_;refine al cC (λ_ Ap Ar=>?_);have h1:=aa3 Ap.2 h1;have h2:=aa3 Ap.2 h2;have O:=xt O Ap.2;refine al cC (λ_ Ao Af=>?_);have h1:=aa3 Ao.2 h1;have h2:=aa3 Ao.2 h2;have⟨Ar,O⟩:=bD Ao.2 Ar O;refine SA Ar (λ_ Aq Ay=>?_);have h1:=ab1 Aq (λqn e=>by have:=Ax qn e;omega) h1;have h2:=ab1 Aq (λqn e=>by have:=Aw qn e;omega) h2;have⟨Af,O,_⟩:=ks Aq Af O;refine SA Af (λ_ Ad _=>?_);have h1:=ab1 Ad (λqn e=>by have:=Ax qn e;omega) h1;have h2:=ab1 Ad (λqn e=>by have:=Aw qn e;omega) h2;have Ay:=pb Ad Ay;have O:=bB Ad O;refine I ?_;refine clb OU (hc:=zJ h1 U h2 U) (hk:=?_);rintro _ _ E1 ⟨ng,r,A,n,c,rfl,hr,hs⟩;have O:=xt O E1.2;rw[j5,j5]at hs;have Ek:=dt hr (sum_lt ha hb hs (by exact Or.inl Z));refine clb mj (hc:=gk hr U (ht.ext O)) (hk:=?_);rintro _ _ E7 rfl;have O:=xt O E7.2;refine I ?_
 exact bN (t:=4) (u:=5) (v1:=S (rS (bw (cK ng r)))) (v2:=.int .i64 (rE (bw (cK ng r)))) Z O (by rw[pm Ab];exact qb1 (λx=>gj (bw x)) hs) Z Z;have Ab:=qY Ab;refine aE func95 Z (I ?_);refine cl kU (m7 _ _ _ Ab) ?_;rintro _ _ wr rfl;have qr:=wr.2;refine I ?_;refine al cC (λ_ EE Am=>?_);have qr:=xt qr EE.2;refine al cC (λ_ E9 As=>?_);have⟨Am,qr⟩:=bD E9.2 Am qr;refine SA Am (λ_ EP E0=>?_);have⟨As,qr,_⟩:=ks EP As qr;refine SA As (λ_ Av _=>?_);have E0:=pb Av E0;have qr:=bB Av qr;refine I ?_;exact bN (t:=4) (u:=5) (v1:=S []) (v2:=.int .i64 30) Z qr (by rw[xW Ab];rfl) Z Z
def sW (a b:List UInt8)(w:World)(ht:Tb w):
 CL 96 #[S a,S b] w (aC w λv w'=>v=gj (bi a b)):=by
 by_cases Ab:(isInt a&&isInt b)=true;have ha:=fL Ab;have hb:=fB Ab;refine aE func96 Z (I ?_);refine cl kU (lL _ _ _ ha hb) ?_;rintro _ _ wr ⟨A1,n1,c1,A2,n2,c2,rfl,h1,h2⟩;have O:=wr.2;have Ek:=dt h1 (eW ha);have l2:=dt h2 (eW hb);have Av:=h1.hi;have As:=h2.hi;refine I ?_;refine al cC (λ_ Ao Aq=>?_);have h1:=aa3 Ao.2 h1;have h2:=aa3 Ao.2 h2;have O:=xt O Ao.2;refine al cC (λ_ Ax Ay=>?_);have h1:=aa3 Ax.2 h1;have h2:=aa3 Ax.2 h2;have⟨Aq,O⟩:=bD Ax.2 Aq O;refine SA Aq (λ_ Ap Af=>?_);have h1:=ab1 Ap (λqr e=>by have:=Av qr e;omega) h1;have h2:=ab1 Ap (λqr e=>by have:=As qr e;omega) h2;have⟨Ay,O,_⟩:=ks Ap Ay O;refine SA Ay (λ_ Ar EW=>?_);have h1:=ab1 Ar (λqr e=>by have:=Av qr e;omega) h1;have h2:=ab1 Ar (λqr e=>by have:=As qr e;omega) h2;have⟨Af,O,_⟩:=ks Ar Af O;refine I ?_;refine SO EW (λ_ Ad _=>?_);have h1:=ab1 Ad (λqr e=>by have:=Av qr e;omega) h1;have h2:=ab1 Ad (λqr e=>by have:=As qr e;omega) h2;have Af:=pb Ad Af;have O:=bB Ad O;refine I ?_;refine clb OU (hc:=zJ h1 U h2 U) (hk:=?_);rintro _ _ E9 ⟨ng,r,A,n,c,rfl,hr,hs⟩;have O:=xt O E9.2;rw[j5,Ed,j5]at hs;have F1:=dt hr (sum_lt ha hb hs (by exact Or.inr Z))
 refine clb mj (hc:=gk hr U (ht.ext O)) (hk:=?_);rintro _ _ EE rfl;have O:=xt O EE.2;refine I ?_;exact bN (t:=4) (u:=5) (v1:=S (rS (bw (cK ng r)))) (v2:=.int .i64 (rE (bw (cK ng r)))) Z O (by rw[m8 Ab];rw[show aA a-aA b=aA a+-aA b from rfl];exact qb1 (λx=>gj (bw x)) hs) Z Z;have Ab:=qY Ab;refine aE func96 Z (I ?_);refine cl kU (m7 _ _ _ Ab) ?_;rintro _ _ EP rfl;have qn:=EP.2;refine I ?_;refine al cC (λ_ E7 Aw=>?_);have qn:=xt qn E7.2;refine al cC (λ_ E4 Am=>?_);have⟨Aw,qn⟩:=bD E4.2 Aw qn;refine SA Aw (λ_ od E0=>?_);have⟨Am,qn,_⟩:=ks od Am qn;refine SA Am (λ_ E1 _=>?_);have E0:=pb E1 E0;have qn:=bB E1 qn;refine I ?_;exact bN (t:=4) (u:=5) (v1:=S []) (v2:=.int .i64 30) Z qn (by rw[xX Ab];rfl) Z Z
def Eg (a b:List UInt8)(w:World)(ht:Tb w):
 CL 178 #[S a,S b] w (aC w λv w'=>v=gj (ao a b)):=by
 by_cases Ab:(isInt a&&isInt b)=true;have ha:=fL Ab;have hb:=fB Ab;refine aE func178 Z (I ?_);refine cl kU (lL _ _ _ ha hb) ?_;rintro _ _ G3 ⟨A1,n1,c1,A2,n2,c2,rfl,h1,h2⟩;have O:=G3.2;have K2:=dt h1 (eW ha);have l2:=dt h2 (eW hb);have E4:=h1.hi;have E1:=h2.hi;refine I ?_;refine al cC (λ_ As Av=>?_);have h1:=aa3 As.2 h1;have h2:=aa3 As.2 h2;have O:=xt O As.2;refine al cC (λ_ Ay Aq=>?_);have h1:=aa3 Ay.2 h1;have h2:=aa3 Ay.2 h2;have⟨Av,O⟩:=bD Ay.2 Av O;refine SA Av (λ_ Ap E0=>?_);have h1:=ab1 Ap (λqn e=>by have:=E4 qn e;omega) h1;have h2:=ab1 Ap (λqn e=>by have:=E1 qn e;omega) h2;have⟨Aq,O,_⟩:=ks Ap Aq O;refine SA Aq (λEk Am _=>?_);have h1:=ab1 Am (λqn e=>by have:=E4 qn e;omega) h1;have h2:=ab1 Am (λqn e=>by have:=E1 qn e;omega) h2;have E0:=pb Am E0;have O:=bB Am O;refine I ?_;obtain⟨L,_⟩:∃L,L=Ek.heap.size:=⟨_,rfl⟩;refine bY 14 ?_;refine sf ?_;refine bl (λ_ _ _ _=>by refine ac (lx (a:=neg a) (b:=neg b) (q:=(!((neg a)==(neg b)))) U4 Z Z Z ?_);refine I ?_;exact cz) ?_;refine sf ?_;refine eU (λv w=>eH L (aN (body a)*aN (body b)) v w) (hs:=λ_ _ _ k h=>h.ext k) (λ_ _ Aw _=>?_) ?_;have h1:=aa3 Aw h1;have h2:=aa3 Aw h2
 refine clb Ug (hc:=Ij h1 U h2 U) (hk:=?_);rintro _ _ Ix ⟨Ar,Af,Ad,rfl,hr⟩;have F1:=Ix.2;have hr:=hr.mono (lo':=L) (by have:=bz Aw;omega);refine I ?_;exact fs ⟨F1,⟨Ar,Af,Ad,rfl,hr⟩⟩;refine eU (λv w=>x9 L (!(neg a==neg b)) (aN (body a)*aN (body b)) v w) (hs:=λ_ _ _ k h=>h.ext k) (λ_ _ _ F2=>?_) ?_;obtain⟨Ar,Af,Ad,EW,hr⟩:=(F2 9 27 Z Z);refine ac (aV (vs:=[(0,.bool (!((neg a)==(neg b)))),(1,.slice Ar Af Ad)]) (cells:=#[.bool (!((neg a)==(neg b))),.slice Ar Af Ad]) (pl:=[(0,1),(1,1)]) kT cC GS (aK Z (aK EW Z)) GS ?_);refine I ?_;exact fs ⟨aa2 _,⟨Ar,Af,Ad,rfl,hr⟩⟩;refine aF (V:=.tuple #[S (rS (bw (cK (!(neg a==neg b)) (aN (body a)*aN (body b))))),.int .i64 (rE (bw (cK (!(neg a==neg b)) (aN (body a)*aN (body b)))))]) (λ_ _ G4 EE=>?_) ?_;obtain⟨_,_,_,F5,hq⟩:=(EE 10 28 Z Z);have Kp:=dt hq (MV ha hb);refine clb mj (hc:=gk hq U (ht.ext (xt O G4))) (hk:=?_) (hv:=ai F5 Z);rintro _ _ F7 rfl;have Jx:=F7.2;refine I ?_;exact fs ⟨Jx,rfl⟩;refine sf ?_;intro _ _ EP _;have O:=xt O EP.2;refine I ?_
 exact bN (t:=4) (u:=5) (v1:=S (rS (bw (cK (!(neg a==neg b)) (aN (body a)*aN (body b)))))) (v2:=.int .i64 (rE (bw (cK (!(neg a==neg b)) (aN (body a)*aN (body b)))))) Z O (by rw[eI Ab,<-j5,<-j5,<-Ef];rfl) Z Z;have Ab:=qY Ab;refine aE func178 Z (I ?_);refine cl kU (m7 _ _ _ Ab) ?_;rintro _ _ F4 rfl;have qr:=F4.2;refine I ?_;refine al cC (λ_ F6 Ax=>?_);have qr:=xt qr F6.2;refine al cC (λ_ F3 Ao=>?_);have⟨Ax,qr⟩:=bD F3.2 Ax qr;refine SA Ax (λ_ F8 E7=>?_);have⟨Ao,qr,_⟩:=ks F8 Ao qr;refine SA Ao (λ_ E9 _=>?_);have E7:=pb E9 E7;have qr:=bB E9 qr;refine I ?_;exact bN (t:=4) (u:=5) (v1:=S []) (v2:=.int .i64 30) Z qr (by rw[xY Ab];rfl) Z Z
def sX (a b:List UInt8)(w:World):
 CL 125 #[S a,S b] w (aC w λv w'=>v=.int .i64 (gG a b)):=by
 by_cases O:(isInt a&&isInt b)=true;have ha:=fL O;have hb:=fB O;refine aE func125 Z (I ?_);refine cl kU (lL _ _ _ ha hb) ?_;rintro _ _ E1 ⟨A1,n1,c1,A2,n2,c2,rfl,h1,h2⟩;have qr:=E1.2;have EW:=dt h1 (eW ha);have l2:=dt h2 (eW hb);have Ay:=h1.hi;have Ax:=h2.hi;refine I ?_;refine al cC (λ_ Am As=>?_);have h1:=aa3 Am.2 h1;have h2:=aa3 Am.2 h2;have qr:=xt qr Am.2;refine al cC (λ_ Ar Aq=>?_);have h1:=aa3 Ar.2 h1;have h2:=aa3 Ar.2 h2;have⟨As,qr⟩:=bD Ar.2 As qr;refine SA As (λ_ Af E0=>?_);have h1:=ab1 Af (λAb e=>by have:=Ay Ab e;omega) h1;have h2:=ab1 Af (λAb e=>by have:=Ax Ab e;omega) h2;have⟨Aq,qr,_⟩:=ks Af Aq qr;refine SA Aq (λ_ Ad _=>?_);have h1:=ab1 Ad (λAb e=>by have:=Ay Ab e;omega) h1;have h2:=ab1 Ad (λAb e=>by have:=Ax Ab e;omega) h2;have E0:=pb Ad E0;have qr:=bB Ad qr;refine I ?_;rcases qa4 (neg a)with cx|cx;refine I ?_;rcases qa4 (neg b)with nv|nv;refine I ?_;refine clb zf (hc:=jL h2 U h1) (hk:=?_);rintro _ _ E9 rfl;have qr:=xt qr E9.2;refine I ?_;exact ax (t:=4) (v:=.int .i64 (aG ((aN (body b):Nat):Int) ((aN (body a):Nat):Int))) Z qr (qb1 (Value.int .i64) DM) Z
 refine I ?_;exact ax (t:=4) (v:=.int .i64 (-1)) Z qr (qb1 (Value.int .i64) DM) rfl;refine I ?_;rcases qa4 (neg b)with od|od;refine I ?_;exact ax (t:=4) (v:=.int .i64 1) Z qr (qb1 (Value.int .i64) DM) rfl;refine I ?_;refine clb zf (hc:=jL h1 U h2) (hk:=?_);rintro _ _ EP rfl;have qr:=xt qr EP.2;refine I ?_;exact ax (t:=4) (v:=.int .i64 (aG ((aN (body a):Nat):Int) ((aN (body b):Nat):Int))) Z qr (qb1 (Value.int .i64) DM) rfl;have O:=qY O;refine aE func125 Z (I ?_);refine cl kU (m7 _ _ _ O) ?_;rintro _ _ E4 rfl;have qn:=E4.2;refine I ?_;refine al cC (λ_ E7 Ap=>?_);have qn:=xt qn E7.2;refine al cC (λ_ Aw Ao=>?_);have Ap:=be Aw.2 Ap;have qn:=xt qn Aw.2
 refine SA Ap (λ_ EE wr=>?_);have⟨Ao,qn,_⟩:=ks EE Ao qn;refine SA Ao (λ_ Av _=>?_);have wr:=pb Av wr;have qn:=bB Av qn;refine I ?_;exact ax (t:=4) (v:=.int .i64 0) Z qn (by rw[x7 O]) Z
def j6 (h:p:=by kernel_rfl):p:=h
def eJ (h:p:=by assumption):p:=h
def MW (h:Rw w lo A [Value.int .i64 1]):eM w lo A 1 1 1:=by
 have e:av 10000 1=[1]:=by decide
 exact⟨by rw[e];exact h,by rw[e];rfl,qa0 _⟩
def WG {b:List UInt8}(h0:0<aN (body b))(hc:neg a=false\/aN (body a)%aN (body b)=0):cK (!(neg a==neg b)) (aN (body a)/aN (body b))=aA a/aA b/\((aN (body a)%aN (body b):Nat):Int)=aA a%aA b:=
 FI h0 hc
def YO {b:List UInt8}(h0:0<aN (body b))(ha:neg a=true)(hr:0<aN (body a)%aN (body b)):cK (!(neg a==neg b)) (aN (body a)/aN (body b)+1)=aA a/aA b/\((aN (body b)-aN (body a)%aN (body b):Nat):Int)=aA a%aA b:=by
 have:=FJ (ny:=neg b) h0 hr
 rw[<-ha]at this
 exact this
def zO {a b:Nat}(h:a<10000^50):a/b<10000^50:=Nat.lt_of_le_of_lt (Nat.div_le_self a b) h
def FK {a:Nat}(h:a<10000^50):a+1<10000^51:=by
 have:(10000:Nat)^51=10000^50*10000:=by rw[<-Nat.pow_succ]
 generalize (10000:Nat)^50=M at *
 omega
def zQ (h:Nat.gcd x y=G):Nat.gcd y (x%y)=G:=by rw[Nat.gcd_comm,<-Nat.gcd_rec,Nat.gcd_comm];exact h
def RI :
 CL 173 #[] w (aC w λv w'=>∃A n c,v=.slice A n c/\eM w' w.heap.size A n c 1):=by
 refine aE func173 Z (I ?_);refine BS (λ_ qn _ O=>?_);have qr:=qn;refine I ?_;exact ax (t:=0) (v:=.slice (some ⟨w.heap.size,0,none⟩) 1 1) Z qr ⟨_,_,_,rfl,MW (aa4 O)⟩ Z
def m9 (a b:List UInt8)(w:World)(ht:Tb w):
 CL 129 #[S a,S b] w (aC w λv w'=>v=nJ (Vc a b)):=by
 by_cases Ab:(isInt a&&isInt b)=true;have ha:=fL Ab;have hb:=fB Ab;refine aE func129 Z (I ?_);refine cl kU (lL _ _ _ ha hb) ?_;rintro _ _ T2 ⟨A1,n1,c1,A2,n2,c2,rfl,h1,h2⟩;have O:=T2.2;have ZB:=dt h1 (eW ha);have l2:=dt h2 (eW hb);have Ix:=h1.hi;have G4:=h2.hi;refine I ?_;refine al cC (λ_ EW F2=>?_);have h1:=aa3 EW.2 h1;have h2:=aa3 EW.2 h2;have O:=xt O EW.2;refine al cC (λ_ EP EE=>?_);have h1:=aa3 EP.2 h1;have h2:=aa3 EP.2 h2;have⟨F2,O⟩:=bD EP.2 F2 O;refine SA F2 (λ_ F4 Av=>?_);have h1:=ab1 F4 (λAo e=>by have:=Ix Ao e;omega) h1;have h2:=ab1 F4 (λAo e=>by have:=G4 Ao e;omega) h2;have⟨EE,O,_⟩:=ks F4 EE O;refine SA EE (λ_ E7 E4=>?_);have h1:=ab1 E7 (λAo e=>by have:=Ix Ao e;omega) h1;have h2:=ab1 E7 (λAo e=>by have:=G4 Ao e;omega) h2;have Av:=pb E7 Av;have O:=bB E7 O;refine I ?_;by_cases aoz:(n2:Int)=0;have qr:aN (body b)=0:=jw (B:=10000) U (h2.len.trans U);refine I ?_;exact fY (t:=4) (u:=5) (s:=6) (v1:=S []) (v2:=S []) (v3:=.int .i64 30) Z O Bx Z Z Z;have qr:0<aN (body b):=mH (B:=10000) U ke3;refine I ?_
 refine clb Dv (hc:=sQ h1 U h2 U qr) (hk:=?_);rintro _ TT G3 ⟨Aq,ZE,ZD,Ar,Ax,E0,rfl,hq,hr⟩;have h2:=aa3 G3.2 h2;have⟨Av,E4,O⟩:=bC G3.2 Av E4 O;have W2:=dt hq (zO (eW ha));have Z8:=dt hr (Nat.lt_trans (Nat.mod_lt _ qr) (eW hb));refine I ?_;rcases qa4 (neg a)with ly|ly;refine I ?_;by_cases ao0:0<(Ax:Int);have Ek:0<aN (body a)%aN (body b):=mH (B:=10000) U (by rw[hr.len];omega);have qn:=YO qr ly Ek;have Af:aN (body b)-aN (body a)%aN (body b)<=aN (body b):=Nat.sub_le _ _;refine I ?_;obtain⟨L,_⟩:∃L,L=TT.heap.size:=⟨_,rfl⟩;have Kp:aN (body a)%aN (body b)<=aN (body b):=Nat.le_of_lt (Nat.mod_lt _ qr);have Z1:Ax<=n2:=by rw[<-hr.len,<-h2.len];exact eV U Kp
 have l1':=W2;refine bY 7 ?_;refine sf ?_;refine eU (λv w=>eH L 1 v w) (hs:=λ_ _ _ k h=>h.ext k) (λ_ _ Wa _=>?_) ?_;refine cl T6 RI ?_;rintro _ _ W1 ⟨A1c,L2,F7,rfl,As⟩;have T4:=W1.2;have As:=As.mono (lo':=L) (by have:=bz Wa;omega);refine I ?_;exact fs ⟨T4,⟨A1c,L2,F7,rfl,As⟩⟩;refine eU (λv w=>eH L (aN (body a)/aN (body b)+1) v w) (hs:=λ_ _ _ k h=>h.ext k) (λ_ _ R1 W3=>?_) ?_;obtain⟨A1c,L2,F7,Z0,As⟩:=(W3 1 47 Z Z);have Z9:=dt (k:=1) As dc;have hq:=aa3 R1 hq;refine clb ze (hc:=o6 hq U As U) (hk:=?_) (hv:=ai Z (ai Z0 Z));rintro _ _ od ⟨Ap,K2,F5,rfl,Aw⟩;have Z3:=od.2;have Aw:=Aw.mono (lo':=L) (by have:=bz R1;omega);refine I ?_;exact fs ⟨Z3,⟨Ap,K2,F5,rfl,Aw⟩⟩;refine sf ?_;refine eU (λv w=>eH L (aN (body b)-aN (body a)%aN (body b)) v w) (hs:=λ_ _ _ k h=>h.ext k) (λ_ _ E9 _=>?_) ?_;have h2:=aa3 E9 h2;have hr:=aa3 E9 hr;refine clb Dw (hc:=o7 h2 U hr U Kp Z1) (hk:=?_);rintro _ _ Z2 ⟨Am,E1,Ay,rfl,hm⟩;have X2:=Z2.2;have hm:=hm.mono (lo':=L) (by have:=bz E9;omega);refine I ?_;exact fs ⟨X2,⟨Am,E1,Ay,rfl,hm⟩⟩;refine sf ?_;intro _ _ wr N1;have⟨Av,E4,O⟩:=bC wr.2 Av E4 O;obtain⟨Ap,K2,F5,_,Aw⟩:=(N1 2 48 Z Z);obtain⟨Am,E1,Ay,_,hm⟩:=(N1 6 52 Z Z);refine I ?_
 have ZA:=dt Aw (FK (zO (eW ha)));have ZC:=dt hm (Nat.lt_of_le_of_lt (Nat.sub_le _ _) (eW hb));refine I ?_;refine ac (lx (a:=neg a) (b:=neg b) (q:=(!((neg a)==(neg b)))) U4 Z Z Z ?_);refine I ?_;refine clb mj (hc:=gk Aw U (ht.ext O)) (hk:=?_);rintro _ _ Jx rfl;have hm:=aa3 Jx.2 hm;have O:=xt O Jx.2;refine I ?_;by_cases ao2:(rE (bw (cK (!((neg a)==(neg b))) (aN (body a)/aN (body b)+1))))=0;refine I ?_;refine ac (aV (vs:=[(1,.slice Am E1 Ay)]) (cells:=#[.bool false,.slice Am E1 Ay]) (pl:=[(0,1),(1,1)]) kT cC j6 Z j6 ?_);refine clb mj (hc:=gk hm U (ht.ext O)) (hk:=?_);rintro _ _ Z7 rfl;have O:=xt O Z7.2;refine I ?_;exact fY (t:=4) (u:=5) (s:=6) (v1:=S (rS (bw (cK (!((neg a)==(neg b))) (aN (body a)/aN (body b)+1))))) (v2:=S (rS (bw (cK false (aN (body b)-aN (body a)%aN (body b)))))) (v3:=.int .i64 0) Z O Bx Z Z Z;refine I ?_
 exact fY (t:=4) (u:=5) (s:=6) (v1:=S []) (v2:=S []) (v3:=.int .i64 (rE (bw (cK (!((neg a)==(neg b))) (aN (body a)/aN (body b)+1))))) Z O Bx Z Z Z;have Ek:aN (body a)%aN (body b)=0:=jw (B:=10000) U (hr.len.trans U);have qn:=WG (a:=a) qr (Or.inr Ek);have Af:aN (body a)%aN (body b)<=aN (body b):=Nat.le_of_lt (Nat.mod_lt _ qr);refine I ?_;refine ac (lx (a:=neg a) (b:=neg b) (q:=(!((neg a)==(neg b)))) U4 Z Z Z ?_);refine I ?_;refine clb mj (hc:=gk hq U (ht.ext O)) (hk:=?_);rintro _ _ F6 rfl;have hr:=aa3 F6.2 hr;have O:=xt O F6.2;refine I ?_;by_cases ao3:(rE (bw (cK (!((neg a)==(neg b))) (aN (body a)/aN (body b)))))=0;refine I ?_;refine ac (aV (vs:=[(1,.slice Ar Ax E0)]) (cells:=#[.bool false,.slice Ar Ax E0]) (pl:=[(0,1),(1,1)]) kT cC j6 Z j6 ?_);refine clb mj (hc:=gk hr U (ht.ext O)) (hk:=?_);rintro _ _ Wb rfl;have O:=xt O Wb.2;refine I ?_
 exact fY (t:=4) (u:=5) (s:=6) (v1:=S (rS (bw (cK (!((neg a)==(neg b))) (aN (body a)/aN (body b)))))) (v2:=S (rS (bw (cK false (aN (body a)%aN (body b)))))) (v3:=.int .i64 0) Z O Bx Z Z Z;refine I ?_;exact fY (t:=4) (u:=5) (s:=6) (v1:=S []) (v2:=S []) (v3:=.int .i64 (rE (bw (cK (!((neg a)==(neg b))) (aN (body a)/aN (body b)))))) Z O Bx Z Z Z;have qn:=WG qr (Or.inl ly);have Af:aN (body a)%aN (body b)<=aN (body b):=Nat.le_of_lt (Nat.mod_lt _ qr);refine I ?_;refine ac (lx (a:=neg a) (b:=neg b) (q:=(!((neg a)==(neg b)))) U4 Z Z Z ?_);refine I ?_;refine clb mj (hc:=gk hq U (ht.ext O)) (hk:=?_);rintro _ _ F8 rfl;have hr:=aa3 F8.2 hr;have O:=xt O F8.2;refine I ?_;by_cases ao4:(rE (bw (cK (!((neg a)==(neg b))) (aN (body a)/aN (body b)))))=0;refine I ?_;refine ac (aV (vs:=[(1,.slice Ar Ax E0)]) (cells:=#[.bool false,.slice Ar Ax E0]) (pl:=[(0,1),(1,1)]) kT cC j6 Z j6 ?_);refine clb mj (hc:=gk hr U (ht.ext O)) (hk:=?_);rintro _ _ W0 rfl;have O:=xt O W0.2;refine I ?_
 exact fY (t:=4) (u:=5) (s:=6) (v1:=S (rS (bw (cK (!((neg a)==(neg b))) (aN (body a)/aN (body b)))))) (v2:=S (rS (bw (cK false (aN (body a)%aN (body b)))))) (v3:=.int .i64 0) Z O Bx Z Z Z;refine I ?_;exact fY (t:=4) (u:=5) (s:=6) (v1:=S []) (v2:=S []) (v3:=.int .i64 (rE (bw (cK (!((neg a)==(neg b))) (aN (body a)/aN (body b)))))) Z O Bx Z Z Z;have Ab:=qY Ab;refine aE func129 Z (I ?_);refine cl kU (m7 _ _ _ Ab) ?_;rintro _ _ T3 rfl;have Ad:=T3.2;refine I ?_;refine al cC (λ_ Z5 F3=>?_);have Ad:=xt Ad Z5.2;refine al cC (λ_ Z6 F1=>?_);have⟨F3,Ad⟩:=bD Z6.2 F3 Ad;refine SA F3 (λ_ S1 No=>?_);have⟨F1,Ad,_⟩:=ks S1 F1 Ad;refine SA F1 (λ_ Ne _=>?_);have No:=pb Ne No;have Ad:=bB Ne Ad;refine I ?_;exact fY (t:=4) (u:=5) (s:=6) (v1:=S []) (v2:=S []) (v3:=.int .i64 30) Z Ad (by rw[x8 Ab];rfl) Z Z Z
def yd (a b:List UInt8)(w:World)(ht:Tb w):
 CL 126 #[S a,S b] w (aC w λv w'=>v=gj (cQ a b)):=by
 by_cases Af:(isInt a&&isInt b)=true;have ha:=fL Af;have hb:=fB Af;refine aE func126 Z (I ?_);refine cl kU (lL _ _ _ ha hb) ?_;rintro _ K2 F8 ⟨A1,n1,c1,A2,n2,c2,rfl,h1,h2⟩;have O:=F8.2;have F6:=dt h1 (eW ha);have l2:=dt h2 (eW hb);have F2:=h1.hi;have F1:=h2.hi;refine I ?_;refine al cC (λG4 E4 E7=>?_);have h1:=aa3 E4.2 h1;have h2:=aa3 E4.2 h2;have O:=xt O E4.2;refine al cC (λ_ EP E1=>?_);have h1:=aa3 EP.2 h1;have h2:=aa3 EP.2 h2;have⟨E7,O⟩:=bD EP.2 E7 O;refine SA E7 (λ_ Ek qr=>?_);have h1:=ab1 Ek (λAd e=>by have:=F2 Ad e;omega) h1;have h2:=ab1 Ek (λAd e=>by have:=F1 Ad e;omega) h2;have⟨E1,O,_⟩:=ks Ek E1 O;refine SA E1 (λ_ Av Am=>?_);have h1:=ab1 Av (λAd e=>by have:=F2 Ad e;omega) h1;have h2:=ab1 Av (λAd e=>by have:=F1 Ad e;omega) h2;have qr:=pb Av qr;have O:=bB Av O;refine I ?_;refine bY 5 ?_;refine sf ?_;intro _ _ EE _;have h1:=aa3 EE.2 h1;have h2:=aa3 EE.2 h2;have⟨qr,Am,O⟩:=bC EE.2 qr Am O;refine I ?_
 refine JT [(9,12),(26,36)] (λJx e W=>∃Ax:Option Addr,∃nx:Nat,∃Ap:Nat,∃x:Nat,∃Ay:Option Addr,∃ny:Nat,∃As:Nat,∃y:Nat,(y=Jx)/\(e 9=.slice Ax nx Ap)/\(e 10=.slice Ay ny As)/\(nx<=50)/\(ny<=50)/\(Nat.gcd x y=Nat.gcd (aN (body a)) (aN (body b)))/\(bF w W)/\(au W K2.heap.size 152 #[.bool (neg a),.slice A1 n1 c1])/\(au W G4.heap.size 152 #[.bool (neg b),.slice A2 n2 c2])/\(eM W w.heap.size Ax nx Ap x)/\(eM W w.heap.size Ay ny As y)) (aN (body b)) ⟨A1,n1,c1,aN (body a),A2,n2,c2,aN (body b),rfl,rfl,rfl,F6,l2,rfl,O,qr,Am,h1,h2⟩ ?_;rintro _ _ _ ⟨Ax,nx,Ap,x,Ay,ny,As,y,rfl,Ne,N1,q1,q2,E9,Ab,qr,Am,hx,hy⟩;have No:=bz Ab;by_cases hm:0<ny;have Ao:0<y:=mH (B:=10000) U (by rw[hy.len];omega);refine I ?_;refine clb Dv (hc:=sQ hx U hy U Ao) (hk:=?_);rintro _ _ Aw ⟨Aq,S1,R1,Ar,L2,F7,rfl,hq,hr⟩;have⟨qr,Am⟩:=jk Aw.2 qr Am;have hy:=aa3 Aw.2 hy;have Ab:=xt Ab Aw.2;refine I ?_;exact c6 (hk:=by exact Nat.mod_lt _ Ao) ⟨Ay,ny,As,y,Ar,L2,F7,x%y,rfl,rfl,rfl,U,(by rw[<-hr.len];exact qa8 (eV U (Nat.le_of_lt (Nat.mod_lt _ Ao))) (by rw[hy.len];exact q2)),(zQ E9),Ab,qr,Am,hy,(hr.mono U)⟩;have Ao:y=0:=jw (B:=10000) U (hy.len.trans U);rw[Ao,Nat.gcd_zero_right]at E9;refine I ?_
 refine ac (aV (vs:=[(1,.slice Ax nx Ap)]) (cells:=#[.bool false,.slice Ax nx Ap]) (pl:=[(0,1),(1,1)]) kT cC j6 Z j6 ?_);refine clb mj (hc:=gk hx U (ht.ext Ab)) (hk:=?_);rintro _ _ od rfl;have Ab:=xt Ab od.2;refine I ?_;exact bN (t:=4) (u:=5) (v1:=S (rS (bw (cK false x)))) (v2:=.int .i64 (rE (bw (cK false x)))) Z Ab (by rw[Ee Af,<-E9];rfl) Z Z;have Af:=qY Af;refine aE func126 Z (I ?_);refine cl kU (m7 _ _ _ Af) ?_;rintro _ _ G3 rfl;have qn:=G3.2;refine I ?_;refine al cC (λ_ F5 EW=>?_);have qn:=xt qn F5.2;refine al cC (λ_ Ix E0=>?_);have⟨EW,qn⟩:=bD Ix.2 EW qn;refine SA EW (λ_ Kp F4=>?_);have⟨E0,qn,_⟩:=ks Kp E0 qn;refine SA E0 (λ_ F3 _=>?_);have F4:=pb F3 F4;have qn:=bB F3 qn;refine I ?_;exact bN (t:=4) (u:=5) (v1:=S []) (v2:=.int .i64 30) Z qn (by rw[xZ Af];rfl) Z Z
end
section
def nS (n:Nat):List UInt8:=ae (n:Int)
def Fi (n:Nat):Prop:=n<10^200
def Fz (z:Int):Prop:=z.natAbs<10^200
def Fz.fits {z:Int}(h:Fz z):fits z=true:=qa1 h
def Fi.z (h:Fi n):Fz (n:Int):=by simpa[Fz,Fi]using h
def Fz.int {z:Int}(h:Fz z):isInt (ae z)=true:=bR h.fits
def ye {a b:Int}(ha:Fz a)(hb:Fz b)(h:Fz (a+b)):ku (ae a) (ae b)=some (ae (a+b)):=by
 rw[pm ka7,aO,aO];unfold bw;rw[if_pos h.fits]
def IE {a b:Int}(ha:Fz a)(hb:Fz b)(h:Fz (a-b)):bi (ae a) (ae b)=some (ae (a-b)):=by
 rw[m8 ka7,aO,aO];unfold bw;rw[if_pos h.fits]
def yf {a b:Int}(ha:Fz a)(hb:Fz b)(h:Fz (a*b)):ao (ae a) (ae b)=some (ae (a*b)):=by
 rw[eI ka7,aO,aO];unfold bw;rw[if_pos h.fits]
def kv {a b:Int}(ha:Fz a)(hb:Fz b)(h0:b≠0)(h:Fz (a/b)):Vc (ae a) (ae b)=some (ae (a/b),ae (a%b)):=by
 rw[pn ka7 (by rw[fq,gh];omega),aO,aO];unfold bw;rw[if_pos h.fits];rfl
def yg {a b:Int}(ha:Fz a)(hb:Fz b):gG (ae a) (ae b)=aG a b:=by
 unfold gG;rw[if_pos ka7,aO,aO]
def U2:([48]:List UInt8)=nS 0:=by decide +kernel
def yh:([49]:List UInt8)=nS 1:=by decide +kernel
def uF:([50]:List UInt8)=nS 2:=by decide +kernel
def RJ:([52]:List UInt8)=nS 4:=by decide +kernel
def cJ {z:Int}:(ae z=[48])↔z=0:=⟨λh=>qU (h.trans U2),λh=>by subst h;exact U2.symm⟩
def eD {a b:Int}(h:Fz a)(hb:0<b):Fz (a/b):=by
 unfold Fz at *
 refine Nat.lt_of_le_of_lt ?_ h
 obtain⟨k,rfl⟩:∃k:Nat,b=k:=⟨b.toNat,by omega⟩
 rcases Int.eq_nat_or_neg a with⟨n,rfl|rfl⟩
 · have:((n:Int)/(k:Int))=((n/k:Nat):Int):=rfl
   rw[this,Int.natAbs_natCast,Int.natAbs_natCast];exact Nat.div_le_self _ _
 · have h1:-(n:Int)<=-(n:Int)/(k:Int):=by
    rw[Int.le_ediv_iff_mul_le hb]
    have:(n:Int)<=(n:Int)*(k:Int):=by have:=Int.mul_le_mul_of_nonneg_left (show(1:Int)<=k by omega) (show(0:Int)<=n by omega);simpa using this
    rw[Int.neg_mul];omega
   have h2:-(n:Int)/(k:Int)<=0:=by
    refine Int.ediv_le_of_le_mul hb ?_
    simp
   omega
abbrev N2:=Nat×Nat
def gl (a b:Nat):Nat:=if a%b=0 then a/b else a/b+1
def bV (S n d:Nat):N2:=(n*S/d,gl (n*S) d)
def cg (S:Nat)(a b:N2):N2:=(a.1*b.1/S,gl (a.2*b.2) S)
def vQ (S:Nat)(a b:N2):N2:=(a.1*S/b.2,gl (a.2*S) b.1)
def cH (a:N2)(n d:Nat):N2:=(a.1*n/d,gl (a.2*n) d)
def fE (a b:N2):N2:=(a.1+b.1,a.2+b.2)
def Ct (a b:N2):Int×Int:=((a.1:Int)-b.2,(a.2:Int)-b.1)
def zP (a:N2):Int×Int:=((a.1:Int),(a.2:Int))
def lN {a b:Nat}(hb:0<b):gl a b<=a:=by
 unfold gl
 split
 · exact Nat.div_le_self _ _
 · rename_i h
   have h1:=Nat.div_add_mod a b
   have h2:a/b<=b*(a/b):=Nat.le_mul_of_pos_left _ hb
   omega
def Bk (k:Nat)(p:N2):Prop:=p.1<10^k/\p.2<10^k
def kO (p:N2):Bool:=decide (p.1<10^95)&&decide (p.2<10^95)
def df {p:N2}(h:kO p=true):Bk 95 p:=by simpa[kO,Bk]using h
structure Sc (S:Nat):Prop where
 pos:0<S
 lt:S<10^95
def eK {a b:Nat}(ha:a<10^k)(hb:b<10^m):a*b<10^(k+m):=by
 rw[Nat.pow_add];exact Nat.mul_lt_mul'' ha hb
def fe {a:Nat}(h:a<10^k)(hl:k<=m):a<10^m:=qb0 h (Nat.pow_le_pow_right U hl)
def Bk.mono {p:N2}(h:Bk k p)(hl:k<=m):Bk m p:=⟨fe h.1 hl,fe h.2 hl⟩
def Bk.fi {p:N2}(h:Bk k p)(hl:k<=200):Fi p.1/\Fi p.2:=⟨fe h.1 hl,fe h.2 hl⟩
def ek {a:Nat}(h:a<10^k)(hl:k<=200):Fi a:=fe h hl
def cV {a b:Nat}(ha:a<10^k)(hb:b<10^m)(hl:k+m<=200):Fi (a*b):=ek (eK ha hb) hl
def qZ {S:Nat}{a b:N2}(hS:0<S)(ha:Bk 95 a)(hb:Bk 95 b):Bk 190 (cg S a b):=
 ⟨Nat.lt_of_le_of_lt (Nat.div_le_self _ _) (eK ha.1 hb.1),Nat.lt_of_le_of_lt (lN hS) (eK ha.2 hb.2)⟩
def IF {a:N2}(hd:0<d)(ha:Bk k a)(hn:n<10^m):Bk (k+m) (cH a n d):=
 ⟨Nat.lt_of_le_of_lt (Nat.div_le_self _ _) (eK ha.1 hn),Nat.lt_of_le_of_lt (lN hd) (eK ha.2 hn)⟩
def IG {S:Nat}{a b:N2}(hS:Sc S)(h0:0<b.1)(ha:Bk 95 a):Bk 190 (vQ S a b):=
 ⟨Nat.lt_of_le_of_lt (Nat.div_le_self _ _) (eK ha.1 hS.lt),Nat.lt_of_le_of_lt (lN h0) (eK ha.2 hS.lt)⟩
def oC (nx:Nat->N2->N2)(t0:N2):Nat->N2
 |0=>t0
 |k+1=>nx (k+1) (oC nx t0 k)
def po (T:Nat->N2):Nat->N2
 |0=>(0,0)
 |k+1=>fE (po T k) (T k)
def Cu (nx:Nat->N2->N2):Nat->Nat->N2->N2->Nat->Option N2
 |0,_,_,_,_=>none
 | f +1,n,t,a,l=>if kO t=true then
  (if 2<=n/\t.2<=2/\t.2*2<=l+2 then some (a.1+t.1,a.2+t.2+(t.2+4))else Cu nx f (n+1) (nx n t) (fE a t) t.2)
   else none
def zR (nx:Nat->N2->N2)(t0:N2):Option N2:=Cu nx 1000 1 t0 (0,0) 0
structure zS (T:Nat->N2)(m:Nat):Prop where
 lt:m<1000
 bd:∀k≤m,Bk 95 (T k)
 go:∀k<m,k=0\/¬((T k).2<=2/\(T k).2*2<=(T (k-1)).2+2)
 pos:0<m
 stop:(T m).2<=2/\(T m).2*2<=(T (m-1)).2+2
def vR (T:Nat->N2)(m:Nat):N2:=((po T (m+1)).1,(po T (m+1)).2+((T m).2+4))
def zT {nx:Nat->N2->N2}{t0 r:N2}:∀(f k l:Nat),k+f<=1000->(k=0\/l=(oC nx t0 (k-1)).2)->(∀j<k,Bk 95 (oC nx t0 j))->(∀j<k,j=0\/¬((oC nx t0 j).2<=2/\(oC nx t0 j).2*2<=(oC nx t0 (j-1)).2+2))->
 Cu nx f (k+1) (oC nx t0 k) (po (oC nx t0) k) l=some r->∃m,zS (oC nx t0) m/\vR (oC nx t0) m=r
 |0,_,_,_,_,_,_,h=>by simp[Cu]at h
 | f + 1,k,l,hk,hl,hb,hg,h=>by
   unfold Cu at h
   by_cases h1:kO (oC nx t0 k)=true
   · rw [if_pos h1]at h
     have hb':∀j≤k,Bk 95 (oC nx t0 j):=λj O=>by
      by_cases e:j=k
      · subst e;exact df h1
      · exact hb j U
     split at h
     · rename_i hs
       cases h
       have hl':l=(oC nx t0 (k-1)).2:=by rcases hl with e|e;omega;exact e
       exact⟨k,⟨by omega,hb',hg,by omega,hs.2.1,by rw[<-hl'];exact hs.2.2⟩,rfl⟩
     · rename_i hs
       refine zT f (k+1) _ U (Or.inr Z) (λj O=>hb' j U) (λj O=>?_) h
       by_cases e:j=k
       · subst e
         by_cases e0:j=0
         · exact Or.inl e0
         · refine Or.inr λhc=>hs ⟨by omega,hc.1,?_⟩
           rcases hl with e|e;omega;rw[e];exact hc.2
       · exact hg j U
   · rw[if_neg h1]at h;cases h
def zU {nx:Nat->N2->N2}{t0 r:N2}(h:zR nx t0=some r):∃m,zS (oC nx t0) m/\vR (oC nx t0) m=r:=
 zT 1000 0 0 U (Or.inl Z) (λj O=>by omega) (λj O=>by omega) h
def Eh {T:Nat->N2}{m:Nat}(hT:∀k≤m,Bk 95 (T k)):∀k≤m+1,(po T k).1<=k*10^95/\(po T k).2<=k*10^95
 |0,_=>by simp[po]
 | k+1,hk=>by
   obtain⟨h1,h2⟩:=Eh hT k U
   obtain⟨h3,h4⟩:=hT k U
   simp only[po,fE,Nat.add_mul,Nat.one_mul]
   exact⟨by omega,by omega⟩
def zS.tot {T:Nat->N2}(h:zS T m)(hk:k<=m+1):Bk 99 (po T k):=by
 obtain⟨_,_⟩:=Eh h.bd k hk
 have h3:k*10^95<=1000*10^95:=Nat.mul_le_mul_right _ (by have:=h.lt;omega)
 have h4:1000*10^95<10^99:=by decide
 exact⟨by omega,by omega⟩
def i7 (S:Nat):Nat->N2->Nat->Option (N2×Nat)
 |0,_,_=>none
 |f+1,x,h=>if S<x.2*2 then i7 S f (cH x 1 2) (h+1)else some (x,h)
def y6 (S:Nat):Nat->N2->Option N2
 |0,a=>if kO a=true then some a else none
 |h+1,a=>if kO a=true then y6 S h (cg S a a)else none
def Cv (S:Nat)(x:N2)(n:Nat)(t:N2):N2:=cH (cg S t x) 1 n
def yi (S:Nat)(x:N2):Option N2:=if kO x=true then(i7 S 200 x 0).bind λp=>(zR (Cv S p.1) (1*S,1*S)).bind (y6 S p.2)else none
def MX {x:N2}(h:Bk k x):Bk k (cH x 1 2):=
 ⟨Nat.lt_of_le_of_lt (by simpa[cH]using Nat.div_le_self _ _) h.1,Nat.lt_of_le_of_lt (by simpa[cH]using lN (a:=x.2) (b:=2) U) h.2⟩
def RL {S:Nat}{x:N2}{p:N2×Nat}(hh:i7 S f x h=some p)(hl:S<x.2*2):∃g,f=g+1/\i7 S g (cH x 1 2) (h+1)=some p:=by
 cases f with
 |zero=>simp[i7]at hh
 |succ g=>unfold i7 at hh;rw[if_pos hl]at hh;exact⟨g,rfl,hh⟩
def RN {S:Nat}{x:N2}{p:N2×Nat}(hh:i7 S f x h=some p)(hl:¬S<x.2*2):p=(x,h):=by
 cases f with
 |zero=>simp[i7]at hh
 |succ g=>unfold i7 at hh;rw[if_neg hl]at hh;cases hh;rfl
def U6 {S:Nat}{a r:N2}(hh:y6 S (h-i) a=some r)(hl:i<h):Bk 95 a/\y6 S (h-(i+1)) (cg S a a)=some r:=by
 obtain⟨k,hk⟩:∃k,h-i=k+1:=⟨h-i-1,by omega⟩
 rw[hk]at hh
 unfold y6 at hh
 rw[show h-(i+1)=k by omega]
 split at hh
 · rename_i h1;exact⟨df h1,hh⟩
 · cases hh
def U7 {S:Nat}{a r:N2}(hh:y6 S (h-i) a=some r)(hl:¬i<h):a=r/\Bk 95 r:=by
 rw[show h-i=0 by omega]at hh
 unfold y6 at hh
 split at hh
 · rename_i h1;cases hh;exact⟨rfl,df h1⟩
 · cases hh
def Ei {S:Nat}{x r:N2}(h:yi S x=some r):Bk 95 x/\∃p s,i7 S 200 x 0=some p/\zR (Cv S p.1) (1*S,1*S)=some s/\y6 S p.2 s=some r:=by
 unfold yi at h
 split at h
 · rename_i h1
   refine⟨df h1,?_⟩
   cases hp:i7 S 200 x 0 with
   |none=>rw[hp]at h;cases h
   | some p=>
     rw[hp,Option.bind_some]at h
     cases hs:zR (Cv S p.1) (1*S,1*S)with
     |none=>rw[hs]at h;cases h
     |some s=>rw[hs,Option.bind_some]at h;exact⟨p,s,rfl,hs,h⟩
 · cases h
def Pf {S:Nat}:∀{h:Nat} {a r:N2},y6 S h a=some r->Bk 95 r
 |0,a,r,h=>by unfold y6 at h;split at h;rename_i h1;cases h;exact df h1;cases h
 |k+1,a,r,h=>by unfold y6 at h;split at h;exact Pf h;cases h
def RO {S:Nat}{x r:N2}(h:yi S x=some r):Bk 95 r:=by
 obtain⟨_,p,s,_,_,h3⟩:=Ei h
 exact Pf h3
def RP (S:Nat)(q:N2)(n:Nat)(u:N2):N2:=cH (cg S u q) 1 (2*n+1)
end
end Go.Proofs.YthpinljhfnodeaaGreatDoor
namespace Go.Eng
abbrev R:=List UInt8×List UInt8
def cc (a:R):Bool:=isInt a.1&&isInt a.2&& !decide (gG a.2 [48]<=0)&&decide (cQ a.1 a.2=some [49])
def cG (n d:Int):Int:=(if d<0 then -n else n)/((Int.gcd n d:Nat):Int)
def bK (n d:Int):Int:=(if d<0 then -d else d)/((Int.gcd n d:Nat):Int)
def k7 (n d:Int):Option R:=if d=0 then none else some (ae (cG n d),ae (bK n d))
def iz (n d:Int):Option R:=if fits n&&fits d then k7 n d else none
def q7 (a b:R):Option R:=if cc a&&cc b then iz (aA a.1*aA b.1) (aA a.2*aA b.2)else none
def sy (a b:R):Option R:=if cc a&&cc b then iz (aA a.1*aA b.2) (aA a.2*aA b.1)else none
def q8 (a b:R):Option R:=if cc a&&cc b then(if fits (aA a.1*aA b.2)&&fits (aA b.1*aA a.2)then iz (aA a.1*aA b.2+aA b.1*aA a.2) (aA a.2*aA b.2)else none)else none
def re (a b:R):Option R:=if cc a&&cc b then(if fits (aA a.1*aA b.2)&&fits (aA b.1*aA a.2)then iz (aA a.1*aA b.2-aA b.1*aA a.2) (aA a.2*aA b.2)else none)else none
def rN (o:Option R):List UInt8:=(o.map (·.1)).getD []
def rD (o:Option R):List UInt8:=(o.map (·.2)).getD []
def IH (o:Option R):Int:=if o.isSome then 0 else 40
end Go.Eng
namespace Go.Proofs.YthpinljhfnodeaaGreatDoor
variable {bad:Bool}{x y s n d:List UInt8}{w:World}
set_option maxRecDepth 100000
open Go Go.Eng Go.RowKit Tryz
attribute [local irreducible] wpListIn Code.wpIn Oper.wpIn Exit.then Exit.inBlock Exit.noGoto
set_option maxHeartbeats 40000000
def aj {p:Prop}(h:p:=by assumption):p:=h
def kw (h:isInt x=false):Value.bool false=.bool (cc (x,y)):=by simp[cc,h]
def ky (h:isInt y=false):Value.bool false=.bool (cc (x,y)):=by simp[cc,h]
def kA (h:gG y [48]<=0):Value.bool false=.bool (cc (x,y)):=by simp[cc,h]
def II {o:Option (List UInt8)}:(rE o=0/\rS o=s)↔o=some s:=by
 cases o with
 |none=>simp[rE]
 |some t=>simp[rE,rS]
def kB (h1:isInt x=true)(h2:isInt y=true)(h3:¬gG y [48]<=0)(h4:rE (cQ x y)=0):Value.bool (decide (rS (cQ x y)=[49]))=.bool (cc (x,y)):=by
 have:(cQ x y=some [49])↔(rS (cQ x y)=[49]):=by rw[<-II];simp[h4]
 simp[cc,h1,h2,h3,this]
def kD (h1:isInt x=true)(h2:isInt y=true)(h3:¬gG y [48]<=0)(h4:¬rE (cQ x y)=0):Value.bool false=.bool (cc (x,y)):=by
 have:¬(cQ x y=some [49]):=by rw[<-II];simp[h4]
 simp[cc,this]
def dB (bad:Bool)(o:Option (List UInt8)):Bool:=bad||o.isNone
def dS (bad:Bool)(o:Option (List UInt8)):List UInt8:=if bad then[]else rS o
def YP (g:Nat)(x y:List UInt8)(o:Option (List UInt8)):Prop:=∀W,Tb W->CL g #[S x,S y] W (aC W λv _=>v=gj o)
def W9 (o:Option (List UInt8)):dB false o= !decide (rE o=0):=by cases o <;>rfl
def Pg {o:Option (List UInt8)}(h:bad=true):dB bad o=bad:=by subst h;rfl
def Pi {o:Option (List UInt8)}(h:bad=false):dB bad o= !decide (rE o=0):=by subst h;exact W9 o
def ey (o:Option R):Value:=.tuple #[.agg #[S (rN o),S (rD o)],.int .i64 (IH o)]
def zV (bad:Bool)(n d:List UInt8):Option R:=
 if dB (dB (dB bad (cQ n d)) ((Vc n (dS bad (cQ n d))).map (·.1))) ((Vc d (dS bad (cQ n d))).map (·.1))=true then none
 else some (dS (dB bad (cQ n d)) ((Vc n (dS bad (cQ n d))).map (·.1)),dS (dB (dB bad (cQ n d)) ((Vc n (dS bad (cQ n d))).map (·.1))) ((Vc d (dS bad (cQ n d))).map (·.1)))
def ij (bad:Bool)(n d:List UInt8):Option R:=
 if bad=true\/d=[48]then none
 else if gG d [48]<0 then zV (dB (dB bad (bi [48] n)) (bi [48] d)) (dS bad (bi [48] n)) (dS (dB bad (bi [48] n)) (bi [48] d))
 else zV bad n d
def oD (h:bad=true):ij bad n d=none:=if_pos (Or.inl h)
def oE (h:d=[48]):ij bad n d=none:=if_pos (Or.inr h)
def iI (h1:bad=false)(h2:¬d=[48])(h3:gG d [48]<0):ij bad n d=zV (dB (dB bad (bi [48] n)) (bi [48] d)) (dS bad (bi [48] n)) (dS (dB bad (bi [48] n)) (bi [48] d)):=by
 unfold ij;rw[if_neg (by rw[h1];simp[h2]),if_pos h3]
def iJ (h1:bad=false)(h2:¬d=[48])(h3:¬gG d [48]<0):ij bad n d=zV bad n d:=by
 unfold ij;rw[if_neg (by rw[h1];simp[h2]),if_neg h3]
def jm (h:dB (dB (dB bad (cQ n d)) ((Vc n (dS bad (cQ n d))).map (·.1))) ((Vc d (dS bad (cQ n d))).map (·.1))=true):zV bad n d=none:=if_pos h
def jn (h:dB (dB (dB bad (cQ n d)) ((Vc n (dS bad (cQ n d))).map (·.1))) ((Vc d (dS bad (cQ n d))).map (·.1))=false):zV bad n d=some (dS (dB bad (cQ n d)) ((Vc n (dS bad (cQ n d))).map (·.1)),dS (dB (dB bad (cQ n d)) ((Vc n (dS bad (cQ n d))).map (·.1))) ((Vc d (dS bad (cQ n d))).map (·.1))):=if_neg (by rw[h];simp)
def ep (x y:List UInt8)(w:World)(ht:Tb w):
 CL 73 #[.agg #[S x,S y]] w (aC w λv w'=>v=.bool (cc (x,y))):=by
 refine aE func73 Z (I ?_);refine bx (λ_ Ao qr=>?_);have O:=Ao.2;refine I ?_;rcases qa4 (isInt x)with cr|cr;rcases qa4 (isInt y)with cv|cv;refine I ?_;refine cl tL (iG x _) ?_;rintro _ _ A2 rfl;have⟨qr,O⟩:=bD A2.2 qr O;refine I ?_;refine cl tL (iG y _) ?_;rintro _ _ Am rfl;have⟨qr,O⟩:=bD Am.2 qr O;refine I ?_;refine cl zd (sX y [48] _) ?_;rintro _ _ Ab rfl;have⟨qr,O⟩:=bD Ab.2 qr O;refine I ?_;by_cases fy:(gG y [48])<=0;refine I ?_;exact ax (t:=2) (v:=.bool false) Z O CT Z;refine I ?_;refine cl He (yd x y _ (ht.ext O)) ?_;rintro _ _ Ap rfl;have O:=xt O Ap.2;refine I ?_;by_cases cw:(rE (cQ x y))=0;refine I ?_;refine qO (b:=[49]) (I ?_);exact ax (t:=2) (v:=.bool (decide ((rS (cQ x y))=([49])))) Z O CT Z
 refine I ?_;exact ax (t:=2) (v:=.bool false) Z O CT Z;refine I ?_;refine cl tL (iG x _) ?_;rintro _ _ qn rfl;have⟨qr,O⟩:=bD qn.2 qr O;refine I ?_;refine cl tL (iG y _) ?_;rintro _ _ Ad rfl;have O:=xt O Ad.2;refine I ?_;exact ax (t:=2) (v:=.bool false) Z O CT Z;refine I ?_;refine cl tL (iG x _) ?_;rintro _ _ Af rfl;have O:=xt O Af.2;refine I ?_;exact ax (t:=2) (v:=.bool false) Z O CT Z
def MY (x y:List UInt8)(w:World)(ht:Tb w):
 CL 190 #[S x,S y] w (aC w λv w'=>v=gj ((Vc x y).map (·.1))):=by
 refine aE func190 Z (I ?_);refine cl Fp (m9 x y _ (ht.ext (aa2 _))) ?_;rintro _ _ O rfl;have qr:=O.2;refine I ?_;exact bN (t:=4) (u:=5) (v1:=S (rS ((Vc x y).map (·.1)))) (v2:=.int .i64 (if(Vc x y).isSome then 0 else 30)) Z qr (by cases Vc x y <;>rfl) Z Z
def rT {b:Nat}(hB:au w b 120 #[.bool bad])(ht:Tb w){g:Nat}{o:Option (List UInt8)}(heg:Enters prog g)(hop:YP g x y o):
 CL 145 #[pT b,.func (.func g) #[] #[],S x,S y] w (fp λv w'=>w.grownBy w' (some b)/\au w' b 120 #[.bool (dB bad o)]/\v=S (dS bad o)):=by
 have G:=World.grownBy.refl w (some b);refine nM func145 Z (I ?_);rcases qa4 bad with cm|cm;refine I ?_;refine ge (v:=S []) (cF  rfl ?_) ⟨G,(by first|(rw[Pg aj];exact hB)|(rw[Pi aj];exact hB)),(by simp[dS, *])⟩;exact aD (t:=8) Rd _;refine I ?_;refine ac (uo (vs:=[S x,S y]) (lb:=[]) heg Z Z (hop _ ht) ?_);rintro _ _ O rfl;have O:=O.2;have hB:=be O hB;have G:=aS G O;refine I ?_;refine SO hB (λ_ qn qr=>?_);have G:=xL G qn;refine I ?_;refine ge (v:=S (rS o)) (cF  rfl ?_) ⟨G,(by first|(rw[Pg aj];exact qr)|(rw[Pi aj];exact qr)),(by simp[dS, *])⟩;exact aD (t:=8) Rd _
def mL {b:Nat}(hB:au w b 120 #[.bool bad])(ht:Tb w)(x y:List UInt8):
 CL 136 #[pT b,S x,S y] w (fp λv w'=>w.grownBy w' (some b)/\au w' b 120 #[.bool (dB bad (ao x y))]/\v=S (dS bad (ao x y))):=by
 have G:=World.grownBy.refl w (some b);refine nM func136 Z (I ?_);refine ac (bU (vs:=[pT b,.func (.func 178) #[] #[],S x,S y]) rM Z (rT (o:=ao x y) hB ht OV (λW hW=>Eg _ _ W hW)) ?_);rintro _ _ ⟨O,qr,rfl⟩;have G:=aY G O;refine I ?_;refine ge (v:=S (dS bad (ao x y))) (cF  rfl ?_) ⟨G,qr,rfl⟩;exact aD (t:=6) Rd _
def sY {b:Nat}(hB:au w b 120 #[.bool bad])(ht:Tb w)(x y:List UInt8):
 CL 158 #[pT b,S x,S y] w (fp λv w'=>w.grownBy w' (some b)/\au w' b 120 #[.bool (dB bad ((Vc x y).map (·.1)))]/\v=S (dS bad ((Vc x y).map (·.1)))):=by
 have G:=World.grownBy.refl w (some b);refine nM func158 Z (I ?_);refine ac (bU (vs:=[pT b,.func (.func 190) #[] #[],S x,S y]) rM Z (rT (o:=(Vc x y).map (·.1)) hB ht Uh (λW hW=>MY _ _ W hW)) ?_);rintro _ _ ⟨O,qr,rfl⟩;have G:=aY G O;refine I ?_;refine ge (v:=S (dS bad ((Vc x y).map (·.1)))) (cF  rfl ?_) ⟨G,qr,rfl⟩;exact aD (t:=6) Rd _
def yj {b:Nat}(hB:au w b 120 #[.bool bad])(ht:Tb w)(x y:List UInt8):
 CL 116 #[pT b,S x,S y] w (fp λv w'=>w.grownBy w' (some b)/\(∃q,au w' b 120 #[.bool q])/\v=ey (ij bad x y)):=by
 have G:=World.grownBy.refl w (some b);have No:=bt hB;refine nM func116 Z (I ?_);refine al aQ (λ_ Av O=>?_);have hB:=be Av.2 hB;have ht:=aa7 Av.2 ht;have G:=aS G Av.2;refine I ?_;rcases qa4 bad with cv|cv;refine I ?_;refine SA O (λ_ E9 Ix=>?_);have hB:=pb E9 hB;have G:=de G E9 U;refine I ?_;refine ge (v:=.tuple #[.agg #[S [],S []],.int .i64 40]) (cn (r1:=.cell 6 25) (r2:=.tmp 7) Z ?_ ?_) ⟨G,⟨_,hB⟩,RC⟩;refine ag (t:=6) (cs:=[S [],S []]) (b:=w.heap.size) (o:=0) eB Z aM ?_ ?_;exact Z;exact aa1 Ix (i:=0) Z;exact aD (t:=7) Rd _;refine I ?_;refine qO (b:=[48]) (I ?_);by_cases wz:y=([48]);refine I ?_;refine SA O (λ_ F1 F6=>?_);have hB:=pb F1 hB;have G:=de G F1 U;refine I ?_;refine ge (v:=.tuple #[.agg #[S [],S []],.int .i64 40]) (cn (r1:=.cell 6 25) (r2:=.tmp 7) Z ?_ ?_) ⟨G,⟨_,hB⟩,RC⟩
 refine ag (t:=6) (cs:=[S [],S []]) (b:=w.heap.size) (o:=0) eB Z aM ?_ ?_;exact Z;exact aa1 F6 (i:=0) Z;exact aD (t:=7) Rd _;refine I ?_;refine cl zd (sX y [48] _) ?_;rintro _ _ Aq rfl;have hB:=be Aq.2 hB;have ht:=aa7 Aq.2 ht;have O:=be Aq.2 O;have G:=aS G Aq.2;refine I ?_;by_cases w5:(gG y [48])<0;refine I ?_;refine ac (bU (vs:=[pT b,.func (.func 96) #[] #[],S [48],S x]) rM Z (rT (o:=bi [48] x) hB ht DI (λW hW=>sW _ _ W hW)) ?_);rintro _ _ ⟨A2,E0,rfl⟩;have ht:=Tb.gr A2 hB dc ht;have O:=aa0 A2 Hx O;have G:=aY G A2;have L2:=A2.size;refine I ?_;refine ac (bU (vs:=[pT b,.func (.func 96) #[] #[],S [48],S y]) rM Z (rT (o:=bi [48] y) E0 ht DI (λW hW=>sW _ _ W hW)) ?_);rintro _ _ ⟨Ab,E4,rfl⟩;have ht:=Tb.gr Ab E0 dc ht;have O:=aa0 Ab Hx O;have G:=aY G Ab;have S1:=Ab.size;refine I ?_;refine ac (bU (vs:=[pT b,.func (.func 126) #[] #[],S (dS bad (bi [48] x)),S (dS (dB bad (bi [48] x)) (bi [48] y))]) rM Z (rT (o:=cQ (dS bad (bi [48] x)) (dS (dB bad (bi [48] x)) (bi [48] y))) E4 ht He (λW hW=>yd _ _ W hW)) ?_);rintro _ _ ⟨Ao,E7,rfl⟩;have ht:=Tb.gr Ao E4 dc ht;have O:=aa0 Ao Hx O;have G:=aY G Ao;have T3:=Ao.size;refine I ?_
 refine ac (bU (vs:=[pT b,S (dS bad (bi [48] x)),S (dS (dB (dB bad (bi [48] x)) (bi [48] y)) (cQ (dS bad (bi [48] x)) (dS (dB bad (bi [48] x)) (bi [48] y))))]) DJ Z (sY E7 ht (dS bad (bi [48] x)) (dS (dB (dB bad (bi [48] x)) (bi [48] y)) (cQ (dS bad (bi [48] x)) (dS (dB bad (bi [48] x)) (bi [48] y))))) ?_);rintro _ _ ⟨Ap,F4,rfl⟩;have ht:=Tb.gr Ap E7 dc ht;have O:=aa0 Ap Hx O;have G:=aY G Ap;have K2:=Ap.size;refine I ?_;refine ac (bU (vs:=[pT b,S (dS (dB bad (bi [48] x)) (bi [48] y)),S (dS (dB (dB bad (bi [48] x)) (bi [48] y)) (cQ (dS bad (bi [48] x)) (dS (dB bad (bi [48] x)) (bi [48] y))))]) DJ Z (sY F4 ht (dS (dB bad (bi [48] x)) (bi [48] y)) (dS (dB (dB bad (bi [48] x)) (bi [48] y)) (cQ (dS bad (bi [48] x)) (dS (dB bad (bi [48] x)) (bi [48] y))))) ?_);rintro _ _ ⟨Ar,qn,rfl⟩;have O:=aa0 Ar Hx O;have G:=aY G Ar;have N1:=Ar.size;refine I ?_;refine al aQ (λ_ ny F2=>?_);have⟨qn,O⟩:=jk ny.2 qn O;have G:=aS G ny.2;refine SA F2 (λ_ Aw Am=>?_);have⟨qn,O⟩:=eR Aw qn O;have G:=de G Aw U;have Kp:=mC Aw;refine I ?_
 rcases qa4 (dB (dB (dB (dB (dB bad (bi [48] x)) (bi [48] y)) (cQ (dS bad (bi [48] x)) (dS (dB bad (bi [48] x)) (bi [48] y)))) ((Vc (dS bad (bi [48] x)) (dS (dB (dB bad (bi [48] x)) (bi [48] y)) (cQ (dS bad (bi [48] x)) (dS (dB bad (bi [48] x)) (bi [48] y))))).map (·.1))) ((Vc (dS (dB bad (bi [48] x)) (bi [48] y)) (dS (dB (dB bad (bi [48] x)) (bi [48] y)) (cQ (dS bad (bi [48] x)) (dS (dB bad (bi [48] x)) (bi [48] y))))).map (·.1)))with v7|v7;refine I ?_;refine SA O (λ_ Ay F7=>?_);have⟨qn,Am⟩:=eR Ay qn Am;have G:=de G Ay U;refine I ?_;refine ge (v:=.tuple #[.agg #[S [],S []],.int .i64 40]) (cn (r1:=.cell 6 25) (r2:=.tmp 7) Z ?_ ?_) ⟨G,⟨_,qn⟩,RC⟩;refine ag (t:=6) (cs:=[S [],S []]) (b:=w.heap.size) (o:=0) eB Z aM ?_ ?_;exact Z;exact aa1 F7 (i:=0) Z
 exact aD (t:=7) Rd _;refine I ?_;refine SA O (λ_ E1 F8=>?_);have⟨qn,Am⟩:=eR E1 qn Am;have G:=de G E1 U;refine I ?_
 refine ge (v:=.tuple #[.agg #[S (dS (dB (dB (dB bad (bi [48] x)) (bi [48] y)) (cQ (dS bad (bi [48] x)) (dS (dB bad (bi [48] x)) (bi [48] y)))) ((Vc (dS bad (bi [48] x)) (dS (dB (dB bad (bi [48] x)) (bi [48] y)) (cQ (dS bad (bi [48] x)) (dS (dB bad (bi [48] x)) (bi [48] y))))).map (·.1))),S (dS (dB (dB (dB (dB bad (bi [48] x)) (bi [48] y)) (cQ (dS bad (bi [48] x)) (dS (dB bad (bi [48] x)) (bi [48] y)))) ((Vc (dS bad (bi [48] x)) (dS (dB (dB bad (bi [48] x)) (bi [48] y)) (cQ (dS bad (bi [48] x)) (dS (dB bad (bi [48] x)) (bi [48] y))))).map (·.1))) ((Vc (dS (dB bad (bi [48] x)) (bi [48] y)) (dS (dB (dB bad (bi [48] x)) (bi [48] y)) (cQ (dS bad (bi [48] x)) (dS (dB bad (bi [48] x)) (bi [48] y))))).map (·.1)))],.int .i64 0]) (cn (r1:=.cell 6 25) (r2:=.tmp 7) Z ?_ ?_) ⟨G,⟨_,qn⟩,RC⟩
 refine ag (t:=6) (cs:=[S (dS (dB (dB (dB bad (bi [48] x)) (bi [48] y)) (cQ (dS bad (bi [48] x)) (dS (dB bad (bi [48] x)) (bi [48] y)))) ((Vc (dS bad (bi [48] x)) (dS (dB (dB bad (bi [48] x)) (bi [48] y)) (cQ (dS bad (bi [48] x)) (dS (dB bad (bi [48] x)) (bi [48] y))))).map (·.1))),S (dS (dB (dB (dB (dB bad (bi [48] x)) (bi [48] y)) (cQ (dS bad (bi [48] x)) (dS (dB bad (bi [48] x)) (bi [48] y)))) ((Vc (dS bad (bi [48] x)) (dS (dB (dB bad (bi [48] x)) (bi [48] y)) (cQ (dS bad (bi [48] x)) (dS (dB bad (bi [48] x)) (bi [48] y))))).map (·.1))) ((Vc (dS (dB bad (bi [48] x)) (bi [48] y)) (dS (dB (dB bad (bi [48] x)) (bi [48] y)) (cQ (dS bad (bi [48] x)) (dS (dB bad (bi [48] x)) (bi [48] y))))).map (·.1)))]) (b:=w.heap.size) (o:=0) eB Z aM ?_ ?_;exact Z;exact aa1 F8 (i:=0) Z;exact aD (t:=7) Rd _;refine I ?_;refine ac (bU (vs:=[pT b,.func (.func 126) #[] #[],S x,S y]) rM Z (rT (o:=cQ x y) hB ht He (λW hW=>yd _ _ W hW)) ?_);rintro _ _ ⟨od,EW,rfl⟩;have ht:=Tb.gr od hB dc ht;have O:=aa0 od Hx O;have G:=aY G od;have Jx:=od.size;refine I ?_;refine ac (bU (vs:=[pT b,S x,S (dS bad (cQ x y))]) DJ Z (sY EW ht x (dS bad (cQ x y))) ?_);rintro _ _ ⟨Ad,G4,rfl⟩;have ht:=Tb.gr Ad EW dc ht
 have O:=aa0 Ad Hx O;have G:=aY G Ad;have T2:=Ad.size;refine I ?_;refine ac (bU (vs:=[pT b,S y,S (dS bad (cQ x y))]) DJ Z (sY G4 ht y (dS bad (cQ x y))) ?_);rintro _ _ ⟨Ax,qr,rfl⟩;have O:=aa0 Ax Hx O;have G:=aY G Ax;have R1:=Ax.size;refine I ?_;refine al aQ (λ_ Ek G3=>?_);have⟨qr,O⟩:=jk Ek.2 qr O;have G:=aS G Ek.2;refine SA G3 (λ_ As Af=>?_);have⟨qr,O⟩:=eR As qr O;have G:=de G As U;have Ne:=mC As;refine I ?_;rcases Bool.eq_false_or_eq_true (dB (dB (dB bad (cQ x y)) ((Vc x (dS bad (cQ x y))).map (·.1))) ((Vc y (dS bad (cQ x y))).map (·.1)))with wr|wr;refine I ?_;refine SA O (λ_ EP F5=>?_);have⟨qr,Af⟩:=eR EP qr Af;have G:=de G EP U;refine I ?_;refine ge (v:=.tuple #[.agg #[S [],S []],.int .i64 40]) (cn (r1:=.cell 6 25) (r2:=.tmp 7) Z ?_ ?_) ⟨G,⟨_,qr⟩,RC⟩
 refine ag (t:=6) (cs:=[S [],S []]) (b:=w.heap.size) (o:=0) eB Z aM ?_ ?_;exact Z;exact aa1 F5 (i:=0) Z;exact aD (t:=7) Rd _;refine I ?_;refine SA O (λ_ EE F3=>?_);have⟨qr,Af⟩:=eR EE qr Af;have G:=de G EE U;refine I ?_;refine ge (v:=.tuple #[.agg #[S (dS (dB bad (cQ x y)) ((Vc x (dS bad (cQ x y))).map (·.1))),S (dS (dB (dB bad (cQ x y)) ((Vc x (dS bad (cQ x y))).map (·.1))) ((Vc y (dS bad (cQ x y))).map (·.1)))],.int .i64 0]) (cn (r1:=.cell 6 25) (r2:=.tmp 7) Z ?_ ?_) ⟨G,⟨_,qr⟩,RC⟩;refine ag (t:=6) (cs:=[S (dS (dB bad (cQ x y)) ((Vc x (dS bad (cQ x y))).map (·.1))),S (dS (dB (dB bad (cQ x y)) ((Vc x (dS bad (cQ x y))).map (·.1))) ((Vc y (dS bad (cQ x y))).map (·.1)))]) (b:=w.heap.size) (o:=0) eB Z aM ?_ ?_;exact Z;exact aa1 F3 (i:=0) Z;exact aD (t:=7) Rd _
end Go.Proofs.YthpinljhfnodeaaGreatDoor
