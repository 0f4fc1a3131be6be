/- Part of the proof of a statement about special functions. -/
import Derived.Test.YtgcfffdpcefifaaGreatDoorInt3ToInt11
import Derived.Lib.OthersKept
set_option linter.all false
namespace Go.Proofs.YtgcfffdpcefifaaGreatDoor
open Go Go.Eng Go.RowKit Tryz
variable {ng nx ny:Bool}{X:List Nat}{b l s a:List UInt8}{c lo g x n k i q y G:Nat}{A A1:Option Addr}{p:Prop}{w w' W W' B:World}
attribute [local irreducible] wpListIn Code.wpIn Oper.wpIn Exit.then Exit.inBlock Exit.noGoto
set_option maxHeartbeats 40000000
def ce (h:p:=by assumption):p:=h
def lA (w:World)(b:Nat)(l:List UInt8):Prop:=Lib.IsBuilderF 114 5 b b (Lib.byteCells l) w
def zv {b:Nat}{p:Value}{bs:List Value}(hk:∀(k:Nat) (c:Array Value) (t:TypeId) (fz:Nat×Nat),w.heap[k]?=some (Obj.cells c t fz)->w'.heap[k]?=w.heap[k]?)(h:Lib.BuilderAtF 114 5 b b p bs w):Lib.BuilderAtF 114 5 b b p bs w':=by
 obtain⟨hB,v,hb,⟨hl,hv|⟨g,cap,H,fz,rfl,O,D,r⟩⟩,E⟩:=h
 · exact⟨hB,v,(hk _ _ _ _ hb).trans hb,⟨hl,.inl hv⟩,E⟩
 · exact⟨hB,_,(hk _ _ _ _ hb).trans hb,⟨hl,.inr ⟨g,cap,H,fz,rfl,O,(hk _ _ _ _ D).trans D,r⟩⟩,E⟩
def lA.of {b:Nat}(hk:∀(k:Nat) (c:Array Value) (t:TypeId) (fz:Nat×Nat),w.heap[k]?=some (Obj.cells c t fz)->w'.heap[k]?=w.heap[k]?)(h:lA w b l):lA w' b l:=
 h.elim (λx=>.inl (zv hk x)) (λx=>.inr (zv hk x))
def lA.ext {b:Nat}(k:a8 w w')(h:lA w b l):lA w' b l:=lA.of (h:=h) (λi _ _ _ hi=>k.block i (Array.getElem?_eq_some_iff.1 hi).1)
def lA.cel {row:Option Nat}{B b:Nat}(hg:W.grownBy W' row)(hr:∀r,row=some r->B<=r/\∃o:Obj,W.heap[r]?=some o/\o.isCells=false)(h:lA W b l):lA W' b l:=
 lA.of (h:=h) (λi _ _ _ hi=>grownBy_keeps_cells hg (λr e=>(hr r e).2) hi Z)
def lA.start {b:Nat}(h:ae w b 114 #[.pointer none,.slice none 0 0]):lA w b []:=
 .inl ⟨qa0 _,_,h,World.ownsRowF_of ic,by simp[Value.ownBlock]⟩
def lA.cells {b:Nat}(h:lA w b l):∃(c:Array Value) (t:TypeId) (fz:Nat×Nat),w.heap[b]?=some (Obj.cells c t fz):=by
 rcases h with h|h <;>(obtain⟨_,v,hb,_⟩:=h;exact⟨_,_,_,hb⟩)
def lA.lt {b:Nat}(h:lA w b l):b<w.heap.size:=by
 obtain⟨_,_,_,hb⟩:=h.cells
 exact(Array.getElem?_eq_some_iff.1 hb).1
structure KB (b:Nat)(W W':World):Prop where
 oth:Lib.OthersKept 5 (some b) W W'
 low:Below b W W'
def KB.refl (b:Nat)(W:World):KB b W W:=⟨Lib.OthersKept.refl _ _ _,Below.refl _ _⟩
def KB.ext {b:Nat}{A:World}(hb:b<=A.heap.size)(h:KB b W A)(k:a8 A B):KB b W B:=
 ⟨h.oth.trans (λi o hi _ _=>(k.block i (Array.getElem?_eq_some_iff.1 hi).1).trans hi),Below.trans h.low (Below.mono k hb)⟩
def KB.wr {b:Nat}{A:World}(h:KB b W A)(k:KB b A B):KB b W B:=⟨h.oth.trans k.oth,Below.trans h.low k.low⟩
def KB.others {b:Nat}(h:KB b W W')(hb:lA W b l):KeepsOthers W W':=by
 refine⟨h.low.size,λk o hk ho=>h.oth k o hk ?_ ?_⟩
 · intro e
   cases e
   obtain⟨c,t,D,hc⟩:=hb.cells
   rw[hc]at hk;cases hk;cases ho
 · intro c D e;subst e;cases ho
def KB.blk {b:Nat}{t:TypeId}{cs:Array Value}(h:KB b W W')(hn:c≠b)(ht:t≠5)(hb:ae W c t cs):ae W' c t cs:=
 h.oth c _ hb (λe=>hn (by cases e;rfl)) (λ_ _ e=>ht (by cases e;rfl))
def KB.rw {b:Nat}{cs:List Value}(h:KB b W W')(hA:∀ad,A=some ad->ad.block<b)(hr:Rw W lo A cs):Rw W' lo A cs:=by
 refine⟨λj u hu=>?_,hr.lo,λad e=>qb0 (hr.hi ad e) h.low.size⟩
 obtain⟨c,o,e,hc⟩:=hr.cells j u hu
 exact⟨c,o,e,(World.cell?_of_block (h.low.block c (hA _ e))).trans hc⟩
def KB.dfr {b D:Nat}(h:KB b W W')(hb:lA W b l)(hD:j9 W D):j9 W' D:=
 h.oth D _ hD (λe=>by
  cases e
  obtain⟨c,t,E,hc⟩:=hb.cells
  unfold j9 at hD;rw[hc]at hD;cases hD) (λ_ _ e=>by cases e)
def s6 {b:Nat}(h:lA w b l)(hl:l.length+s.length<=1000000):
 CL 102 #[pT b,S s] w (jv λv w'=>v=.tuple #[.int .i64 ((s.length:Nat):Int),.nilIface]/\lA w' b (l++s)/\KB b w w'):=
 vH (Any.Builder_WriteString_k {Tryz.lays105 with} Tryz.Builder_Extra_105 b b (Lib.byteCells l) ⟨s.toArray⟩ w h (by rw[Lib.byteCells_length,oZ];omega) (Nat.le_of_lt h.lt)) (by
  rintro e w' ⟨rfl,h1,D,E⟩
  refine⟨_,rfl,by rw[oZ],?_,E,D⟩
  have:Lib.byteCells (l++s)=Lib.byteCells l++Lib.strCells ⟨s.toArray⟩:=by simp[Lib.byteCells,Lib.strCells]
  unfold lA
  rw[this]
  exact .inr h1)
def xv {b:Nat}(h:lA w b l):
 CL 104 #[pT b] w (jv λv w'=>v=S l/\lA w' b l/\KB b w w'):=
 vH (Tryz.Builder_String_any_k b b l w h (Nat.le_of_lt h.lt)) (by
  rintro e w' ⟨rfl,h1,D,E⟩
  exact⟨_,rfl,rfl,h1,E,D⟩)
def P4 (g:Nat):List Nat:=aj 10 g++List.replicate (4-(aj 10 g).length) 0
def D4:List Nat->List Nat
 |[]=>[]
 |[g]=>aj 10 g
 |g::rest=>P4 g++D4 rest
def zw (g g2:Nat)(r:List Nat):D4 (g::g2::r)=P4 g++D4 (g2::r):=rfl
def GQ (g:Nat){r:List Nat}(h:r≠[]):D4 (g::r)=P4 g++D4 r:=by
 cases r with
 |nil=>exact absurd Z h
 |cons a b=>rfl
def Jf (h:g<10000):(aj 10 g).length<=4:=(aF 10 U g 4).2 h
def rt (h:g<10000):(P4 g).length=4:=by have:=Jf h;simp[P4];omega
def qp:∀k,bg 10 (List.replicate k 0)=0
 |0=>rfl
 |k+1=>by simp[List.replicate_succ,bg,qp k]
def GR (g:Nat):bg 10 (P4 g)=g:=by rw[P4,bH,qp,bU 10 U];simp
def Jg (g:Nat):∀d∈P4 g,d<10:=by
 intro d hd
 rcases List.mem_append.1 hd with h|h
 · exact cu 10 U g d h
 · rw[(List.mem_replicate.1 h).2];omega
def EK:∀X:List Nat,∀d∈D4 X,d<10
 |[],d,h=>by simp[D4]at h
 |[g],d,h=>cu 10 U g d h
 | g::g2::r,d,h=>by
   rw[zw]at h
   rcases List.mem_append.1 h with h|h
   · exact Jg g d h
   · exact EK (g2::r) d h
def zx:∀X:List Nat,(∀g∈X,g<10000)->bg 10 (D4 X)=bg 10000 X
 |[],_=>rfl
 |[g],_=>by simp[D4,bg,bU 10 (show 2<=10 by omega)]
 | g::g2::r,h=>by
   rw[zw,bH,GR,rt (h g Vk),zx (g2::r) (λx hx=>h x (by simp at hx ⊢;right;exact hx))]
   simp[bg]
def vX:∀X:List Nat,X≠[]->X.getLast?≠some 0->(∀g∈X,g<10000)->(D4 X)≠[]/\(D4 X).getLast?≠some 0
 |[],h,_,_=>absurd Z h
 | [g],_,h,_=>by
   have hg:g≠0:=by intro e;subst e;simp at h
   exact⟨kL hg,hU 10 U g⟩
 | g::g2::r,_,h,hl=>by
   have D:=vX (g2::r) Vk VJ (λx hx=>hl x (by simp at hx ⊢;right;exact hx))
   rw[zw]
   refine⟨by simp[D.1],?_⟩
   rw[List.getLast?_append]
   cases hq:(D4 (g2::r)).getLast? with
   |none=>exact absurd (List.getLast?_eq_none_iff.1 hq) D.1
   |some y=>simpa[hq]using D.2
def GT (a:Nat):D4 (aj 10000 a)=aj 10 a:=by
 by_cases h0:aj 10000 a=[]
 · have:a=0:=gI (B:=10000) U (by rw[h0];rfl)
   subst this;rfl
 · have D:=cu 10000 U a
   have h1:=vX (aj 10000 a) h0 (hU 10000 U a) D
   have E:Canon 10 (D4 (aj 10000 a)):=⟨EK _,h1.2⟩
   rw[jK U E,zx _ D,bU 10000 U]
def lB (a b:List Nat):b9 (a++b)=b9 b++b9 a:=by simp[b9]
def gy (u:Nat):Lib.decDigits u=aY u:=by
 induction u using Nat.strongRecOn with
 | _ u ih=>
   by_cases h:u<10
   · rw[Lib.decDigits_one h]
     unfold aY
     split
     · next h0=>subst h0;rfl
     · next h0=>
       rw[eo 10 u U U,show u/10=0 by omega,eH,Nat.mod_eq_of_lt h];rfl
   · rw[Lib.decDigits,dif_neg h,ih (u/10) U]
     unfold aY
     rw[if_neg U,if_neg U]
     conv=>rhs;rw[eo 10 u U U]
     simp[b9]
def s7 (g:Nat):Lib.itoa (g:Int)=aY g:=by
 rw[Lib.itoa,if_neg U,Int.toNat_natCast,gy]
def qq (h:g<10000):0<(aY g).length/\(aY g).length<=4:=by
 unfold aY;split
 · simp
 · next h0=>
   rw[b8]
   exact⟨List.length_pos_iff.2 (kL h0),Jf h⟩
def s8 (k:Nat):Lib.repeatL [48] k=b9 (List.replicate k 0):=by
 induction k with
 |zero=>rfl
 |succ k ih=>rw[Lib.repeatL,ih,List.replicate_succ'];simp[b9]
def CH (h:g<10000):Lib.repeatL [48] (4-(aY g).length)++aY g=b9 (P4 g):=by
 by_cases h0:g=0
 · subst h0;rfl
 · have e:aY g=b9 (aj 10 g):=by unfold aY;rw[if_neg h0]
   rw[e,b8,P4,lB,s8]
def drop_at (h:x<X.length):X.drop x=X.getD x 0::X.drop (x+1):=by
 rw[List.drop_eq_getElem_cons h];simp[h]
def xw (hn:X.length=n)(hx:x<n)(hk:x+1=k)(hlt:∀g∈X,g<10000)(h0:X.getLast?≠some 0):
 b9 (D4 (X.drop k))++(if x+1<n then Lib.repeatL [48] (4-(aY (X.getD x 0)).length)++aY (X.getD x 0)else aY (X.getD x 0))=b9 (D4 (X.drop x)):=by
 subst hk
 have kk:X.getD x 0<10000:=getD_lt hlt x
 have O:X.drop x=X.getD x 0::X.drop (x+1):=drop_at U
 rw[O]
 by_cases hc:x+1<n
 · rw[if_pos hc,CH kk]
   have:X.drop (x+1)=X.getD (x+1) 0::X.drop (x+1+1):=drop_at U
   rw[GQ _ (by rw[this];simp),lB]
 · rw[if_neg hc]
   have H:X.drop (x+1)=[]:=List.drop_eq_nil_of_le U
   rw[H]
   have E:X.getD x 0≠0:=by
    intro e
    apply h0
    rw[List.getLast?_eq_getElem?,show X.length-1=x by omega]
    have D:X[x]?=some X[x]:=qa5 U
    rw[List.getD,D]at e
    rw[D];exact qb1 some e
   simp only[D4]
   unfold aY
   rw[if_neg E]
   simp[b9]
def rS (o:Option (List UInt8)):List UInt8:=o.getD []
def rE (o:Option (List UInt8)):Int:=if o.isSome then 0 else 30
def eE (o:Option (List UInt8)):Value:=.tuple #[S (rS o),.int .i64 (rE o)]
def fS (ng:Bool)(a:Nat):(bv ng a).natAbs=a:=by unfold bv;split <;>simp
def vY (ng:Bool){a:Nat}(h:0<a):(bv ng a<0)↔ng=true:=by
 unfold bv;cases ng <;>simp;omega
def ms (ng:Bool){a:Nat}(h:0<a):aa (bv ng a)=if ng then 45::aY a else aY a:=by
 unfold aa
 rw[fS]
 by_cases hn:ng=true
 · rw[if_pos ((vY ng h).2 hn),if_pos hn]
 · rw[if_neg (λhc=>hn ((vY ng h).1 hc)),if_neg hn]
def lC (ng:Bool){a:Nat}(h:0<a):fits (bv ng a)=decide ((aY a).length<=200):=by
 unfold fits
 rw[fS]
 unfold aY
 rw[if_neg U,b8,decide_eq_decide]
 exact(aF 10 U a 200).symm
def lD (ng:Bool):Value.tuple #[S [48],.int .i64 0]=eE (aR (bv ng 0)):=by cases ng <;>rfl
def nG (ng:Bool){a:Nat}(h:0<a)(hl:(200:Int)<(((aY a).length:Nat):Int)):Value.tuple #[S [],.int .i64 30]=eE (aR (bv ng a)):=by
 unfold aR
 rw[lC ng h,decide_eq_false U];rfl
def nH {a:Nat}(h:0<a)(hl:¬(200:Int)<(((aY a).length:Nat):Int))(hn:ng=true):Value.tuple #[S ([45]++aY a),.int .i64 0]=eE (aR (bv ng a)):=by
 unfold aR
 rw[lC ng h,decide_eq_true U,if_pos Z,ms ng h,if_pos hn];rfl
def nI {a:Nat}(h:0<a)(hl:¬(200:Int)<(((aY a).length:Nat):Int))(hn:ng=false):Value.tuple #[S (aY a),.int .i64 0]=eE (aR (bv ng a)):=by
 unfold aR
 rw[lC ng h,decide_eq_true U,if_pos Z,ms ng h,if_neg (by simp[hn])];rfl
def EL (X:List Nat)(n i:Nat):List UInt8:=if i+1<n then Lib.repeatL [48] (4-(aY (X.getD i 0)).length)++aY (X.getD i 0)else aY (X.getD i 0)
def tx (X:List Nat)(n:Nat)(pre:List Nat):List UInt8:=pre.flatMap (EL X n)
def vZ (X:List Nat)(n:Nat)(pre:List Nat)(x:Nat):tx X n (pre++[x])=tx X n pre++EL X n x:=by simp[tx]
def CI (h:i+1<n):EL X n i=Lib.repeatL [48] (4-(aY (X.getD i 0)).length)++aY (X.getD i 0):=if_pos h
def CJ (h:¬i+1<n):EL X n i=aY (X.getD i 0):=if_neg h
def CK (hX:∀g∈X,g<10000)(n i:Nat):(EL X n i).length<=4:=by
 have h1:=getD_lt hX i
 have D:=qq h1
 unfold EL;split
 · rw[CH h1,b8,rt h1];omega
 · exact D.2
def zy {X:List Nat}(hX:∀g∈X,g<10000)(n:Nat):∀pre:List Nat,(tx X n pre).length<=4*pre.length
 |[]=>by simp[tx]
 | i::l=>by
   have ih:=zy hX n l
   have:=CK hX n i
   simp only[tx,List.flatMap_cons,List.length_append,List.length_cons]at ih ⊢
   omega
def zz {X:List Nat}{n:Nat}(hn:X.length=n)(hlt:∀g∈X,g<10000)(h0:X.getLast?≠some 0):∀j,j<=n->b9 (D4 (X.drop j))++tx X n (List.range j).reverse=b9 (D4 X)
 |0,_=>by simp[tx]
 | j+1,h=>by
   have e:(List.range (j+1)).reverse=j::(List.range j).reverse:=by simp[List.range_succ]
   rw[e]
   show _++(EL X n j++tx X n _)=_
   rw[<-List.append_assoc]
   have:=xw (X:=X) (x:=j) (n:=n) (k:=j+1) hn U Z hlt h0
   unfold EL
   rw[this]
   exact zz hn hlt h0 j U
def GU {a:Nat}(hn:(aj 10000 a).length=n)(h0:0<a):tx (aj 10000 a) n (List.range n).reverse=aY a:=by
 have h:=zz hn (cu 10000 U a) (hU 10000 U a) n (qa0 _)
 rw[List.drop_eq_nil_of_le U,GT]at h
 have D:b9 (D4 [])=[]:=rfl
 rw[D,List.nil_append]at h
 rw[h];unfold aY;rw[if_neg U]
set_option maxRecDepth 100000 in
def eh {n1 c1 a lo1:Nat}(h1:dm w lo1 A1 n1 c1 a)(s1:n1<=9000)(ht:Tb w):
 CL 107 #[.agg #[.bool ng,.slice A1 n1 c1]] w (aH w λv w'=>v=eE (aR (bv ng a))):=by
 have B2:=h1.hi;refine qd func107 Z (I ?_);refine bx (λAb E7 O=>?_);have A2:=E7.2;refine I ?_;by_cases lq:(n1:Int)=0;have Ao:a=0:=gI (B:=10000) U (h1.len.trans U);refine I ?_;refine vC (v:=.tuple #[S [48],.int .i64 0]) (cJ (r1:=.tmp 2) (r2:=.tmp 3) Z ?_ ?_) A2 Vs;exact aE (t:=2) Ve _;exact aE (t:=3) Ve _;have kk:0<a:=jS (B:=10000) U VS;refine I ?_;refine al FF (λAy D2 Ax=>?_);have⟨O,A2⟩:=bn D2.2 O A2;refine I ?_;refine cl vx (ie (A:=A1) (n:=n1) (c:=c1)) ?_;rintro _ D1 E1 ⟨rfl,E4⟩;have⟨O,Ax,A2⟩:=aP E1.2 O Ax A2;refine I ?_;have H:=lA.start Ax;have K2:=H.lt
 refine nA (m:=n1) (enc:=λx=>[.int .i64 x,.int .i64 (((aj 10000 a).getD x 0:Nat):Int)]) (order:=(List.range n1).reverse) (Kq:=λW=>ae W Ay.heap.size 76 #[.slice A1 n1 c1]/\Rw W lo1 A1 (ints (aj 10000 a))) (gf:=160) (lb:=[pT Ay.heap.size]) (ps:=[16,17]) Z vz (fY E4 (h1.row.ext A2) h1.len U) (λW W' row hq kd hr=>⟨ab4 kd hr hq.1,Rw.cel kd hr hq.2⟩) (λ_=>rfl) [5,6] (λx=>[.int .i64 x,.int .i64 (((aj 10000 a).getD x 0:Nat):Int)]) ?asn (λpre W=>(D1.heap.size<=W.heap.size)/\(a8 w W)/\(ae W w.heap.size 78 #[.bool ng,.slice A1 n1 c1])/\(lA W Ab.heap.size (tx (aj 10000 a) n1 pre))) (λ_ _ _=>False) ?hI ?hIx ?h0 ?body ?done ?stop;case asn=>
  intro l x W K hK;refine I ?_;exact hK
 case hI=>
  rintro pre W W' row ⟨Aw,E,O,H⟩ kd hr;exact⟨qa8 Aw kd.size,li (B:=D1.heap.size) U kd hr (bz E) E,ab4 kd hr O,lA.cel kd hr H⟩
 case hIx=>
  exact λ_ _ _ _ _ h=>h.elim
 case h0=>
  exact⟨qa0 _,A2,O,H⟩
 case body=>
  rintro l pre x W ⟨Aw,E,O,H⟩ EW hx L2;have Kp:=KB.refl Ab.heap.size W;have zW:=bz E;have Af:=getD_lt h1.lt x;have M1:=qq Af;have B1:=H;have hbW:=H.lt;have hDl:=zy h1.lt n1 pre;refine I ?_;refine clb yl (hc:=rr _ _ U U (ht.ext E)) (hk:=?_);rintro _ _ Aq rfl;have O:=be Aq.2 O;have H:=lA.ext Aq.2 H;have E:=xt E Aq.2;have Kp:=KB.ext U Kp Aq.2;rw[s7];refine I ?_;refine oO (I ?_);by_cases nm:(x:Int)<((n1:Int)-1);refine I ?_;refine ab (bF (l:=aY ((aj 10000 a).getD x 0)) U9 Z ?_);refine ab (fg (a:=4) (b:=(((aY ((aj 10000 a).getD x 0)).length:Nat):Int)) (c:=((4-(aY ((aj 10000 a).getD x 0)).length:Nat):Int)) Z Z JT U ?_);refine clb ym (hc:=mr [48] (4-(aY ((aj 10000 a).getD x 0)).length) _ U Vk) (hk:=?_);rintro _ _ As rfl;have O:=be As.2 O;have H:=lA.ext As.2 H;have E:=xt E As.2;have Kp:=KB.ext U Kp As.2;refine I ?_;refine ab (me (a:=Lib.repeatL [48] (4-(aY ((aj 10000 a).getD x 0)).length)) (b:=aY ((aj 10000 a).getD x 0)) Z Z (by rw[<-List.length_append,CH Af,b8,rt Af];omega) ?_);refine I ?_;have E9:((Lib.repeatL [48] (4-(aY ((aj 10000 a).getD x 0)).length))++(aY ((aj 10000 a).getD x 0))).length<=8:=by rw[CH Af,b8,rt Af];omega
  refine ab (bG (vs:=[pT Ab.heap.size,S ((Lib.repeatL [48] (4-(aY ((aj 10000 a).getD x 0)).length))++(aY ((aj 10000 a).getD x 0)))]) Et Z (s6 H U) ?_);rintro _ _ ⟨rfl,Ad,Ap⟩;have O:=KB.blk Ap U dc O;have E:=Below.trans E (Below.mono Ap.low U);have M0:=Ap.low.size;have Kp:=KB.wr Kp Ap;have H:=Ad;refine I ?_;exact⟨Kp.others B1,λhq=>⟨Kp.blk U dc hq.1,Kp.rw (λAv e=>by have:=B2 Av e;omega) hq.2⟩,⟨U,E,O,(by rw[vZ,CI U];exact H)⟩⟩;refine I ?_;have E9:(aY ((aj 10000 a).getD x 0)).length<=8:=J
  refine ab (bG (vs:=[pT Ab.heap.size,S (aY ((aj 10000 a).getD x 0))]) Et Z (s6 H U) ?_);rintro _ _ ⟨rfl,Ad,Ar⟩;have O:=KB.blk Ar U dc O;have E:=Below.trans E (Below.mono Ar.low U);have Jx:=Ar.low.size;have Kp:=KB.wr Kp Ar;have H:=Ad;refine I ?_;exact⟨Kp.others B1,λhq=>⟨Kp.blk U dc hq.1,Kp.rw (λAv e=>by have:=B2 Av e;omega) hq.2⟩,⟨U,E,O,(by rw[vZ,CJ U];exact H)⟩⟩
 case stop=>
  exact λ_ _ _ _ _ _ h _=>h.elim
 case done=>
  rintro D W hD ⟨Aw,E,O,H⟩ hK;have zW:=bz E;refine I ?_;rw[GU h1.len kk]at H;refine ab (bG (vs:=[pT Ab.heap.size]) ID Z (xv H) ?_);rintro _ _ ⟨rfl,Ad,Am⟩;have O:=KB.blk Am U dc O;have hK:=KB.dfr Am H hK;have E:=Below.trans E (Below.mono Am.low U);have Ix:=Am.low.size;have H:=Ad;refine I ?_;refine ab (bF (l:=aY a) U9 Z ?_);refine I ?_;by_cases np:200<(((aY a).length:Nat):Int);refine I ?_;refine gZ (v:=.tuple #[S [],.int .i64 30]) hK (cJ (r1:=.tmp 2) (r2:=.tmp 3) Z ?_ ?_) ((dU _).low E U) Vs;exact aE (t:=2) Ve _;exact aE (t:=3) Ve _;refine I ?_;rcases qa4 ng with lp|lp;refine I ?_;refine ab (me (a:=[45]) (b:=aY a) Z Z Va ?_);refine I ?_;refine gZ (v:=.tuple #[S (([45])++(aY a)),.int .i64 0]) hK (cJ (r1:=.tmp 2) (r2:=.tmp 3) Z ?_ ?_) ((dU _).low E U) Vs;exact aE (t:=2) Ve _;exact aE (t:=3) Ve _
  refine I ?_;refine gZ (v:=.tuple #[S (aY a),.int .i64 0]) hK (cJ (r1:=.tmp 2) (r2:=.tmp 3) Z ?_ ?_) ((dU _).low E U) Vs;exact aE (t:=2) Ve _;exact aE (t:=3) Ve _
set_option maxRecDepth 100000
def bh (h:p:=by assumption):p:=h
def bW {a:Nat}(h:dm w lo A n c a)(hl:a<10000^k):n<=k:=by rw[<-h.len];exact(aF 10000 U a k).2 hl
def dz (h:isInt l=true):au (body l)<10000^50:=qb0 (nF (cN h)) dc
def ig (l:List UInt8):bv (neg l) (au (body l))=ao l:=rfl
def v8 (ng:Bool)(a:Nat):bv (!ng) a=-bv ng a:=by cases ng <;>simp[bv]
def mt {a b:Bool}(h:¬(a&&b)=true):(a&&b)=false:=by simpa using h
def gE {a b:Bool}(h:(a&&b)=true):a=true:=by simp at h;exact h.1
def ge {a b:Bool}(h:(a&&b)=true):b=true:=by simp at h;exact h.2
def nJ (h:(isInt a&&isInt b)=true):pJ a b=aR (ao a+ao b):=by unfold pJ;rw[if_pos h]
def ru (h:(isInt a&&isInt b)=false):pJ a b=none:=by unfold pJ;rw[h];rfl
def lE (h:(isInt a&&isInt b)=true):aN a b=aR (ao a-ao b):=by unfold aN;rw[if_pos h]
def rv (h:(isInt a&&isInt b)=false):aN a b=none:=by unfold aN;rw[h];rfl
def fA (h:(isInt a&&isInt b)=true):av a b=aR (ao a*ao b):=by unfold av;rw[if_pos h]
def rx (h:(isInt a&&isInt b)=false):av a b=none:=by unfold av;rw[h];rfl
def ry (h:(isInt a&&isInt b)=false):bD a b=none:=by unfold bD;rw[h];rfl
def rz (h:(isInt a&&isInt b)=false):eC a b=0:=by unfold eC;rw[h];rfl
def wa (h:(isInt a&&isInt b)=true):bD a b=aR (bv false (Nat.gcd (au (body a)) (au (body b)))):=by
 unfold bD;rw[if_pos h]
 have:Int.gcd (ao a) (ao b)=Nat.gcd (au (body a)) (au (body b)):=by rw[Int.gcd,cZ,cZ]
 rw[this];rfl
def wb (x y:Bool)(a b:Nat):bv (!(x==y)) (a*b)=bv x a*bv y b:=by cases x <;>cases y <;>simp[bv,Int.neg_mul,Int.mul_neg]
def sum_lt (ha:isInt a=true)(hb:isInt b=true){r:Nat}{s:Int}(h:bv ng r=ao a+s)(hs:s=ao b\/s=-ao b):r<10000^51:=by
 have h1:=dz ha
 have H:=dz hb
 have e:(bv ng r).natAbs=r:=fS ng r
 have D:=cZ a
 have E:=cZ b
 have:(10000:Nat)^51=10000^50*10000:=by rw[<-Nat.pow_succ]
 generalize (10000:Nat)^50=M at *
 omega
def o4 (h:(isInt a&&isInt b)=true)(ha:neg a=true)(hb:neg b=true):aw ((au (body b):Nat):Int) ((au (body a):Nat):Int)=eC a b:=by
 unfold eC;rw[if_pos h]
 refine oU ?_ ?_ <;>(unfold ao;rw[if_pos ha,if_pos hb];omega)
def o5 (h:(isInt a&&isInt b)=true)(ha:neg a=true)(hb:neg b=false):(-1:Int)=eC a b:=by
 unfold eC;rw[if_pos h,bZ]
 have:=lv (cN (gE h)) (kM (gE h) ha)
 unfold ao;rw[if_pos ha,if_neg (by simp[hb])];omega
def o6 (h:(isInt a&&isInt b)=true)(ha:neg a=false)(hb:neg b=true):(1:Int)=eC a b:=by
 unfold eC;rw[if_pos h,bM]
 have:=lv (cN (ge h)) (kM (ge h) hb)
 have E:ao a=(au (body a):Int):=by unfold ao;rw[if_neg (by simp[ha])]
 have D:ao b=-(au (body b):Int):=by unfold ao;rw[if_pos hb]
 rw[E,D];omega
def o7 (h:(isInt a&&isInt b)=true)(ha:neg a=false)(hb:neg b=false):aw ((au (body a):Nat):Int) ((au (body b):Nat):Int)=eC a b:=by
 unfold eC;rw[if_pos h]
 unfold ao;rw[if_neg (by simp[ha]),if_neg (by simp[hb])]
def lF (o:Option (List UInt8×List UInt8)):Value:=.tuple #[S (rS (o.map (·.1))),S (rS (o.map (·.2))),.int .i64 (if o.isSome then 0 else 30)]
def rA (h:(isInt a&&isInt b)=false):cR a b=none:=by unfold cR;rw[h];rfl
def jU (h:au (body b)=0):cR a b=none:=by
 unfold cR
 by_cases hb:isInt b=true
 · have:b=[48]:=(fw hb).1 (by have:=cZ b;omega)
   simp[this]
 · simp[hb]
def lG (h:(isInt a&&isInt b)=true)(h0:0<au (body b)):cR a b=(aR (ao a/ao b)).map λq=>(q,aa (ao a%ao b)):=by
 have hb:b≠[48]:=by intro e;subst e;exact absurd mo (by have:body [48]=[48]:=rfl;rw[this]at h0;omega)
 unfold cR
 rw[h,decide_eq_true hb];rfl
def s9 (ny:Bool)(x:Int)(b:Nat):x/bv ny b=(if ny then -(x/(b:Int))else x/(b:Int))/\x%bv ny b=x%(b:Int):=by
 cases ny
 · simp[bv]
 · simp[bv,Int.ediv_neg,Int.emod_neg]
def xx {a b:Nat}(hb:0<b)(hc:nx=false\/a%b=0):bv (!(nx==ny)) (a/b)=bv nx a/bv ny b/\((a%b:Nat):Int)=bv nx a%bv ny b:=by
 obtain⟨H,E⟩:=s9 ny (bv nx a) b
 rw[H,E]
 cases nx with
 | false=>
   simp only[bv,Bool.false_eq_true,if_false]
   cases ny <;>simp
 | true=>
   have D:a%b=0:=by rcases hc with h|h;cases h;exact h
   have hd:(b:Int)∣(a:Int):=Int.natCast_dvd_natCast.2 (Nat.dvd_of_mod_eq_zero D)
   simp only[bv,if_true]
   rw[Int.neg_ediv_of_dvd hd,Int.emod_eq_zero_of_dvd (Int.dvd_neg.2 hd),D]
   cases ny <;>simp
def xy {a b:Nat}(hb:0<b)(hr:0<a%b):bv (!(true==ny)) (a/b+1)=bv true a/bv ny b/\((b-a%b:Nat):Int)=bv true a%bv ny b:=by
 obtain⟨E,D⟩:=s9 ny (bv true a) b
 rw[E,D]
 have O:=Nat.mod_lt a hb
 have H:=Nat.div_add_mod a b
 have key:(-(a:Int))/(b:Int)=-((a/b:Nat):Int)-1/\(-(a:Int))%(b:Int)=((b-a%b:Nat):Int):=by
  refine(Int.ediv_emod_unique U).2 ⟨?_,by omega,by omega⟩
  have kk:(a:Int)=(b:Int)*((a/b:Nat):Int)+((a%b:Nat):Int):=by rw[<-Int.natCast_mul,<-Int.natCast_add,H]
  rw[Int.mul_sub,Int.mul_neg]
  omega
 simp only[bv,if_true]
 rw[key.1,key.2]
 cases ny <;>simp <;>omega
def GV {r:Nat}{x:Int}(hr:r<10^200)(h:(r:Int)=x):rS (aR (bv false r))=aa x:=by
 have hf:fits x=true:=by unfold fits;rw[decide_eq_true_eq];omega
 have e:bv false r=x:=h
 rw[e];unfold aR;rw[if_pos hf];rfl
def ji {r:Nat}(hb:isInt b=true)(h:r<=au (body b)):r<10^200:=Nat.lt_of_le_of_lt h (nF (cN hb))
def CM {o:Option (List UInt8)}(h:rE o=0):∃s,o=some s:=by cases o with|none=>simp[rE]at h|some s=>exact⟨s,rfl⟩
def Jh {o:Option (List UInt8)}(h:¬rE o=0):o=none:=by cases o with|none=>rfl|some s=>simp[rE]at h
def eq {r:Nat}(h:(isInt a&&isInt b)=true)(h0:0<au (body b))(hq:bv ng q=ao a/ao b)(hr:(r:Int)=ao a%ao b)(hl:r<=au (body b))(hE:rE (aR (bv ng q))=0):
 Value.tuple #[S (rS (aR (bv ng q))),S (rS (aR (bv false r))),.int .i64 0]=lF (cR a b):=by
 rw[lG h h0,GV (ji (ge h) hl) hr,<-hq]
 obtain⟨s,hs⟩:=CM hE
 rw[hs];rfl
def eu (h:(isInt a&&isInt b)=true)(h0:0<au (body b))(hq:bv ng q=ao a/ao b)(hE:¬rE (aR (bv ng q))=0):
 Value.tuple #[S [],S [],.int .i64 (rE (aR (bv ng q)))]=lF (cR a b):=by
 rw[lG h h0,<-hq,Jh hE];rfl
def wc (ha:isInt a=true)(hb:isInt b=true):au (body a)*au (body b)<10000^100:=by
 have h1:=dz ha
 have D:=dz hb
 have:(10000:Nat)^100=10000^50*10000^50:=by rw[<-Nat.pow_add]
 rw[this]
 exact Nat.mul_lt_mul'' h1 D
def rB (lo:Nat)(ng:Bool)(a:Nat)(v:Value)(w:World):Prop:=∃A n c,v=.agg #[.bool ng,.slice A n c]/\dm w lo A n c a
def rB.ext {a:Nat}{v:Value}(k:a8 w w')(h:rB lo ng a v w):rB lo ng a v w':=by
 obtain⟨A,n,c,hv,D⟩:=h
 exact⟨A,n,c,hv,D.ext k⟩
def rC (a b:List UInt8)(w:World)(ht:Tb w):
 CL 63 #[S a,S b] w (aH w λv w'=>v=eE (pJ a b)):=by
 by_cases kk:(isInt a&&isInt b)=true;have kd:=gE kk;have hb:=ge kk;refine aC func63 Z (I ?_);refine cl iI (jh _ _ _ kd hb) ?_;rintro _ _ E1 ⟨A1,E7,c1,A2,n2,c2,rfl,h1,E⟩;have D:=E1.2;have E9:=bW h1 (dz kd);have EW:=bW E (dz hb);have Aw:=h1.hi;have Ax:=E.hi;refine I ?_;refine al bo (λ_ Am Ab=>?_);have h1:=aa1 Am.2 h1;have E:=aa1 Am.2 E;have D:=xt D Am.2;refine al bo (λ_ Ad Ar=>?_);have h1:=aa1 Ad.2 h1;have E:=aa1 Ad.2 E;have⟨Ab,D⟩:=bn Ad.2 Ab D;refine SA Ab (λ_ Af Av=>?_);have h1:=aa7 Af (λO e=>by have:=Aw O e;omega) h1;have E:=aa7 Af (λO e=>by have:=Ax O e;omega) E;have⟨Ar,D,_⟩:=dE Af Ar D;refine SA Ar (λ_ Ap _=>?_);have h1:=aa7 Ap (λO e=>by have:=Aw O e;omega) h1;have E:=aa7 Ap (λO e=>by have:=Ax O e;omega) E;have⟨Av,D,_⟩:=dE Ap Av D;refine I ?_;refine clb Ez (hc:=s5 h1 U E U) (hk:=?_);rintro _ _ D1 ⟨ng,r,A,n,c,rfl,hr,hs⟩;have D:=xt D D1.2;rw[ig,ig]at hs;have Ix:=bW hr (sum_lt kd hb hs (by exact Or.inl Z));refine clb jF (hc:=eh hr U (ht.ext D)) (hk:=?_);rintro _ _ D2 rfl;have D:=xt D D2.2;refine I ?_
 exact aW (t:=4) (u:=5) (v1:=S (rS (aR (bv ng r)))) (v2:=.int .i64 (rE (aR (bv ng r)))) Z D (by rw[nJ kk];exact qb1 (λx=>eE (aR x)) hs) Z Z;have kk:=mt kk;refine aC func63 Z (I ?_);refine cl iI (ke _ _ _ kk) ?_;rintro _ _ wr rfl;have H:=wr.2;refine I ?_;refine al bo (λ_ Ay Ao=>?_);have H:=xt H Ay.2;refine al bo (λ_ B1 Aq=>?_);have⟨Ao,H⟩:=bn B1.2 Ao H;refine SA Ao (λ_ B2 As=>?_);have⟨Aq,H,_⟩:=dE B2 Aq H;refine SA Aq (λ_ E4 _=>?_);have⟨As,H,_⟩:=dE E4 As H;refine I ?_;exact aW (t:=4) (u:=5) (v1:=S []) (v2:=.int .i64 30) Z H (by rw[ru kk];rfl) Z Z
def nK (a b:List UInt8)(w:World)(ht:Tb w):
 CL 61 #[S a,S b] w (aH w λv w'=>v=eE (aN a b)):=by
 by_cases kk:(isInt a&&isInt b)=true;have Ab:=gE kk;have hb:=ge kk;refine aC func61 Z (I ?_);refine cl iI (jh _ _ _ Ab hb) ?_;rintro _ _ wr ⟨A1,E9,c1,A2,n2,c2,rfl,h1,E⟩;have D:=wr.2;have EW:=bW h1 (dz Ab);have Ix:=bW E (dz hb);have Ar:=h1.hi;have Aw:=E.hi;refine I ?_;refine al bo (λ_ Ax Ap=>?_);have h1:=aa1 Ax.2 h1;have E:=aa1 Ax.2 E;have D:=xt D Ax.2;refine al bo (λ_ Ad As=>?_);have h1:=aa1 Ad.2 h1;have E:=aa1 Ad.2 E;have⟨Ap,D⟩:=bn Ad.2 Ap D;refine SA Ap (λ_ Aq kd=>?_);have h1:=aa7 Aq (λH e=>by have:=Ar H e;omega) h1;have E:=aa7 Aq (λH e=>by have:=Aw H e;omega) E;have⟨As,D,_⟩:=dE Aq As D;refine SA As (λ_ Af D1=>?_);have h1:=aa7 Af (λH e=>by have:=Ar H e;omega) h1;have E:=aa7 Af (λH e=>by have:=Aw H e;omega) E;have⟨kd,D,_⟩:=dE Af kd D;refine I ?_;refine SO D1 (λ_ Ao _=>?_);have h1:=aa7 Ao (λH e=>by have:=Ar H e;omega) h1;have E:=aa7 Ao (λH e=>by have:=Aw H e;omega) E;have⟨kd,D,_⟩:=dE Ao kd D;refine I ?_;refine clb Ez (hc:=s5 h1 U E U) (hk:=?_);rintro _ _ E1 ⟨ng,r,A,n,c,rfl,hr,hs⟩;have D:=xt D E1.2;rw[ig,v8,ig]at hs;have Jx:=bW hr (sum_lt Ab hb hs (by exact Or.inr Z))
 refine clb jF (hc:=eh hr U (ht.ext D)) (hk:=?_);rintro _ _ D2 rfl;have D:=xt D D2.2;refine I ?_;exact aW (t:=4) (u:=5) (v1:=S (rS (aR (bv ng r)))) (v2:=.int .i64 (rE (aR (bv ng r)))) Z D (by rw[lE kk];rw[show ao a-ao b=ao a+-ao b from rfl];exact qb1 (λx=>eE (aR x)) hs) Z Z;have kk:=mt kk;refine aC func61 Z (I ?_);refine cl iI (ke _ _ _ kk) ?_;rintro _ _ B2 rfl;have O:=B2.2;refine I ?_;refine al bo (λ_ B1 Am=>?_);have O:=xt O B1.2;refine al bo (λ_ E7 Av=>?_);have⟨Am,O⟩:=bn E7.2 Am O;refine SA Am (λ_ od Ay=>?_);have⟨Av,O,_⟩:=dE od Av O;refine SA Av (λ_ E4 _=>?_);have⟨Ay,O,_⟩:=dE E4 Ay O;refine I ?_;exact aW (t:=4) (u:=5) (v1:=S []) (v2:=.int .i64 30) Z O (by rw[rv kk];rfl) Z Z
def wd (a b:List UInt8)(w:World)(ht:Tb w):
 CL 58 #[S a,S b] w (aH w λv w'=>v=eE (av a b)):=by
 by_cases kk:(isInt a&&isInt b)=true;have Ad:=gE kk;have hb:=ge kk;refine aC func58 Z (I ?_);refine cl iI (jh _ _ _ Ad hb) ?_;rintro _ _ Jx ⟨A1,M6,c1,A2,n2,c2,rfl,h1,D⟩;have E:=Jx.2;have M7:=bW h1 (dz Ad);have M9:=bW D (dz hb);have B2:=h1.hi;have D1:=D.hi;refine I ?_;refine al bo (λ_ Af Ap=>?_);have h1:=aa1 Af.2 h1;have D:=aa1 Af.2 D;have E:=xt E Af.2;refine al bo (λ_ Av Ao=>?_);have h1:=aa1 Av.2 h1;have D:=aa1 Av.2 D;have⟨Ap,E⟩:=bn Av.2 Ap E;refine SA Ap (λ_ As Ay=>?_);have h1:=aa7 As (λO e=>by have:=B2 O e;omega) h1;have D:=aa7 As (λO e=>by have:=D1 O e;omega) D;have⟨Ao,E,_⟩:=dE As Ao E;refine SA Ao (λM5 Am _=>?_);have h1:=aa7 Am (λO e=>by have:=B2 O e;omega) h1;have D:=aa7 Am (λO e=>by have:=D1 O e;omega) D;have⟨Ay,E,_⟩:=dE Am Ay E;refine I ?_;obtain⟨L,_⟩:∃L,L=M5.heap.size:=⟨_,rfl⟩;have M8:=wc Ad hb;refine bB 14 ?_;refine sf ?_;refine bj (λ_ _ _ _=>by refine ab (i6 (a:=neg a) (b:=neg b) (q:=(!((neg a)==(neg b)))) U4 Z Z Z ?_);refine I ?_;exact bY) ?_;refine sf ?_;refine da (λv w=>df L (au (body a)*au (body b)) v w) (hs:=λ_ _ _ k h=>h.ext k) (λ_ _ Aq _=>?_) ?_;have h1:=aa1 Aq h1;have D:=aa1 Aq D
 refine clb II (hc:=zh h1 U D U) (hk:=?_);rintro _ _ D2 ⟨Ar,Ab,kd,rfl,hr⟩;have M2:=D2.2;have hr:=hr.mono (lo':=L) (by have:=bz Aq;omega);refine I ?_;exact fs ⟨M2,⟨Ar,Ab,kd,rfl,hr⟩⟩;refine da (λv w=>rB L (!(neg a==neg b)) (au (body a)*au (body b)) v w) (hs:=λ_ _ _ k h=>h.ext k) (λ_ _ _ M1=>?_) ?_;obtain⟨Ar,Ab,kd,E1,hr⟩:=(M1 9 27 Z Z);refine ab (aS (vs:=[(0,.bool (!((neg a)==(neg b)))),(1,.slice Ar Ab kd)]) (cells:=#[.bool (!((neg a)==(neg b))),.slice Ar Ab kd]) (pl:=[(0,1),(1,1)]) iH bo q0 (db Z (db E1 Z)) q0 ?_);refine I ?_;exact fs ⟨aa4 _,⟨Ar,Ab,kd,rfl,hr⟩⟩;refine ay (V:=.tuple #[S (rS (aR (bv (!(neg a==neg b)) (au (body a)*au (body b))))),.int .i64 (rE (aR (bv (!(neg a==neg b)) (au (body a)*au (body b)))))]) (λ_ _ M3 L2=>?_) ?_;obtain⟨_,_,_,E7,hq⟩:=(L2 10 28 Z Z);have MA:=bW hq (wc Ad hb);refine clb jF (hc:=eh hq U (ht.ext (xt E M3))) (hk:=?_) (hv:=aA E7 Z);rintro _ _ E9 rfl;have EW:=E9.2;refine I ?_;exact fs ⟨EW,rfl⟩;refine sf ?_;intro _ _ Ix _;have E:=xt E Ix.2;refine I ?_
 exact aW (t:=4) (u:=5) (v1:=S (rS (aR (bv (!(neg a==neg b)) (au (body a)*au (body b)))))) (v2:=.int .i64 (rE (aR (bv (!(neg a==neg b)) (au (body a)*au (body b)))))) Z E (by rw[fA kk,<-ig,<-ig,<-wb];rfl) Z Z;have kk:=mt kk;refine aC func58 Z (I ?_);refine cl iI (ke _ _ _ kk) ?_;rintro _ _ K2 rfl;have H:=K2.2;refine I ?_;refine al bo (λ_ E4 Ax=>?_);have H:=xt H E4.2;refine al bo (λ_ M4 Aw=>?_);have⟨Ax,H⟩:=bn M4.2 Ax H;refine SA Ax (λ_ Kp B1=>?_);have⟨Aw,H,_⟩:=dE Kp Aw H;refine SA Aw (λ_ M0 _=>?_);have⟨B1,H,_⟩:=dE M0 B1 H;refine I ?_;exact aW (t:=4) (u:=5) (v1:=S []) (v2:=.int .i64 30) Z H (by rw[rx kk];rfl) Z Z
def lH (a b:List UInt8)(w:World):
 CL 21 #[S a,S b] w (aH w λv w'=>v=.int .i64 (eC a b)):=by
 by_cases D:(isInt a&&isInt b)=true;have Ar:=gE D;have hb:=ge D;refine aC func21 Z (I ?_);refine cl iI (jh _ _ _ Ar hb) ?_;rintro _ _ B1 ⟨A1,E7,c1,A2,n2,c2,rfl,h1,H⟩;have E:=B1.2;have E9:=bW h1 (dz Ar);have EW:=bW H (dz hb);have Aw:=h1.hi;have Ax:=H.hi;refine I ?_;refine al bo (λ_ Am Ap=>?_);have h1:=aa1 Am.2 h1;have H:=aa1 Am.2 H;have E:=xt E Am.2;refine al bo (λ_ Aq Ad=>?_);have h1:=aa1 Aq.2 h1;have H:=aa1 Aq.2 H;have⟨Ap,E⟩:=bn Aq.2 Ap E;refine SA Ap (λ_ Af As=>?_);have h1:=aa7 Af (λkk e=>by have:=Aw kk e;omega) h1;have H:=aa7 Af (λkk e=>by have:=Ax kk e;omega) H;have⟨Ad,E,_⟩:=dE Af Ad E;refine SA Ad (λ_ kd _=>?_);have h1:=aa7 kd (λkk e=>by have:=Aw kk e;omega) h1;have H:=aa7 kd (λkk e=>by have:=Ax kk e;omega) H;have⟨As,E,_⟩:=dE kd As E;refine I ?_;rcases qa4 (neg a)with cx|cx;refine I ?_;rcases qa4 (neg b)with nv|nv;refine I ?_;refine clb sx (hc:=g5 H U h1) (hk:=?_);rintro _ _ E1 rfl;have E:=xt E E1.2;refine I ?_;exact an (t:=4) (v:=.int .i64 (aw ((au (body b):Nat):Int) ((au (body a):Nat):Int))) Z E (qb1 (Value.int .i64) Vt) Z
 refine I ?_;exact an (t:=4) (v:=.int .i64 (-1)) Z E (qb1 (Value.int .i64) Vt) rfl;refine I ?_;rcases qa4 (neg b)with od|od;refine I ?_;exact an (t:=4) (v:=.int .i64 1) Z E (qb1 (Value.int .i64) Vt) rfl;refine I ?_;refine clb sx (hc:=g5 h1 U H) (hk:=?_);rintro _ _ Ay rfl;have E:=xt E Ay.2;refine I ?_;exact an (t:=4) (v:=.int .i64 (aw ((au (body a):Nat):Int) ((au (body b):Nat):Int))) Z E (qb1 (Value.int .i64) Vt) rfl;have D:=mt D;refine aC func21 Z (I ?_);refine cl iI (ke _ _ _ D) ?_;rintro _ _ B2 rfl;have O:=B2.2;refine I ?_;refine al bo (λ_ D1 Ao=>?_);have O:=xt O D1.2;refine al bo (λ_ Av Ab=>?_);have Ao:=be Av.2 Ao;have O:=xt O Av.2
 refine SA Ao (λ_ D2 wr=>?_);have⟨Ab,O,_⟩:=dE D2 Ab O;refine SA Ab (λ_ E4 _=>?_);have⟨wr,O,_⟩:=dE E4 wr O;refine I ?_;exact an (t:=4) (v:=.int .i64 0) Z O (by rw[rz D]) Z
def ii (h:p:=by kernel_rfl):p:=h
def di (h:p:=by assumption):p:=h
def CN (h:Rw w lo A [Value.int .i64 1]):dm w lo A 1 1 1:=by
 have e:aj 10000 1=[1]:=by decide
 exact⟨by rw[e];exact h,by rw[e];rfl,qa0 _⟩
def Kw (h0:0<au (body b))(hc:neg a=false\/au (body a)%au (body b)=0):bv (!(neg a==neg b)) (au (body a)/au (body b))=ao a/ao b/\((au (body a)%au (body b):Nat):Int)=ao a%ao b:=
 xx h0 hc
def Md (h0:0<au (body b))(ha:neg a=true)(hr:0<au (body a)%au (body b)):bv (!(neg a==neg b)) (au (body a)/au (body b)+1)=ao a/ao b/\((au (body b)-au (body a)%au (body b):Nat):Int)=ao a%ao b:=by
 have:=xy (ny:=neg b) h0 hr
 rw[<-ha]at this
 exact this
def ta {a b:Nat}(h:a<10000^50):a/b<10000^50:=Nat.lt_of_le_of_lt (Nat.div_le_self a b) h
def xz {a:Nat}(h:a<10000^50):a+1<10000^51:=by
 have:(10000:Nat)^51=10000^50*10000:=by rw[<-Nat.pow_succ]
 generalize (10000:Nat)^50=M at *
 omega
def tc (h:Nat.gcd x y=G):Nat.gcd y (x%y)=G:=by rw[Nat.gcd_comm,<-Nat.gcd_rec,Nat.gcd_comm];exact h
def GW :
 CL 115 #[] w (aH w λv w'=>∃A n c,v=.slice A n c/\dm w' w.heap.size A n c 1):=by
 refine aC func115 Z (I ?_);refine BS (λ_ D _ H=>?_);have E:=D;have O:=bz D;refine I ?_;exact an (t:=0) (v:=.slice (some ⟨w.heap.size,0,none⟩) 1 1) Z E ⟨_,_,_,rfl,CN (aa3 H)⟩ Z
def kf (a b:List UInt8)(w:World)(ht:Tb w):
 CL 62 #[S a,S b] w (aH w λv w'=>v=lF (cR a b)):=by
 by_cases O:(isInt a&&isInt b)=true;have Ax:=gE O;have hb:=ge O;refine aC func62 Z (I ?_);refine cl iI (jh _ _ _ Ax hb) ?_;rintro _ _ MV ⟨A1,N0,c1,A2,n2,c2,rfl,h1,kk⟩;have D:=MV.2;have MX:=bW h1 (dz Ax);have MZ:=bW kk (dz hb);have M9:=h1.hi;have M3:=kk.hi;refine I ?_;refine al bo (λ_ E4 EW=>?_);have h1:=aa1 E4.2 h1;have kk:=aa1 E4.2 kk;have D:=xt D E4.2;refine al bo (λ_ E7 K2=>?_);have h1:=aa1 E7.2 h1;have kk:=aa1 E7.2 kk;have⟨EW,D⟩:=bn E7.2 EW D;refine SA EW (λ_ D2 As=>?_);have h1:=aa7 D2 (λAd e=>by have:=M9 Ad e;omega) h1;have kk:=aa7 D2 (λAd e=>by have:=M3 Ad e;omega) kk;have⟨K2,D,_⟩:=dE D2 K2 D;refine SA K2 (λ_ E1 Ay=>?_);have h1:=aa7 E1 (λAd e=>by have:=M9 Ad e;omega) h1;have kk:=aa7 E1 (λAd e=>by have:=M3 Ad e;omega) kk;have⟨As,D,_⟩:=dE E1 As D;refine I ?_;by_cases aoy:(n2:Int)=0;have E:au (body b)=0:=gI (B:=10000) U (kk.len.trans U);refine I ?_;exact k4 (t:=4) (u:=5) (s:=6) (v1:=S []) (v2:=S []) (v3:=.int .i64 30) Z D Vj Z Z Z;have E:0<au (body b):=jS (B:=10000) U (by rw[kk.len];omega);refine I ?_
 refine clb vt (hc:=nD h1 U kk U E) (hk:=?_);rintro _ MQ M2 ⟨Aq,N3,N4,Ar,Af,Aw,rfl,hq,hr⟩;have kk:=aa1 M2.2 kk;have⟨As,Ay,D⟩:=aP M2.2 As Ay D;have ML:=bW hq (ta (dz Ax));have Mz:=bW hr (Nat.lt_trans (Nat.mod_lt _ E) (dz hb));refine I ?_;rcases qa4 (neg a)with ly|ly;refine I ?_;by_cases aoz:0<(Af:Int);have D1:0<au (body a)%au (body b):=jS (B:=10000) U (by rw[hr.len];omega);have H:=Md E ly D1;have kd:au (body b)-au (body a)%au (body b)<=au (body b):=Nat.sub_le _ _;refine I ?_;obtain⟨L,_⟩:∃L,L=MQ.heap.size:=⟨_,rfl⟩;have M6:au (body a)%au (body b)<=au (body b):=Nat.le_of_lt (Nat.mod_lt _ E);have MW:Af<=n2:=by rw[<-hr.len,<-kk.len];exact dx U M6
 have l1':=ML;refine bB 7 ?_;refine sf ?_;refine da (λv w=>df L 1 v w) (hs:=λ_ _ _ k h=>h.ext k) (λ_ _ MK _=>?_) ?_;refine cl Iy GW ?_;rintro _ _ MG ⟨A1c,M5,M7,rfl,Ao⟩;have MS:=MG.2;have Ao:=Ao.mono (lo':=L) (by have:=bz MK;omega);refine I ?_;exact fs ⟨MS,⟨A1c,M5,M7,rfl,Ao⟩⟩;refine da (λv w=>df L (au (body a)/au (body b)+1) v w) (hs:=λ_ _ _ k h=>h.ext k) (λ_ _ M0 MJ=>?_) ?_;obtain⟨A1c,M5,M7,MI,Ao⟩:=(MJ 1 47 Z Z);have N1:=bW (k:=1) Ao dc;have hq:=aa1 M0 hq;refine clb sw (hc:=ln hq U Ao U) (hk:=?_) (hv:=aA Z (aA MI Z));rintro _ _ od ⟨Ap,MA,M1,rfl,Av⟩;have MU:=od.2;have Av:=Av.mono (lo':=L) (by have:=bz M0;omega);refine I ?_;exact fs ⟨MU,⟨Ap,MA,M1,rfl,Av⟩⟩;refine sf ?_;refine da (λv w=>df L (au (body b)-au (body a)%au (body b)) v w) (hs:=λ_ _ _ k h=>h.ext k) (λ_ _ E9 _=>?_) ?_;have kk:=aa1 E9 kk;have hr:=aa1 E9 hr;refine clb vu (hc:=lu kk U hr U M6 MW) (hk:=?_);rintro _ _ MR ⟨Am,B1,B2,rfl,hm⟩;have ME:=MR.2;have hm:=hm.mono (lo':=L) (by have:=bz E9;omega);refine I ?_;exact fs ⟨ME,⟨Am,B1,B2,rfl,hm⟩⟩;refine sf ?_;intro _ _ wr M8;have⟨As,Ay,D⟩:=aP wr.2 As Ay D;obtain⟨Ap,MA,M1,_,Av⟩:=(M8 2 48 Z Z);obtain⟨Am,B1,B2,_,hm⟩:=(M8 6 52 Z Z);refine I ?_
 have My:=bW Av (xz (ta (dz Ax)));have MY:=bW hm (Nat.lt_of_le_of_lt (Nat.sub_le _ _) (dz hb));refine I ?_;refine ab (i6 (a:=neg a) (b:=neg b) (q:=(!((neg a)==(neg b)))) U4 Z Z Z ?_);refine I ?_;refine clb jF (hc:=eh Av U (ht.ext D)) (hk:=?_);rintro _ _ MB rfl;have hm:=aa1 MB.2 hm;have D:=xt D MB.2;refine I ?_;by_cases ao1:(rE (aR (bv (!((neg a)==(neg b))) (au (body a)/au (body b)+1))))=0;refine I ?_;refine ab (aS (vs:=[(1,.slice Am B1 B2)]) (cells:=#[.bool false,.slice Am B1 B2]) (pl:=[(0,1),(1,1)]) iH bo ii Z ii ?_);refine clb jF (hc:=eh hm U (ht.ext D)) (hk:=?_);rintro _ _ MO rfl;have D:=xt D MO.2;refine I ?_;exact k4 (t:=4) (u:=5) (s:=6) (v1:=S (rS (aR (bv (!((neg a)==(neg b))) (au (body a)/au (body b)+1))))) (v2:=S (rS (aR (bv false (au (body b)-au (body a)%au (body b)))))) (v3:=.int .i64 0) Z D Vj Z Z Z;refine I ?_
 exact k4 (t:=4) (u:=5) (s:=6) (v1:=S []) (v2:=S []) (v3:=.int .i64 (rE (aR (bv (!((neg a)==(neg b))) (au (body a)/au (body b)+1))))) Z D Vj Z Z Z;have D1:au (body a)%au (body b)=0:=gI (B:=10000) U (hr.len.trans U);have H:=Kw (a:=a) E (Or.inr D1);have kd:au (body a)%au (body b)<=au (body b):=Nat.le_of_lt (Nat.mod_lt _ E);refine I ?_;refine ab (i6 (a:=neg a) (b:=neg b) (q:=(!((neg a)==(neg b)))) U4 Z Z Z ?_);refine I ?_;refine clb jF (hc:=eh hq U (ht.ext D)) (hk:=?_);rintro _ _ Kp rfl;have hr:=aa1 Kp.2 hr;have D:=xt D Kp.2;refine I ?_;by_cases ao2:(rE (aR (bv (!((neg a)==(neg b))) (au (body a)/au (body b)))))=0;refine I ?_;refine ab (aS (vs:=[(1,.slice Ar Af Aw)]) (cells:=#[.bool false,.slice Ar Af Aw]) (pl:=[(0,1),(1,1)]) iH bo ii Z ii ?_);refine clb jF (hc:=eh hr U (ht.ext D)) (hk:=?_);rintro _ _ MN rfl;have D:=xt D MN.2;refine I ?_
 exact k4 (t:=4) (u:=5) (s:=6) (v1:=S (rS (aR (bv (!((neg a)==(neg b))) (au (body a)/au (body b)))))) (v2:=S (rS (aR (bv false (au (body a)%au (body b)))))) (v3:=.int .i64 0) Z D Vj Z Z Z;refine I ?_;exact k4 (t:=4) (u:=5) (s:=6) (v1:=S []) (v2:=S []) (v3:=.int .i64 (rE (aR (bv (!((neg a)==(neg b))) (au (body a)/au (body b)))))) Z D Vj Z Z Z;have H:=Kw E (Or.inl ly);have kd:au (body a)%au (body b)<=au (body b):=Nat.le_of_lt (Nat.mod_lt _ E);refine I ?_;refine ab (i6 (a:=neg a) (b:=neg b) (q:=(!((neg a)==(neg b)))) U4 Z Z Z ?_);refine I ?_;refine clb jF (hc:=eh hq U (ht.ext D)) (hk:=?_);rintro _ _ L2 rfl;have hr:=aa1 L2.2 hr;have D:=xt D L2.2;refine I ?_;by_cases ao3:(rE (aR (bv (!((neg a)==(neg b))) (au (body a)/au (body b)))))=0;refine I ?_;refine ab (aS (vs:=[(1,.slice Ar Af Aw)]) (cells:=#[.bool false,.slice Ar Af Aw]) (pl:=[(0,1),(1,1)]) iH bo ii Z ii ?_);refine clb jF (hc:=eh hr U (ht.ext D)) (hk:=?_);rintro _ _ MM rfl;have D:=xt D MM.2;refine I ?_
 exact k4 (t:=4) (u:=5) (s:=6) (v1:=S (rS (aR (bv (!((neg a)==(neg b))) (au (body a)/au (body b)))))) (v2:=S (rS (aR (bv false (au (body a)%au (body b)))))) (v3:=.int .i64 0) Z D Vj Z Z Z;refine I ?_;exact k4 (t:=4) (u:=5) (s:=6) (v1:=S []) (v2:=S []) (v3:=.int .i64 (rE (aR (bv (!((neg a)==(neg b))) (au (body a)/au (body b)))))) Z D Vj Z Z Z;have O:=mt O;refine aC func62 Z (I ?_);refine cl iI (ke _ _ _ O) ?_;rintro _ _ MC rfl;have Ab:=MC.2;refine I ?_;refine al bo (λ_ MF Jx=>?_);have Ab:=xt Ab MF.2;refine al bo (λ_ MH Ix=>?_);have⟨Jx,Ab⟩:=bn MH.2 Jx Ab;refine SA Jx (λ_ MP M4=>?_);have⟨Ix,Ab,_⟩:=dE MP Ix Ab;refine SA Ix (λ_ MD _=>?_);have⟨M4,Ab,_⟩:=dE MD M4 Ab;refine I ?_;exact k4 (t:=4) (u:=5) (s:=6) (v1:=S []) (v2:=S []) (v3:=.int .i64 30) Z Ab (by rw[rA O];rfl) Z Z Z
def rF (a b:List UInt8)(w:World)(ht:Tb w):
 CL 105 #[S a,S b] w (aH w λv w'=>v=eE (bD a b)):=by
 by_cases Ad:(isInt a&&isInt b)=true;have E7:=gE Ad;have hb:=ge Ad;refine aC func105 Z (I ?_);refine cl iI (jh _ _ _ E7 hb) ?_;rintro _ M6 MA ⟨A1,E9,c1,A2,n2,c2,rfl,h1,D⟩;have E:=MA.2;have Kp:=bW h1 (dz E7);have M1:=bW D (dz hb);have Ix:=h1.hi;have Jx:=D.hi;refine I ?_;refine al bo (λM0 Ap Aw=>?_);have h1:=aa1 Ap.2 h1;have D:=aa1 Ap.2 D;have E:=xt E Ap.2;refine al bo (λ_ B1 Av=>?_);have h1:=aa1 B1.2 h1;have D:=aa1 B1.2 D;have⟨Aw,E⟩:=bn B1.2 Aw E;refine SA Aw (λ_ As H=>?_);have h1:=aa7 As (λkd e=>by have:=Ix kd e;omega) h1;have D:=aa7 As (λkd e=>by have:=Jx kd e;omega) D;have⟨Av,E,_⟩:=dE As Av E;refine SA Av (λ_ E1 Ab=>?_);have h1:=aa7 E1 (λkd e=>by have:=Ix kd e;omega) h1;have D:=aa7 E1 (λkd e=>by have:=Jx kd e;omega) D;have⟨H,E,_⟩:=dE E1 H E;refine I ?_;refine bB 5 ?_;refine sf ?_;intro _ _ B2 _;have h1:=aa1 B2.2 h1;have D:=aa1 B2.2 D;have⟨H,Ab,E⟩:=aP B2.2 H Ab E;refine I ?_
 refine cM [(9,12),(26,36)] (λL2 e W=>∃Ax:Option Addr,∃nx:Nat,∃Af:Nat,∃x:Nat,∃Ay:Option Addr,∃ny:Nat,∃Ao:Nat,∃y:Nat,(y=L2)/\(e 9=.slice Ax nx Af)/\(e 10=.slice Ay ny Ao)/\(nx<=50)/\(ny<=50)/\(Nat.gcd x y=Nat.gcd (au (body a)) (au (body b)))/\(a8 w W)/\(ae W M6.heap.size 78 #[.bool (neg a),.slice A1 E9 c1])/\(ae W M0.heap.size 78 #[.bool (neg b),.slice A2 n2 c2])/\(dm W w.heap.size Ax nx Af x)/\(dm W w.heap.size Ay ny Ao y)) (au (body b)) ⟨A1,E9,c1,au (body a),A2,n2,c2,au (body b),rfl,rfl,rfl,Kp,M1,rfl,E,H,Ab,h1,D⟩ ?_;rintro _ _ _ ⟨Ax,nx,Af,x,Ay,ny,Ao,y,rfl,MG,MC,MB,M2,q3,kk,H,Ab,hx,hy⟩;have MD:=bz kk;by_cases hm:0<ny;have Am:0<y:=jS (B:=10000) U (by rw[hy.len];omega);refine I ?_;refine clb vt (hc:=nD hx U hy U Am) (hk:=?_);rintro _ _ D2 ⟨Aq,MF,ME,Ar,M7,K2,rfl,hq,hr⟩;have⟨H,Ab⟩:=iZ D2.2 H Ab;have hy:=aa1 D2.2 hy;have kk:=xt kk D2.2;refine I ?_;exact bQ (hk:=by exact Nat.mod_lt _ Am) ⟨Ay,ny,Ao,y,Ar,M7,K2,x%y,rfl,rfl,rfl,U,(by rw[<-hr.len];exact qa8 (dx U (Nat.le_of_lt (Nat.mod_lt _ Am))) (by rw[hy.len];exact M2)),(tc q3),kk,H,Ab,hy,(hr.mono U)⟩;have Am:y=0:=gI (B:=10000) U (hy.len.trans U);rw[Am,Nat.gcd_zero_right]at q3;refine I ?_
 refine ab (aS (vs:=[(1,.slice Ax nx Af)]) (cells:=#[.bool false,.slice Ax nx Af]) (pl:=[(0,1),(1,1)]) iH bo ii Z ii ?_);refine clb jF (hc:=eh hx U (ht.ext kk)) (hk:=?_);rintro _ _ od rfl;have kk:=xt kk od.2;refine I ?_;exact aW (t:=4) (u:=5) (v1:=S (rS (aR (bv false x)))) (v2:=.int .i64 (rE (aR (bv false x)))) Z kk (by rw[wa Ad,<-q3];rfl) Z Z;have Ad:=mt Ad;refine aC func105 Z (I ?_);refine cl iI (ke _ _ _ Ad) ?_;rintro _ _ M9 rfl;have O:=M9.2;refine I ?_;refine al bo (λ_ M5 E4=>?_);have O:=xt O M5.2;refine al bo (λ_ M8 D1=>?_);have⟨E4,O⟩:=bn M8.2 E4 O;refine SA E4 (λ_ M3 EW=>?_);have⟨D1,O,_⟩:=dE M3 D1 O;refine SA D1 (λ_ M4 _=>?_);have⟨EW,O,_⟩:=dE M4 EW O;refine I ?_;exact aW (t:=4) (u:=5) (v1:=S []) (v2:=.int .i64 30) Z O (by rw[ry Ad];rfl) Z Z
end Go.Proofs.YtgcfffdpcefifaaGreatDoor
namespace Go.Eng
abbrev R:=List UInt8×List UInt8
def ew (a:R):Bool:=isInt a.1&&isInt a.2&& !decide (eC a.2 [48]<=0)&&decide (bD a.1 a.2=some [49])
def cE (n d:Int):Int:=(if d<0 then -n else n)/((Int.gcd n d:Nat):Int)
def bI (n d:Int):Int:=(if d<0 then -d else d)/((Int.gcd n d:Nat):Int)
def jq (n d:Int):Option R:=if d=0 then none else some (aa (cE n d),aa (bI n d))
def mU (n d:Int):Option R:=if fits n&&fits d then jq n d else none
def CO (a b:R):Option R:=if ew a&&ew b then mU (ao a.1*ao b.2) (ao a.2*ao b.1)else none
def pL (a b:R):Option R:=if ew a&&ew b then(if fits (ao a.1*ao b.2)&&fits (ao b.1*ao a.2)then mU (ao a.1*ao b.2+ao b.1*ao a.2) (ao a.2*ao b.2)else none)else none
def pM (a b:R):Option R:=if ew a&&ew b then(if fits (ao a.1*ao b.2)&&fits (ao b.1*ao a.2)then mU (ao a.1*ao b.2-ao b.1*ao a.2) (ao a.2*ao b.2)else none)else none
def rN (o:Option R):List UInt8:=(o.map (·.1)).getD []
def rD (o:Option R):List UInt8:=(o.map (·.2)).getD []
def Ji (o:Option R):Int:=if o.isSome then 0 else 40
end Go.Eng
namespace Go.Proofs.YtgcfffdpcefifaaGreatDoor
variable {bad:Bool}{x y s n d:List UInt8}{b g:Nat}{w:World}
set_option maxRecDepth 100000
open Go Go.Eng Go.RowKit Tryz
attribute [local irreducible] wpListIn Code.wpIn Oper.wpIn Exit.then Exit.inBlock Exit.noGoto
set_option maxHeartbeats 40000000
def ac {p:Prop}(h:p:=by assumption):p:=h
def iy (h:isInt x=false):Value.bool false=.bool (ew (x,y)):=by simp[ew,h]
def iz (h:isInt y=false):Value.bool false=.bool (ew (x,y)):=by simp[ew,h]
def iA (h:eC y [48]<=0):Value.bool false=.bool (ew (x,y)):=by simp[ew,h]
def zA {o:Option (List UInt8)}:(rE o=0/\rS o=s)↔o=some s:=by
 cases o with
 |none=>simp[rE]
 |some t=>simp[rE,rS]
def iB (h1:isInt x=true)(h2:isInt y=true)(h3:¬eC y [48]<=0)(h4:rE (bD x y)=0):Value.bool (decide (rS (bD x y)=[49]))=.bool (ew (x,y)):=by
 have:(bD x y=some [49])↔(rS (bD x y)=[49]):=by rw[<-zA];simp[h4]
 simp[ew,h1,h2,h3,this]
def iC (h1:isInt x=true)(h2:isInt y=true)(h3:¬eC y [48]<=0)(h4:¬rE (bD x y)=0):Value.bool false=.bool (ew (x,y)):=by
 have:¬(bD x y=some [49]):=by rw[<-zA];simp[h4]
 simp[ew,this]
def dB (bad:Bool)(o:Option (List UInt8)):Bool:=bad||o.isNone
def dS (bad:Bool)(o:Option (List UInt8)):List UInt8:=if bad then[]else rS o
def Me (g:Nat)(x y:List UInt8)(o:Option (List UInt8)):Prop:=∀W,Tb W->CL g #[S x,S y] W (aH W λv _=>v=eE o)
def Lh (o:Option (List UInt8)):dB false o= !decide (rE o=0):=by cases o <;>rfl
def EM {o:Option (List UInt8)}(h:bad=true):dB bad o=bad:=by subst h;rfl
def EN {o:Option (List UInt8)}(h:bad=false):dB bad o= !decide (rE o=0):=by subst h;exact Lh o
def gg (o:Option R):Value:=.tuple #[.agg #[S (rN o),S (rD o)],.int .i64 (Ji o)]
def td (bad:Bool)(n d:List UInt8):Option R:=
 if dB (dB (dB bad (bD n d)) ((cR n (dS bad (bD n d))).map (·.1))) ((cR d (dS bad (bD n d))).map (·.1))=true then none
 else some (dS (dB bad (bD n d)) ((cR n (dS bad (bD n d))).map (·.1)),dS (dB (dB bad (bD n d)) ((cR n (dS bad (bD n d))).map (·.1))) ((cR d (dS bad (bD n d))).map (·.1)))
def g7 (bad:Bool)(n d:List UInt8):Option R:=
 if bad=true\/d=[48]then none
 else if eC d [48]<0 then td (dB (dB bad (aN [48] n)) (aN [48] d)) (dS bad (aN [48] n)) (dS (dB bad (aN [48] n)) (aN [48] d))
 else td bad n d
def kN (h:bad=true):g7 bad n d=none:=if_pos (Or.inl h)
def kO (h:d=[48]):g7 bad n d=none:=if_pos (Or.inr h)
def fU (h1:bad=false)(h2:¬d=[48])(h3:eC d [48]<0):g7 bad n d=td (dB (dB bad (aN [48] n)) (aN [48] d)) (dS bad (aN [48] n)) (dS (dB bad (aN [48] n)) (aN [48] d)):=by
 unfold g7;rw[if_neg (by rw[h1];simp[h2]),if_pos h3]
def fV (h1:bad=false)(h2:¬d=[48])(h3:¬eC d [48]<0):g7 bad n d=td bad n d:=by
 unfold g7;rw[if_neg (by rw[h1];simp[h2]),if_neg h3]
def gz (h:dB (dB (dB bad (bD n d)) ((cR n (dS bad (bD n d))).map (·.1))) ((cR d (dS bad (bD n d))).map (·.1))=true):td bad n d=none:=if_pos h
def gA (h:dB (dB (dB bad (bD n d)) ((cR n (dS bad (bD n d))).map (·.1))) ((cR d (dS bad (bD n d))).map (·.1))=false):td bad n d=some (dS (dB bad (bD n d)) ((cR n (dS bad (bD n d))).map (·.1)),dS (dB (dB bad (bD n d)) ((cR n (dS bad (bD n d))).map (·.1))) ((cR d (dS bad (bD n d))).map (·.1))):=if_neg (by rw[h];simp)
def dN (x y:List UInt8)(w:World)(ht:Tb w):
 CL 57 #[.agg #[S x,S y]] w (aH w λv w'=>v=.bool (ew (x,y))):=by
 refine aC func57 Z (I ?_);refine bx (λ_ O E=>?_);have D:=O.2;refine I ?_;rcases qa4 (isInt x)with cr|cr;rcases qa4 (isInt y)with cv|cv;refine I ?_;refine cl ow (fR x _) ?_;rintro _ _ kk rfl;have⟨E,D⟩:=bn kk.2 E D;refine I ?_;refine cl ow (fR y _) ?_;rintro _ _ H rfl;have⟨E,D⟩:=bn H.2 E D;refine I ?_;refine cl i8 (lH y [48] _) ?_;rintro _ _ A2 rfl;have⟨E,D⟩:=bn A2.2 E D;refine I ?_;by_cases fy:(eC y [48])<=0;refine I ?_;exact an (t:=2) (v:=.bool false) Z D Vo Z;refine I ?_;refine cl yi (rF x y _ (ht.ext D)) ?_;rintro _ _ kd rfl;have D:=xt D kd.2;refine I ?_;by_cases cw:(rE (bD x y))=0;refine I ?_;refine k0 (b:=[49]) (I ?_);exact an (t:=2) (v:=.bool (decide ((rS (bD x y))=([49])))) Z D Vo Z
 refine I ?_;exact an (t:=2) (v:=.bool false) Z D Vo Z;refine I ?_;refine cl ow (fR x _) ?_;rintro _ _ Ab rfl;have⟨E,D⟩:=bn Ab.2 E D;refine I ?_;refine cl ow (fR y _) ?_;rintro _ _ Ad rfl;have D:=xt D Ad.2;refine I ?_;exact an (t:=2) (v:=.bool false) Z D Vo Z;refine I ?_;refine cl ow (fR x _) ?_;rintro _ _ Af rfl;have D:=xt D Af.2;refine I ?_;exact an (t:=2) (v:=.bool false) Z D Vo Z
def CP (x y:List UInt8)(w:World)(ht:Tb w):
 CL 167 #[S x,S y] w (aH w λv w'=>v=eE ((cR x y).map (·.1))):=by
 refine aC func167 Z (I ?_);refine cl xe (kf x y _ (ht.ext (aa4 _))) ?_;rintro _ _ E rfl;have D:=E.2;refine I ?_;exact aW (t:=4) (u:=5) (v1:=S (rS ((cR x y).map (·.1)))) (v2:=.int .i64 (if(cR x y).isSome then 0 else 30)) Z D (by cases cR x y <;>rfl) Z Z
def mV (hB:ae w b 87 #[.bool bad])(ht:Tb w){o:Option (List UInt8)}(heg:Enters prog g)(hop:Me g x y o):
 CL 117 #[pT b,.func (.func g) #[] #[],S x,S y] w (jv λv w'=>w.grownBy w' (some b)/\ae w' b 87 #[.bool (dB bad o)]/\v=S (dS bad o)):=by
 have G:=World.grownBy.refl w (some b);have kd:=bt hB;refine sJ func117 Z (I ?_);rcases qa4 bad with cm|cm;refine I ?_;refine iv (v:=S []) (cn  rfl ?_) ⟨G,(by first|(rw[EM ac];exact hB)|(rw[EN ac];exact hB)),(by simp[dS, *])⟩;exact aE (t:=8) Ve _;refine I ?_;refine ab (vS (vs:=[S x,S y]) (lb:=[]) heg Z Z (hop _ ht) ?_);rintro _ _ D rfl;have D:=D.2;have hB:=be D hB;have G:=jO G D;have kk:=bz D;refine I ?_;refine SO hB (λ_ E H=>?_);have G:=uC G E;have O:=dX E;refine I ?_;refine iv (v:=S (rS o)) (cn  rfl ?_) ⟨G,(by first|(rw[EM ac];exact H)|(rw[EN ac];exact H)),(by simp[dS, *])⟩;exact aE (t:=8) Ve _
def mu (hB:ae w b 87 #[.bool bad])(ht:Tb w)(x y:List UInt8):
 CL 145 #[pT b,S x,S y] w (jv λv w'=>w.grownBy w' (some b)/\ae w' b 87 #[.bool (dB bad (av x y))]/\v=S (dS bad (av x y))):=by
 have G:=World.grownBy.refl w (some b);have H:=bt hB;refine sJ func145 Z (I ?_);refine ab (bG (vs:=[pT b,.func (.func 58) #[] #[],S x,S y]) mQ Z (mV (o:=av x y) hB ht EA (λW hW=>wd _ _ W hW)) ?_);rintro _ _ ⟨D,E,rfl⟩;have G:=eJ G D;have O:=D.size;refine I ?_;refine iv (v:=S (dS bad (av x y))) (cn  rfl ?_) ⟨G,E,rfl⟩;exact aE (t:=6) Ve _
def nL (hB:ae w b 87 #[.bool bad])(ht:Tb w)(x y:List UInt8):
 CL 118 #[pT b,S x,S y] w (jv λv w'=>w.grownBy w' (some b)/\ae w' b 87 #[.bool (dB bad ((cR x y).map (·.1)))]/\v=S (dS bad ((cR x y).map (·.1)))):=by
 have G:=World.grownBy.refl w (some b);have H:=bt hB;refine sJ func118 Z (I ?_);refine ab (bG (vs:=[pT b,.func (.func 167) #[] #[],S x,S y]) mQ Z (mV (o:=(cR x y).map (·.1)) hB ht IJ (λW hW=>CP _ _ W hW)) ?_);rintro _ _ ⟨D,E,rfl⟩;have G:=eJ G D;have O:=D.size;refine I ?_;refine iv (v:=S (dS bad ((cR x y).map (·.1)))) (cn  rfl ?_) ⟨G,E,rfl⟩;exact aE (t:=6) Ve _
def uN (hB:ae w b 87 #[.bool bad])(ht:Tb w)(x y:List UInt8):
 CL 65 #[pT b,S x,S y] w (jv λv w'=>w.grownBy w' (some b)/\(∃q,ae w' b 87 #[.bool q])/\v=gg (g7 bad x y)):=by
 have G:=World.grownBy.refl w (some b);have MD:=bt hB;refine sJ func65 Z (I ?_);refine al bi (λ_ B1 D=>?_);have hB:=be B1.2 hB;have ht:=aa6 B1.2 ht;have G:=jO G B1.2;refine I ?_;rcases qa4 bad with cv|cv;refine I ?_;refine SA D (λ_ As Jx=>?_);have hB:=pb As hB;have G:=gG G As U;have MB:=dX As;refine I ?_;refine iv (v:=.tuple #[.agg #[S [],S []],.int .i64 40]) (cJ (r1:=.cell 6 23) (r2:=.tmp 7) Z ?_ ?_) ⟨G,⟨_,hB⟩,Vc⟩;refine ah (t:=6) (cs:=[S [],S []]) (b:=w.heap.size) (o:=0) j8 Z dv ?_ ?_;exact Z;exact aa0 Jx (i:=0) Z;exact aE (t:=7) Ve _;refine I ?_;refine k0 (b:=[48]) (I ?_);by_cases wz:y=([48]);refine I ?_;refine SA D (λ_ Ao M2=>?_);have hB:=pb Ao hB;have G:=gG G Ao U;have M9:=dX Ao;refine I ?_;refine iv (v:=.tuple #[.agg #[S [],S []],.int .i64 40]) (cJ (r1:=.cell 6 23) (r2:=.tmp 7) Z ?_ ?_) ⟨G,⟨_,hB⟩,Vc⟩
 refine ah (t:=6) (cs:=[S [],S []]) (b:=w.heap.size) (o:=0) j8 Z dv ?_ ?_;exact Z;exact aa0 M2 (i:=0) Z;exact aE (t:=7) Ve _;refine I ?_;refine cl i8 (lH y [48] _) ?_;rintro _ _ Am rfl;have hB:=be Am.2 hB;have ht:=aa6 Am.2 ht;have D:=be Am.2 D;have G:=jO G Am.2;refine I ?_;by_cases w5:(eC y [48])<0;refine I ?_;refine ab (bG (vs:=[pT b,.func (.func 61) #[] #[],S [48],S x]) mQ Z (mV (o:=aN [48] x) hB ht vA (λW hW=>nK _ _ W hW)) ?_);rintro _ _ ⟨A2,D2,rfl⟩;have ht:=Tb.gr A2 hB dc ht;have D:=aa2 A2 Va D;have G:=eJ G A2;have MH:=A2.size;refine I ?_;refine ab (bG (vs:=[pT b,.func (.func 61) #[] #[],S [48],S y]) mQ Z (mV (o:=aN [48] y) D2 ht vA (λW hW=>nK _ _ W hW)) ?_);rintro _ _ ⟨Ad,D1,rfl⟩;have ht:=Tb.gr Ad D2 dc ht;have D:=aa2 Ad Va D;have G:=eJ G Ad;have ME:=Ad.size;refine I ?_;refine ab (bG (vs:=[pT b,.func (.func 105) #[] #[],S (dS bad (aN [48] x)),S (dS (dB bad (aN [48] x)) (aN [48] y))]) mQ Z (mV (o:=bD (dS bad (aN [48] x)) (dS (dB bad (aN [48] x)) (aN [48] y))) D1 ht yi (λW hW=>rF _ _ W hW)) ?_);rintro _ _ ⟨Af,E1,rfl⟩;have ht:=Tb.gr Af D1 dc ht;have D:=aa2 Af Va D;have G:=eJ G Af;have M6:=Af.size;refine I ?_
 refine ab (bG (vs:=[pT b,S (dS bad (aN [48] x)),S (dS (dB (dB bad (aN [48] x)) (aN [48] y)) (bD (dS bad (aN [48] x)) (dS (dB bad (aN [48] x)) (aN [48] y))))]) vB Z (nL E1 ht (dS bad (aN [48] x)) (dS (dB (dB bad (aN [48] x)) (aN [48] y)) (bD (dS bad (aN [48] x)) (dS (dB bad (aN [48] x)) (aN [48] y))))) ?_);rintro _ _ ⟨kd,EW,rfl⟩;have ht:=Tb.gr kd E1 dc ht;have D:=aa2 kd Va D;have G:=eJ G kd;have MI:=kd.size;refine I ?_;refine ab (bG (vs:=[pT b,S (dS (dB bad (aN [48] x)) (aN [48] y)),S (dS (dB (dB bad (aN [48] x)) (aN [48] y)) (bD (dS bad (aN [48] x)) (dS (dB bad (aN [48] x)) (aN [48] y))))]) vB Z (nL EW ht (dS (dB bad (aN [48] x)) (aN [48] y)) (dS (dB (dB bad (aN [48] x)) (aN [48] y)) (bD (dS bad (aN [48] x)) (dS (dB bad (aN [48] x)) (aN [48] y))))) ?_);rintro _ _ ⟨B2,H,rfl⟩;have D:=aa2 B2 Va D;have G:=eJ G B2;have MG:=B2.size;refine I ?_;refine al bi (λ_ ny M0=>?_);have⟨H,D⟩:=iZ ny.2 H D;have G:=jO G ny.2;refine SA M0 (λ_ Ax kk=>?_);have⟨H,D⟩:=vO Ax H D;have G:=gG G Ax U;have MF:=dX Ax;refine I ?_
 rcases qa4 (dB (dB (dB (dB (dB bad (aN [48] x)) (aN [48] y)) (bD (dS bad (aN [48] x)) (dS (dB bad (aN [48] x)) (aN [48] y)))) ((cR (dS bad (aN [48] x)) (dS (dB (dB bad (aN [48] x)) (aN [48] y)) (bD (dS bad (aN [48] x)) (dS (dB bad (aN [48] x)) (aN [48] y))))).map (·.1))) ((cR (dS (dB bad (aN [48] x)) (aN [48] y)) (dS (dB (dB bad (aN [48] x)) (aN [48] y)) (bD (dS bad (aN [48] x)) (dS (dB bad (aN [48] x)) (aN [48] y))))).map (·.1)))with v7|v7;refine I ?_;refine SA D (λ_ Av M1=>?_);have⟨H,kk⟩:=vO Av H kk;have G:=gG G Av U;have MJ:=dX Av;refine I ?_;refine iv (v:=.tuple #[.agg #[S [],S []],.int .i64 40]) (cJ (r1:=.cell 6 23) (r2:=.tmp 7) Z ?_ ?_) ⟨G,⟨_,H⟩,Vc⟩;refine ah (t:=6) (cs:=[S [],S []]) (b:=w.heap.size) (o:=0) j8 Z dv ?_ ?_;exact Z;exact aa0 M1 (i:=0) Z
 exact aE (t:=7) Ve _;refine I ?_;refine SA D (λ_ Ap L2=>?_);have⟨H,kk⟩:=vO Ap H kk;have G:=gG G Ap U;have MA:=dX Ap;refine I ?_
 refine iv (v:=.tuple #[.agg #[S (dS (dB (dB (dB bad (aN [48] x)) (aN [48] y)) (bD (dS bad (aN [48] x)) (dS (dB bad (aN [48] x)) (aN [48] y)))) ((cR (dS bad (aN [48] x)) (dS (dB (dB bad (aN [48] x)) (aN [48] y)) (bD (dS bad (aN [48] x)) (dS (dB bad (aN [48] x)) (aN [48] y))))).map (·.1))),S (dS (dB (dB (dB (dB bad (aN [48] x)) (aN [48] y)) (bD (dS bad (aN [48] x)) (dS (dB bad (aN [48] x)) (aN [48] y)))) ((cR (dS bad (aN [48] x)) (dS (dB (dB bad (aN [48] x)) (aN [48] y)) (bD (dS bad (aN [48] x)) (dS (dB bad (aN [48] x)) (aN [48] y))))).map (·.1))) ((cR (dS (dB bad (aN [48] x)) (aN [48] y)) (dS (dB (dB bad (aN [48] x)) (aN [48] y)) (bD (dS bad (aN [48] x)) (dS (dB bad (aN [48] x)) (aN [48] y))))).map (·.1)))],.int .i64 0]) (cJ (r1:=.cell 6 23) (r2:=.tmp 7) Z ?_ ?_) ⟨G,⟨_,H⟩,Vc⟩
 refine ah (t:=6) (cs:=[S (dS (dB (dB (dB bad (aN [48] x)) (aN [48] y)) (bD (dS bad (aN [48] x)) (dS (dB bad (aN [48] x)) (aN [48] y)))) ((cR (dS bad (aN [48] x)) (dS (dB (dB bad (aN [48] x)) (aN [48] y)) (bD (dS bad (aN [48] x)) (dS (dB bad (aN [48] x)) (aN [48] y))))).map (·.1))),S (dS (dB (dB (dB (dB bad (aN [48] x)) (aN [48] y)) (bD (dS bad (aN [48] x)) (dS (dB bad (aN [48] x)) (aN [48] y)))) ((cR (dS bad (aN [48] x)) (dS (dB (dB bad (aN [48] x)) (aN [48] y)) (bD (dS bad (aN [48] x)) (dS (dB bad (aN [48] x)) (aN [48] y))))).map (·.1))) ((cR (dS (dB bad (aN [48] x)) (aN [48] y)) (dS (dB (dB bad (aN [48] x)) (aN [48] y)) (bD (dS bad (aN [48] x)) (dS (dB bad (aN [48] x)) (aN [48] y))))).map (·.1)))]) (b:=w.heap.size) (o:=0) j8 Z dv ?_ ?_;exact Z;exact aa0 L2 (i:=0) Z;exact aE (t:=7) Ve _;refine I ?_;refine ab (bG (vs:=[pT b,.func (.func 105) #[] #[],S x,S y]) mQ Z (mV (o:=bD x y) hB ht yi (λW hW=>rF _ _ W hW)) ?_);rintro _ _ ⟨od,E7,rfl⟩;have ht:=Tb.gr od hB dc ht;have D:=aa2 od Va D;have G:=eJ G od;have M8:=od.size;refine I ?_;refine ab (bG (vs:=[pT b,S x,S (dS bad (bD x y))]) vB Z (nL E7 ht x (dS bad (bD x y))) ?_);rintro _ _ ⟨Ab,Ix,rfl⟩;have ht:=Tb.gr Ab E7 dc ht
 have D:=aa2 Ab Va D;have G:=eJ G Ab;have M3:=Ab.size;refine I ?_;refine ab (bG (vs:=[pT b,S y,S (dS bad (bD x y))]) vB Z (nL Ix ht y (dS bad (bD x y))) ?_);rintro _ _ ⟨Aq,E,rfl⟩;have D:=aa2 Aq Va D;have G:=eJ G Aq;have MC:=Aq.size;refine I ?_;refine al bi (λ_ E4 Kp=>?_);have⟨E,D⟩:=iZ E4.2 E D;have G:=jO G E4.2;refine SA Kp (λ_ Aw O=>?_);have⟨E,D⟩:=vO Aw E D;have G:=gG G Aw U;have M4:=dX Aw;refine I ?_;rcases Bool.eq_false_or_eq_true (dB (dB (dB bad (bD x y)) ((cR x (dS bad (bD x y))).map (·.1))) ((cR y (dS bad (bD x y))).map (·.1)))with wr|wr;refine I ?_;refine SA D (λ_ Ar E9=>?_);have⟨E,O⟩:=vO Ar E O;have G:=gG G Ar U;have M5:=dX Ar;refine I ?_;refine iv (v:=.tuple #[.agg #[S [],S []],.int .i64 40]) (cJ (r1:=.cell 6 23) (r2:=.tmp 7) Z ?_ ?_) ⟨G,⟨_,E⟩,Vc⟩
 refine ah (t:=6) (cs:=[S [],S []]) (b:=w.heap.size) (o:=0) j8 Z dv ?_ ?_;exact Z;exact aa0 E9 (i:=0) Z;exact aE (t:=7) Ve _;refine I ?_;refine SA D (λ_ Ay K2=>?_);have⟨E,O⟩:=vO Ay E O;have G:=gG G Ay U;have M7:=dX Ay;refine I ?_;refine iv (v:=.tuple #[.agg #[S (dS (dB bad (bD x y)) ((cR x (dS bad (bD x y))).map (·.1))),S (dS (dB (dB bad (bD x y)) ((cR x (dS bad (bD x y))).map (·.1))) ((cR y (dS bad (bD x y))).map (·.1)))],.int .i64 0]) (cJ (r1:=.cell 6 23) (r2:=.tmp 7) Z ?_ ?_) ⟨G,⟨_,E⟩,Vc⟩;refine ah (t:=6) (cs:=[S (dS (dB bad (bD x y)) ((cR x (dS bad (bD x y))).map (·.1))),S (dS (dB (dB bad (bD x y)) ((cR x (dS bad (bD x y))).map (·.1))) ((cR y (dS bad (bD x y))).map (·.1)))]) (b:=w.heap.size) (o:=0) j8 Z dv ?_ ?_;exact Z;exact aa0 K2 (i:=0) Z;exact aE (t:=7) Ve _
end Go.Proofs.YtgcfffdpcefifaaGreatDoor
