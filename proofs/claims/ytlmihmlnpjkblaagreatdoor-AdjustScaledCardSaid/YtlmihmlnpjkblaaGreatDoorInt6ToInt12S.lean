/- Part of the proof of a statement about an adjustment. -/
import Derived.Test.YtlmihmlnpjkblaaGreatDoorEngHToInt5S
import Derived.WalkSmall
import Derived.Lib.Atoi
import Derived.Lib.OthersKept
set_option linter.all false
namespace Go.Proofs.YtlmihmlnpjkblaaGreatDoor
open Go Go.Eng Go.RowKit Tryz
attribute [local irreducible] wpListIn Code.wpIn Oper.wpIn Exit.then Exit.inBlock Exit.noGoto
set_option maxHeartbeats 40000000
set_option maxRecDepth 100000 in
def GE {g m:Nat}{lb:List Value}{pb:Nat->Bool}{w:World}(heg:Enters prog g)(hm0:m<=1000000)(hd:∀(i:Nat) (W:World),i<m->aO w W->CL g ([Value.int .i64 i]++lb).toArray W (aH W λv _=>v=.bool (pb i)))(hmon:∀i j,i<=j->j<m->pb i=true->pb j=true):
 CL 162 #[.int .i64 m,.func (.func g) #[] lb.toArray] w (aH w λv w'=>∃k:Nat,v=.int .i64 k/\k<=m/\(∀i<k,pb i=false)/\(k<m->pb k=true)):=by
 refine aD func162 Z (I ?_);have E1:=aa3 w;refine b7 [(5,7),(9,24)] (λA1 e W=>∃i:Nat,∃j:Nat,(j-i=A1)/\(e 5=.int .i64 i)/\(e 6=.int .i64 j)/\(i<=j)/\(j<=m)/\(∀k<i,pb k=false)/\(j<m->pb j=true)/\(aO w W)) ((m)-0) ⟨0,m,rfl,rfl,rfl,(qa7 _),(qa0 _),U,U,E1⟩ ?_;rintro _ _ _ ⟨i,j,rfl,Ab,A2,q1,q2,A0,H,E7⟩;by_cases hm:i<j;refine I ?_;refine aa (cG (a:=(i:Int)) (b:=(j:Int)) (c:=((i+j:Nat):Int)) Z Z L7 U ?_);refine aa (gg (k:=.i64) (k':=.u64) (a:=((i+j:Nat):Int)) (c:=((i+j:Nat):Int)) U3 Io Z (wrap_u64 U) ?_);refine aa (Wu (k:=.u64) (a:=((i+j:Nat):Int)) (b:=1) (c:=(((i+j)/2:Nat):Int)) Z Z dc (by show((i+j:Nat):Int)/2=_;omega) ?_);refine aa (gg (k:=.u64) (k':=.i64) (a:=(((i+j)/2:Nat):Int)) (c:=(((i+j)/2:Nat):Int)) Io U3 Z (wrap_i64 U) ?_);refine I ?_;refine aa (mg (vs:=[.int .i64 (((i+j)/2:Nat):Int)]) (lb:=lb) heg Z Z (hd ((i+j)/2) _ U E7) ?_);rintro _ _ G rfl;have G:=G.2;have E7:=xt E7 G;refine I ?_;refine xA (q:=!(pb ((i+j)/2))) Z (λO=>?_) (λO=>?_);have E:pb ((i+j)/2)=false:=by simpa using O
 refine I ?_;refine aa (cG (a:=(((i+j)/2:Nat):Int)) (b:=1) (c:=(((i+j)/2+1:Nat):Int)) Z Z L7 U ?_);refine I ?_;exact bF ⟨(i+j)/2+1,j,rfl,rfl,A2,U,q2,(λk _=>by cases hb:pb k with|false=>rfl|true=>(have:=hmon k ((i+j)/2) U U hb;rw[E]at this;cases this)),H,E7⟩;have E:pb ((i+j)/2)=true:=by simpa using O
 refine I ?_;exact bF ⟨i,(i+j)/2,rfl,Ab,rfl,U,U,A0,(λ_=>E),E7⟩;refine I ?_;exact am (t:=4) (v:=.int .i64 i) Z E7 ⟨i,rfl,by omega,A0,by rw[show j=i by omega]at H;exact H⟩ Z
set_option maxRecDepth 100000 in
def Og {A1 A2:Option Addr}{n1 c1 a1 n2 c2 a2 i lo1 lo2 B1 B2:Nat}{w:World}(h1:en w lo1 A1 n1 c1 a1)(s1:n1<=10000)(h2:en w lo2 A2 n2 c2 a2)(k1:ar w B1 200 #[.func (.func 160) #[.slice A1 n1 c1] #[]])(k2:ar w B2 159 #[.slice A2 n2 c2])(hi:i<9999):
 CL 161 #[.int .i64 i,pT B1,pT B2] w (aH w λv w'=>v=.bool (decide (0<aQ ((a1*(i+1):Nat):Int) (a2:Int)))):=by
 obtain⟨L,_⟩:∃L,L=w.heap.size:=⟨_,rfl⟩;refine aD func161 Z (I ?_);refine bQ 7 ?_;refine sf ?_;refine aA (λ_ _ _ _=>by refine aa (cG (a:=(i:Int)) (b:=1) (c:=((i+1:Nat):Int)) Z Z L7 U ?_);refine I ?_;exact aE) ?_
 refine bY (λv w=>Wf L (a1*(i+1)) v w) (hs:=λ_ _ _ k h=>h.ext k) (λ_ _ hR15 _=>?_) ?_;have h1:=h1.ext hR15;refine aa (Ev (vs:=[.int .i64 ((i+1:Nat):Int)]) (la:=[.slice A1 n1 c1]) Ek Z Z (EK h1 U U) ?_);rintro _ _ A0 ⟨Ab,G,H,rfl,E⟩;have E20:=A0;have E:=E.mono (lo':=L) (by have:=bz hR15;omega);refine I ?_;exact fs ⟨E20,⟨Ab,G,H,rfl,E⟩⟩;refine sf ?_;refine aX (V:=.int .i64 (aQ ((a1*(i+1):Nat):Int) (a2:Int))) (λ_ _ hR27 W=>?_) ?_;obtain⟨Ab,G,H,p29,E⟩:=(W 3 8 Z Z);have Af:G<=n1+1:=by rw[<-E.len];exact mN U _ _ _ h1.le U
 have h2:=h2.ext hR27;refine clb zx (hc:=jN E U h2) (hk:=?_) (hv:=av p29 (av Z Z));rintro _ _ O rfl;have E33:=O.2;refine I ?_;exact fs ⟨E33,rfl⟩;refine sf ?_;intro _ _ hR40 _;have E42:=hR40.2;refine I ?_;exact am (t:=4) (v:=.bool (decide (0<(aQ ((a1*(i+1):Nat):Int) (a2:Int))))) Z E42 Z Z
end Go.Proofs.YtlmihmlnpjkblaaGreatDoor
def i8 (m:Nat)(xs:List Nat)(s:List Nat×Nat)(i:Nat):List Nat×Nat:=(s.1.set i ((s.2*10000+xs.getD i 0)/m),(s.2*10000+xs.getD i 0)%m)
def dm (m:Nat)(xs:List Nat)(n:Nat)(pre:List Nat):List Nat×Nat:=pre.foldl (i8 m xs) (List.replicate n 0,0)
def kaH (m:Nat)(xs:List Nat)(n:Nat)(pre:List Nat)(i:Nat):dm m xs n (pre++[i])=i8 m xs (dm m xs n pre) i:=by simp[dm]
def wG (m:Nat)(xs:List Nat)(n:Nat)(pre:List Nat):(dm m xs n pre).1.length=n:=by
 unfold dm
 have:∀(pre:List Nat) (s:List Nat×Nat),(pre.foldl (i8 m xs) s).1.length=s.1.length:=by
  intro pre
  induction pre with
  |nil=>intro s;rfl
  |cons i pre ih=>intro s;rw[List.foldl_cons,ih];simp[i8]
 rw[this];simp
def Jm (m:Nat)(xs:List Nat)(n:Nat)(hm:0<m):∀pre:List Nat,(dm m xs n pre).2<m:=by
 intro pre
 unfold dm
 have:∀(pre:List Nat) (s:List Nat×Nat),s.2<m->(pre.foldl (i8 m xs) s).2<m:=by
  intro pre
  induction pre with
  |nil=>intro s h;exact h
  |cons i pre ih=>intro s _;rw[List.foldl_cons];exact ih _ (Nat.mod_lt _ hm)
 exact this pre _ hm
def EM {m r d:Nat}(hr:r<m)(hd:d<10000):(r*10000+d)/m<10000:=by
 rw[Nat.div_lt_iff_lt_mul J]
 have:(r+1)*10000<=m*10000:=Nat.mul_le_mul_right _ hr
 omega
def zV (m:Nat)(xs:List Nat)(hm:0<m)(hx:∀x∈xs,x<10000):∀(k:Nat) (q:List Nat) (r:Nat),k<=xs.length->q.length=xs.length->r<m->
 let s:=(List.range k).reverse.foldl (i8 m xs) (q,r)
 s.1.length=q.length/\s.1.drop k=q.drop k/\m*bU 10000 (s.1.take k)+s.2=r*10000^k+bU 10000 (xs.take k)/\s.2<m/\∀d∈s.1.take k,d<10000
 |0,q,r,_,_,hr=>by simp[bU,hr]
 | k +1,q,r,hk,hq,hr=>by
   simp only
   rw[List.range_succ,List.reverse_append]
   simp only[List.reverse_cons,List.reverse_nil,List.nil_append,List.cons_append,List.foldl_cons]
   have hd:=getD_lt hx k
   have h1:=EM hr hd
   obtain⟨Aq,E,O,A1,W⟩:=zV m xs hm hx k (i8 m xs (q,r) k).1 (i8 m xs (q,r) k).2 J (by simp[i8,hq]) (Nat.mod_lt _ hm)
   generalize hs:List.foldl (i8 m xs) (i8 m xs (q,r) k) (List.range k).reverse=s at *
   have hl:(i8 m xs (q,r) k).1.length=q.length:=by simp[i8]
   have Am:k<s.1.length:=J
   have G:s.1[k]=(r*10000+xs.getD k 0)/m:=by
    have h3:s.1.drop k=s.1[k]::s.1.drop (k+1):=by rw[List.getElem_cons_drop]
    have h4:(i8 m xs (q,r) k).1.drop k=(i8 m xs (q,r) k).1[k]'(by omega)::(i8 m xs (q,r) k).1.drop (k+1):=by rw[List.getElem_cons_drop]
    rw[h3,h4]at E
    have:=(List.cons.inj E).1
    rw[this];simp[i8]
   have H:s.1.take (k+1)=s.1.take k++[s.1[k]]:=List.take_succ_eq_append_getElem Am
   have Ab:xs.take (k+1)=xs.take k++[xs.getD k 0]:=by
    rw[List.take_succ_eq_append_getElem J];simp[show k<xs.length by omega]
   refine⟨by omega,?_,?_,A1,?_⟩
   · have h3:s.1.drop (k+1)=(s.1.drop k).drop 1:=by rw[List.drop_drop]
     rw[h3,E,List.drop_drop]
     exact List.drop_set_of_lt J
   · rw[H,Ab,cu,cu,G]
     have A0:(s.1.take k).length=k:=by simp;omega
     have Af:(xs.take k).length=k:=by simp;omega
     rw[A0,Af]
     simp only[bU,Nat.mul_zero,Nat.add_zero,Nat.pow_succ]
     have Ao:=Nat.div_add_mod (r*10000+xs.getD k 0) m
     have Ap:m*bU 10000 (s.1.take k)+s.2=(r*10000+xs.getD k 0)%m*10000^k+bU 10000 (xs.take k):=O
     generalize (r*10000+xs.getD k 0)/m=u at *
     generalize (r*10000+xs.getD k 0)%m=v at *
     generalize xs.getD k 0=y at *
     grind
   · rw[H]
     intro d A2
     rcases List.mem_append.1 A2 with h|h
     · exact W d h
     · rw[List.mem_singleton.1 h,G];exact h1
def Jn {m a n:Nat}(hm:0<m)(hn:(au 10000 a).length=n):
 (∀d∈(dm m (au 10000 a) n (List.range n).reverse).1,d<10000)/\bU 10000 (dm m (au 10000 a) n (List.range n).reverse).1=a/m/\(dm m (au 10000 a) n (List.range n).reverse).2=a%m:=by
 obtain⟨h1,-,h3,h4,E⟩:=zV m (au 10000 a) hm (eO 10000 J a) n (List.replicate n 0) 0 J (by simp[hn]) hm
 change ((dm m (au 10000 a) n (List.range n).reverse).1.length=_)at h1
 change (m*bU 10000 ((dm m (au 10000 a) n (List.range n).reverse).1.take n)+(dm m (au 10000 a) n (List.range n).reverse).2=_)at h3
 change ((dm m (au 10000 a) n (List.range n).reverse).2<m)at h4
 change (∀d∈(dm m (au 10000 a) n (List.range n).reverse).1.take n,d<10000)at E
 rw[List.length_replicate]at h1
 rw[List.take_of_length_le J]at h3 E
 rw[List.take_of_length_le J,cK 10000 J,Nat.zero_mul,Nat.zero_add]at h3
 generalize (dm m (au 10000 a) n (List.range n).reverse)=z at *
 refine⟨E,?_,?_⟩
 · rw[<-h3,Nat.mul_add_div hm,Nat.div_eq_of_lt h4];omega
 · rw[<-h3,Nat.mul_add_mod,Nat.mod_eq_of_lt h4]
namespace Go.Proofs.YtlmihmlnpjkblaaGreatDoor
open Go Go.Eng Go.RowKit Tryz
variable {lo b c n1 c1 a1 lo1 n2 c2 a2 lo2:Nat}{A A1 A2:Option Addr}{w w':World}
attribute [local irreducible] wpListIn Code.wpIn Oper.wpIn Exit.then Exit.inBlock Exit.noGoto
set_option maxHeartbeats 40000000
def fA {p:Prop}(h:p:=by kernel_rfl):p:=h
def qK (m:Nat):(madeCells #[Value.int .i64 0] (m*1)).toList=ints (List.replicate m 0):=by
 simp[madeCells,ints,Nat.mod_one,List.eq_replicate_iff]
def ints_set (qs:List Nat)(x k:Nat):(ints qs).toArray.setIfInBounds x (.int .i64 k)=(ints (qs.set x k)).toArray:=by
 simp[ints,List.map_set]
def Jo {m r k:Nat}(hm:0<m)(hr:r<m*10000)(hk:k<=9999)(h1:∀i<k,decide (0<aQ ((m*(i+1):Nat):Int) (r:Int))=false)(h2:k<9999->decide (0<aQ ((m*(k+1):Nat):Int) (r:Int))=true):k=r/m:=by
 have e:∀i,decide (0<aQ ((m*(i+1):Nat):Int) (r:Int))=decide (r<m*(i+1)):=λi=>by
  rcases Nat.lt_trichotomy (m*(i+1)) r with h|h|h
  · rw[gh U];simp;omega
  · rw[jy U];simp;omega
  · rw[eY U];simp;omega
 symm
 have G:m*k<=r:=by
  rcases Nat.eq_zero_or_pos k with h0|h0
  · subst h0;simp
  · have:=h1 (k-1) U
    rw[e,show k-1+1=k by omega]at this
    simpa using this
 have E:r<m*(k+1):=by
  by_cases hk9:k<9999
  · have:=h2 hk9
    rw[e]at this
    simpa using this
  · rw[show k+1=10000 by omega];exact hr
 rw[Nat.div_eq_iff U]
 rw[Nat.mul_add]at E
 rw[Nat.mul_comm k m]
 omega
def GF {m r:Nat}(i j:Nat)(hij:i<=j)(h:decide (0<aQ ((m*(i+1):Nat):Int) (r:Int))=true):decide (0<aQ ((m*(j+1):Nat):Int) (r:Int))=true:=by
 have h3:m*(i+1)<=m*(j+1):=Nat.mul_le_mul_left _ U
 simp only[decide_eq_true_eq]at *
 rcases Nat.lt_trichotomy (m*(i+1)) r with h1|h1|h1
 · rw[gh U]at h;omega
 · rw[jy U]at h;omega
 · rw[eY U];omega
def zX (r d:Nat)(hd:d<10000):dK (d::au 10000 r)=au 10000 (r*10000+d):=by
 rw[mH 10000 U (d::au 10000 r) (λx hx=>by
  rcases List.mem_cons.1 hx with rfl|hx
  · exact hd
  · exact eO 10000 U r x hx)]
 simp only[bU,cK 10000 (show 2<=10000 by omega)]
 congr 1;omega
def Rw.putU {cs:List Value}(k:ee w w' b)(hne:∀ad,A=some ad->ad.block≠b)(h:Rw w lo A cs):Rw w' lo A cs:=by
 refine⟨λj u hu=>?_,h.lo,λad e=>by rw[k.size];exact h.hi ad e⟩
 obtain⟨c,o,e,hc⟩:=h.cells j u hu
 exact⟨c,o,e,(k.cell (a:=⟨c,o+j,none⟩) (show c≠b from hne _ e)).trans hc⟩
def en.putU {n a:Nat}(k:ee w w' b)(hne:∀ad,A=some ad->ad.block≠b)(h:en w lo A n c a):en w' lo A n c a:=⟨Rw.putU k hne h.row,h.len,h.cap⟩
def ac4:=@en.putU
def zY {m v:Nat}{qs:List Nat}(hr:Rw w lo A (ints qs))(hd:∀d∈qs,d<10000)(hv:bU 10000 qs=v)(ht:dK qs=qs.take m)(hm:m<=qs.length)(hc:m<=c):en w lo A m c v:=by
 have h1:au 10000 v=qs.take m:=by rw[<-ht,<-hv];exact(mH 10000 U qs hd).symm
 refine⟨?_,?_,hc⟩
 · rw[h1]
   have:=hr.take m
   simpa[ints,List.map_take]using this
 · rw[h1];simp;omega
set_option maxRecDepth 100000 in
def sI (h1:en w lo1 A1 n1 c1 a1)(s1:n1<=9000)(h2:en w lo2 A2 n2 c2 a2)(s2:n2<=9000)(h0:0<a2):
 CL 120 #[.slice A1 n1 c1,.slice A2 n2 c2] w (aH w λv w'=>∃A n c B m d,v=.tuple #[.slice A n c,.slice B m d]/\en w' w.heap.size A n c (a1/a2)/\en w' w.heap.size B m d (a1%a2)):=by
 refine rI func120 Z (I ?_);refine bx (λAv a4 G=>?_);have E4:=a4.2;refine al B7 (λAq ac KC=>?_);have⟨G,E4⟩:=bo ac.2 G E4;refine al B7 (λA0 a3 H=>?_);have⟨G,KC,E4⟩:=ca a3.2 G KC E4;refine I ?_;refine aa (my (m:=n1) g5 kI Z Z U CA (λ_ a5 _ P2=>?_));have⟨G,KC,H,E4⟩:=fw a5 G KC H E4;have hq:=Ew P2;rw[show(Value.int IntKind.i64 0).cells=#[Value.int .i64 0]from rfl,qK]at hq;clear P2;refine SO KC (λP1 bq O=>?_);have⟨G,H,hq,E4,_⟩:=Nj bq G H hq E4;refine I ?_;refine cl Ej (ka (A:=A1) (n:=n1) (c:=c1)) ?_;rintro _ L4 W1 ⟨rfl,W0⟩;have⟨G,O,H,hq,E4⟩:=kC W1.2 G O H hq E4;refine I ?_
 refine sD (m:=n1) (enc:=λx=>[.int .i64 x,.int .i64 (((au 10000 a1).getD x 0:Nat):Int)]) (order:=(List.range n1).reverse) (Kq:=λW=>ar W P1.heap.size 159 #[.slice A1 n1 c1]/\Rw W lo1 A1 (ints (au 10000 a1))) (gf:=207) (lb:=[pT P1.heap.size]) (ps:=[15,16]) Z Em (iQ W0 (h1.row.ext E4) h1.len U) (λW W' row hq Ay hr=>⟨ad6 Ay hr hq.1,Rw.cel Ay hr hq.2⟩) (λ_=>rfl) [6,7] (λx=>[.int .i64 x,.int .i64 (((au 10000 a1).getD x 0:Nat):Int)]) ?asn (λpre W=>∃Ar:Option Addr,∃Af:Nat,∃Ap:Nat,(L4.heap.size<=W.heap.size)/\(aO w W)/\(ar W w.heap.size 159 #[.slice A2 n2 c2])/\(ar W Av.heap.size 159 #[.slice (some ⟨A0.heap.size,0,none⟩) n1 n1])/\(ar W Aq.heap.size 159 #[.slice Ar Af Ap])/\(ar W A0.heap.size 3 (ints (dm a2 (au 10000 a1) n1 pre).1).toArray)/\(en W L4.heap.size Ar Af Ap ((dm a2 (au 10000 a1) n1 pre).2))) (λ_ _ _=>False) ?hI ?hIx ?h0 ?body ?done ?stop;case asn=>
  intro l x W K hK;refine I ?_;exact hK
 case hI=>
  rintro pre W W' row ⟨Ar,Af,Ap,L3,E,G,O,H,hq,hv⟩ Ay hr;exact⟨Ar,Af,Ap,qa8 L3 Ay.size,o8 (B:=L4.heap.size) U Ay hr (bz E) E,ad6 Ay hr G,ad6 Ay hr O,ad6 Ay hr H,ad6 Ay hr hq,en.cel Ay hr hv⟩
 case hIx=>
  exact λ_ _ _ _ _ h=>h.elim
 case h0=>
  exact⟨none,0,0,qa0 _,E4,G,O,H,hq,en.zero _ _⟩
 case body=>
  rintro l pre x W ⟨Ar,Af,Ap,L3,E,G,O,H,hq,hv⟩ cw hx d3;have Kp:=eL.refl [Aq.heap.size,A0.heap.size] W;have zW:=bz E;have cf:=hv.hi;have hd:=getD_lt h1.lt x;have T2:=Jm a2 (au 10000 a1) n1 h0 pre;have S9:=wG a2 (au 10000 a1) n1 pre;have cp:Af<=n2:=by rw[<-hv.len,<-h2.len];exact ey U U
  have ad:=ae4 H;have an:=ae4 hq;have c9:((dm a2 (au 10000 a1) n1 pre).2*10000+((au 10000 a1).getD x 0))<a2*10000:=by have:((dm a2 (au 10000 a1) n1 pre).2+1)*10000<=a2*10000:=Nat.mul_le_mul_right _ T2;omega
  refine I ?_;refine BS (λ_ B2 _ Rm=>?_);have G:=be B2 G;have O:=be B2 O;have H:=be B2 H;have hq:=be B2 hq;have hv:=aa6 B2 hv;have E:=xt E B2;have Kp:=ad9 Kp B2;have cy:=bz B2;refine I ?_;refine aa (jI (v:=.slice (some ⟨W.heap.size,0,none⟩) 1 1) (k:=1) g5 kI Z dc Z Rm Z hv.row (by rw[i7,hv.len];omega) tY CA U U (λ_ WV P0 Cr _=>?_));have G:=aa2 Cr DB G;have O:=aa2 Cr DB O;have H:=aa2 Cr DB H;have hq:=aa2 Cr DB hq;have hv:=en.gr Cr (λK3 e=>by have:=cf K3 e;simp[Value.ownBlock];omega) hv;have Kp:=eL.gr Kp Cr (λb hb=>by exact Or.inr (by simp[Value.ownBlock]at hb;omega));have E:=cS E Cr (bz E) (λg ce=>by have:=(Rm.lt g ce).1;omega);have cz:=Cr.size;obtain⟨Aw,V2,rfl,a9,cv,-,-⟩:=e8 P0;have hs:Rw WV W.heap.size Aw (ints (((au 10000 a1).getD x 0)::au 10000 ((dm a2 (au 10000 a1) n1 pre).2))):=aa7 P0;refine clb ry (hc:=fV hs (by rw[List.length_cons,hv.len];omega) a9 U) (hk:=?_);rintro _ T3 CY ⟨KY,rfl,Az,ES⟩;have G:=be CY.2 G;have O:=be CY.2 O
  have H:=be CY.2 H;have hq:=be CY.2 hq;have hv:=aa6 CY.2 hv;have E:=xt E CY.2;have Kp:=ad9 Kp CY.2;rw[zX _ _ hd]at Az;have Ao:en T3 W.heap.size Aw KY V2 ((dm a2 (au 10000 a1) n1 pre).2*10000+((au 10000 a1).getD x 0)):=by
   refine⟨?_,?_,by omega⟩
   rw[Az];have:=(hs.ext CY.2).take KY;simpa[ints,List.map_take]using this;rw[Az,List.length_take,List.length_cons,hv.len];omega
  have uhnew:=Ao.hi;have cr:KY<=n2+1:=by rw[<-Ao.len,bf 10000 U];have:=ou (B:=10000) U a2;rw[h2.len]at this;rw[Nat.pow_succ];omega
  refine SO H (λL1 E7 As=>?_);have G:=pb E7 G;have O:=pb E7 O;have hq:=pb E7 hq;have Ao:=ac8 E7 U Ao;have E:=bi E7 E;have Kp:=ae1 Kp E7 Bx;have cq:=gJ E7;refine I ?_;refine aa (aC (vf:=[.slice A2 n2 c2]) (vc:=[]) Z Z ?_);refine al Se (λ_ E0 cb=>?_);have G:=be E0.2 G;have O:=be E0.2 O;have As:=be E0.2 As;have hq:=be E0.2 hq;have Ao:=aa6 E0.2 Ao;have E:=xt E E0.2;have Kp:=ad9 Kp E0.2;refine SO cb (λ_ C0 Ax=>?_);have G:=pb C0 G;have O:=pb C0 O;have As:=pb C0 As;have hq:=pb C0 hq;have Ao:=ac4 C0 (λK3 e=>by have:=uhnew K3 e;omega) Ao;have E:=bi C0 E;have Kp:=ae1 Kp C0 Bx;have d1:=gJ C0;refine I ?_;refine aa (aC (vf:=[]) (vc:=[pT L1.heap.size,pT Aq.heap.size]) Z Z ?_);refine I ?_;refine bQ 5 ?_;refine sf ?_;refine aX (V:=.int .i64 ((((dm a2 (au 10000 a1) n1 pre).2*10000+((au 10000 a1).getD x 0))/a2:Nat):Int)) (λ_ a8 hR55 _=>?_) ?_;have As:=be hR55 As
  have Ao:=aa6 hR55 Ao;have Ax:=be hR55 Ax;have bb:∀(i:Nat) (V:World),i<9999->aO a8 V->CL 161 (([Value.int .i64 i]:List Value)++([pT L1.heap.size,pT Aq.heap.size]:List Value)).toArray V (aH V λv _=>v=.bool (decide (0<aQ ((a2*(i+1):Nat):Int) ((((dm a2 (au 10000 a1) n1 pre).2*10000+((au 10000 a1).getD x 0)):Nat):Int)))):=by(intro i V hi Y;exact Og (h2.ext (xt (xt E hR55) Y)) U (Ao.ext Y) (Ax.ext Y) (As.ext Y) hi)
  refine clb Wi (hc:=GE (m:=9999) (lb:=[pT L1.heap.size,pT Aq.heap.size]) Wh U bb (λi j a6 _ h=>GF i j a6 h)) (hk:=?_);rintro _ _ La ⟨ct,rfl,cm,a0,ch⟩;have La:=La.2;obtain rfl:=Jo h0 c9 cm a0 ch;have E60:=La;refine I ?_;exact fs ⟨E60,rfl⟩;refine aA (λ_ _ _ _=>by refine aa (aB (A:=some ⟨A0.heap.size,0,none⟩) (bk:=A0.heap.size) (o:=0) (m:=n1) (c:=n1) (i:=x) (oo:=x) g5 iy Z Z Z hx U ?_);refine I ?_;exact aE) ?_;refine sf ?_;intro _ _ hR67 _;have G:=be hR67.2 G;have O:=be hR67.2 O;have As:=be hR67.2 As;have hq:=be hR67.2 hq;have Ao:=aa6 hR67.2 Ao;have Ax:=be hR67.2 Ax;have E:=xt E hR67.2;have Kp:=ad9 Kp hR67.2;refine aa (cJ (b:=A0.heap.size) (o:=x) (v:=.int .i64 ((((dm a2 (au 10000 a1) n1 pre).2*10000+((au 10000 a1).getD x 0))/a2:Nat):Int)) iy Z Z Z hq (by simp[ints,S9];omega) (λWa B1 VW=>?_));have G:=pb B1 G;have O:=pb B1 O;have As:=pb B1 As;have Ao:=ac8 B1 U Ao;have Ax:=pb B1 Ax;have E:=bi B1 E;have Kp:=ae1 Kp B1 Bx;have d0:=gJ B1
  have hq:=VW;rw[ints_set]at hq;refine I ?_;obtain⟨L,_⟩:∃L,L=Wa.heap.size:=⟨_,rfl⟩;refine bQ 8 ?_;refine sf ?_;refine aA (λ_ _ _ _=>by refine aa (aB (A:=some ⟨A0.heap.size,0,none⟩) (bk:=A0.heap.size) (o:=0) (m:=n1) (c:=n1) (i:=x) (oo:=x) g5 iy Z Z Z hx U ?_);refine I ?_;exact aE) ?_;refine aA (λ_ _ hR93 _=>by have hq:=be hR93 hq;refine aa (bC (v:=.int .i64 ((((dm a2 (au 10000 a1) n1 pre).2*10000+((au 10000 a1).getD x 0))/a2:Nat):Int)) U3 Z Z (ab6 hq (by simp[ints,S9,hx])) ?_);refine I ?_;exact aE) ?_
  refine bY (λv w=>Wf L (a2*(((dm a2 (au 10000 a1) n1 pre).2*10000+((au 10000 a1).getD x 0))/a2)) v w) (hs:=λ_ _ _ k h=>h.ext k) (λ_ _ hR97 _=>?_) ?_;refine aa (Ev (vs:=[.int .i64 ((((dm a2 (au 10000 a1) n1 pre).2*10000+((au 10000 a1).getD x 0))/a2:Nat):Int)]) (la:=[.slice A2 n2 c2]) Ek Z Z (EK (h2.ext (xt E hR97)) U (EM T2 hd)) ?_);rintro _ _ bW ⟨Ab,Ne,No,rfl,GC⟩;have Vm:=bW;have GC:=GC.mono (lo':=L) (by have:=bz hR97;omega);refine I ?_;exact fs ⟨Vm,⟨Ab,Ne,No,rfl,GC⟩⟩;refine bY (λv w=>Wf L (((dm a2 (au 10000 a1) n1 pre).2*10000+((au 10000 a1).getD x 0))-a2*(((dm a2 (au 10000 a1) n1 pre).2*10000+((au 10000 a1).getD x 0))/a2)) v w) (hs:=λ_ _ _ k h=>h.ext k) (λ_ _ S0 X2=>?_) ?_;obtain⟨Ab,Ne,No,X0,GC⟩:=(X2 6 36 Z Z);have Q0:a2*(((dm a2 (au 10000 a1) n1 pre).2*10000+((au 10000 a1).getD x 0))/a2)<=((dm a2 (au 10000 a1) n1 pre).2*10000+((au 10000 a1).getD x 0)):=Nat.mul_div_le _ _;have bv:Ne<=KY:=by rw[<-GC.len,<-Ao.len];exact ey U Q0
  have Ao:=aa6 S0 Ao;refine clb Eh (hc:=pi Ao U GC U Q0 bv) (hk:=?_) (hv:=av Z (av X0 Z));rintro _ _ bd ⟨Am,nm,Lj,rfl,D1⟩;have co:=bd.2;have D1:=D1.mono (lo':=L) (by have:=bz S0;omega);refine I ?_;exact fs ⟨co,⟨Am,nm,Lj,rfl,D1⟩⟩;refine sf ?_;intro _ _ D2 bZ;have G:=be D2.2 G;have O:=be D2.2 O;have As:=be D2.2 As;have hq:=be D2.2 hq;have Ax:=be D2.2 Ax;have E:=xt E D2.2;have Kp:=ad9 Kp D2.2;obtain⟨Am,nm,Lj,_,D1⟩:=(bZ 7 37 Z Z);rw[show((dm a2 (au 10000 a1) n1 pre).2*10000+((au 10000 a1).getD x 0))-a2*(((dm a2 (au 10000 a1) n1 pre).2*10000+((au 10000 a1).getD x 0))/a2)=((dm a2 (au 10000 a1) n1 pre).2*10000+((au 10000 a1).getD x 0))%a2 by have:=Nat.div_add_mod ((dm a2 (au 10000 a1) n1 pre).2*10000+((au 10000 a1).getD x 0)) a2;omega]at D1
  refine SO As (λ_ CB cT=>?_);have G:=pb CB G;have O:=pb CB O;have hq:=pb CB hq;have Ax:=pb CB Ax;have D1:=ac8 CB U D1;have E:=bi CB E;have Kp:=ae1 Kp CB Bx;have cx:=gJ CB;refine I ?_;exact⟨Kp.others (by simp only[List.mem_cons,List.not_mem_nil,or_false];rintro b (rfl|rfl);exact ad;exact an),λhq=>⟨Kp.blk KK hq.1,Kp.rw (λK3 e=>by have:=h1.hi K3 e;simp;omega) hq.2⟩,⟨Am,nm,Lj,U,E,G,O,cT,(by rw[kaH];exact hq),(by rw[kaH];exact D1.mono U)⟩⟩
 case stop=>
  exact λ_ _ _ _ _ _ h _=>h.elim
 case done=>
  rintro D W hD ⟨Ar,Af,Ap,L3,E,G,O,H,hq,hv⟩ hK;have zW:=bz E;refine I ?_;obtain⟨od,KM,W2⟩:=Jn h0 h1.len;rw[W2]at hv;have Li:=wG a2 (au 10000 a1) n1 (List.range n1).reverse;generalize hqs:(dm a2 (au 10000 a1) n1 ((List.range n1).reverse)).1=qs at *;refine NG o7 ?_;have CG:=ac3 W;generalize hgw:World.drew W=ao2 at CG ⊢;clear hgw;have G:=be CG G;have O:=be CG O;have H:=be CG H;have hq:=be CG hq;have hv:=aa6 CG hv;have hK:=lv.ext CG hK;have E:=xt E CG;refine g6 (i:=0) (is:=[2]) fA ⟨?_,?_,trivial⟩;refine mJ Z ?_;refine(bC (v:=.slice (some ⟨A0.heap.size,0,none⟩) n1 n1) (b:=Av.heap.size) (o:=0) g5 Z Z (ab6 O Z) ?_);refine g6 (i:=1) (is:=[2]) fA ⟨?_,?_,trivial⟩;refine mJ Z ?_;refine(xY (vs:=[.slice (some ⟨A0.heap.size,0,none⟩) n1 n1]) ry Z (fV (ae3 hq (qa0 _)) Li (qa0 _) U) ?_);rintro _ _ EW ⟨B0,rfl,Az,ES⟩;have G:=be EW.2 G;have O:=be EW.2 O;have H:=be EW.2 H;have hq:=be EW.2 hq;have hv:=aa6 EW.2 hv;have hK:=lv.ext EW.2 hK;have E:=xt E EW.2;refine g6 (i:=2) (is:=[3]) fA ⟨?_,?_,trivial⟩;refine mJ Z ?_;refine(bC (v:=.slice Ar Af Ap) (b:=Aq.heap.size) (o:=0) g5 Z Z (ab6 H Z) ?_)
  refine g6 (i:=3) (is:=[]) fA ⟨?_,trivial⟩;refine mJ Z ?_;refine(cJ (b:=Av.heap.size) (o:=0) (v:=.slice (some ⟨A0.heap.size,0,none⟩) B0 n1) mB Z Z Z O (qa3 Z) (λ_ FR N0=>?_));have G:=pb FR G;have H:=pb FR H;have hq:=pb FR hq;have hv:=ac8 FR U hv;have hK:=ad3 FR (hK.ne O) hK;have E:=bi FR E;refine g6 (i:=4) (is:=[]) fA ⟨?_,trivial⟩;refine mJ Z ?_;refine(cJ (b:=Aq.heap.size) (o:=0) (v:=.slice Ar Af Ap) mB Z Z Z H (qa3 Z) (λ_ H4 bp=>?_));have G:=pb H4 G;have N0:=pb H4 N0;have hq:=pb H4 hq;have hv:=ac8 H4 U hv;have hK:=ad3 H4 (hK.ne H) hK;have E:=bi H4 E;refine Ex fA (I ?_);have E9:=hv.dfr hK;have E5:=ar.dfr hK hq;refine jM (v:=.tuple #[.slice (some ⟨A0.heap.size,0,none⟩) B0 n1,.slice Ar Af Ap]) hK (c8 (r1:=.cell 4 159) (r2:=.cell 5 159) Z ?_ ?_) ((dO _).low E U) ⟨_,_,_,_,_,_,rfl,zY (ae3 E5 U) od KM Az U ES,E9.mono U⟩;refine bH (b:=Av.heap.size) (o:=0) g5 Z ?_ ?_;exact Z
  exact ab6 (N0.dfr hK) Z;refine bH (b:=Aq.heap.size) (o:=0) g5 Z ?_ ?_;exact Z;exact ab6 (bp.dfr hK) Z;refine mJ Z ?_;refine(cJ (b:=Av.heap.size) (o:=0) (v:=.slice (some ⟨A0.heap.size,0,none⟩) B0 n1) mB Z Z Z O (qa3 Z) (λ_ Ix Lk=>?_));have G:=pb Ix G;have H:=pb Ix H;have hq:=pb Ix hq;have hv:=ac8 Ix U hv;have hK:=ad3 Ix (hK.ne O) hK;have E:=bi Ix E;refine g6 (i:=2) (is:=[]) fA ⟨?_,trivial⟩;refine mJ Z ?_;refine(bC (v:=.slice Ar Af Ap) (b:=Aq.heap.size) (o:=0) g5 Z Z (ab6 H Z) ?_);refine g6 (i:=4) (is:=[]) fA ⟨?_,trivial⟩;refine mJ Z ?_;refine(cJ (b:=Aq.heap.size) (o:=0) (v:=.slice Ar Af Ap) mB Z Z Z H (qa3 Z) (λ_ H3 W3=>?_));have G:=pb H3 G;have Lk:=pb H3 Lk;have hq:=pb H3 hq;have hv:=ac8 H3 U hv;have hK:=ad3 H3 (hK.ne H) hK;have E:=bi H3 E;refine Ex fA (I ?_);have E9:=hv.dfr hK;have E5:=ar.dfr hK hq;refine jM (v:=.tuple #[.slice (some ⟨A0.heap.size,0,none⟩) B0 n1,.slice Ar Af Ap]) hK (c8 (r1:=.cell 4 159) (r2:=.cell 5 159) Z ?_ ?_) ((dO _).low E U) ⟨_,_,_,_,_,_,rfl,zY (ae3 E5 U) od KM Az U ES,E9.mono U⟩
  refine bH (b:=Av.heap.size) (o:=0) g5 Z ?_ ?_;exact Z;exact ab6 (Lk.dfr hK) Z;refine bH (b:=Aq.heap.size) (o:=0) g5 Z ?_ ?_;exact Z;exact ab6 (W3.dfr hK) Z;refine mJ Z ?_;refine(bC (v:=.slice Ar Af Ap) (b:=Aq.heap.size) (o:=0) g5 Z Z (ab6 H Z) ?_);refine g6 (i:=1) (is:=[]) fA ⟨?_,trivial⟩;refine mJ Z ?_;refine(xY (vs:=[.slice (some ⟨A0.heap.size,0,none⟩) n1 n1]) ry Z (fV (ae3 hq (qa0 _)) Li (qa0 _) U) ?_);rintro _ _ E6 ⟨B0,rfl,Az,ES⟩;have G:=be E6.2 G;have O:=be E6.2 O;have H:=be E6.2 H;have hq:=be E6.2 hq;have hv:=aa6 E6.2 hv;have hK:=lv.ext E6.2 hK;have E:=xt E E6.2;refine g6 (i:=3) (is:=[]) fA ⟨?_,trivial⟩;refine mJ Z ?_;refine(cJ (b:=Av.heap.size) (o:=0) (v:=.slice (some ⟨A0.heap.size,0,none⟩) B0 n1) mB Z Z Z O (qa3 Z) (λ_ G0 L2=>?_));have G:=pb G0 G;have H:=pb G0 H;have hq:=pb G0 hq;have hv:=ac8 G0 U hv;have hK:=ad3 G0 (hK.ne O) hK;have E:=bi G0 E;refine g6 (i:=4) (is:=[]) fA ⟨?_,trivial⟩;refine mJ Z ?_;refine(cJ (b:=Aq.heap.size) (o:=0) (v:=.slice Ar Af Ap) mB Z Z Z H (qa3 Z) (λ_ H2 cc=>?_))
  have G:=pb H2 G;have L2:=pb H2 L2;have hq:=pb H2 hq;have hv:=ac8 H2 U hv;have hK:=ad3 H2 (hK.ne H) hK;have E:=bi H2 E;refine Ex fA (I ?_);have E9:=hv.dfr hK;have E5:=ar.dfr hK hq;refine jM (v:=.tuple #[.slice (some ⟨A0.heap.size,0,none⟩) B0 n1,.slice Ar Af Ap]) hK (c8 (r1:=.cell 4 159) (r2:=.cell 5 159) Z ?_ ?_) ((dO _).low E U) ⟨_,_,_,_,_,_,rfl,zY (ae3 E5 U) od KM Az U ES,E9.mono U⟩;refine bH (b:=Av.heap.size) (o:=0) g5 Z ?_ ?_;exact Z;exact ab6 (L2.dfr hK) Z;refine bH (b:=Aq.heap.size) (o:=0) g5 Z ?_ ?_;exact Z;exact ab6 (cc.dfr hK) Z;refine mJ Z ?_;refine(bC (v:=.slice Ar Af Ap) (b:=Aq.heap.size) (o:=0) g5 Z Z (ab6 H Z) ?_);refine g6 (i:=0) (is:=[]) fA ⟨?_,trivial⟩;refine mJ Z ?_;refine(bC (v:=.slice (some ⟨A0.heap.size,0,none⟩) n1 n1) (b:=Av.heap.size) (o:=0) g5 Z Z (ab6 O Z) ?_);refine g6 (i:=1) (is:=[]) fA ⟨?_,trivial⟩;refine mJ Z ?_;refine(xY (vs:=[.slice (some ⟨A0.heap.size,0,none⟩) n1 n1]) ry Z (fV (ae3 hq (qa0 _)) Li (qa0 _) U) ?_);rintro _ _ E1 ⟨B0,rfl,Az,ES⟩
  have G:=be E1.2 G;have O:=be E1.2 O;have H:=be E1.2 H;have hq:=be E1.2 hq;have hv:=aa6 E1.2 hv;have hK:=lv.ext E1.2 hK;have E:=xt E E1.2;refine g6 (i:=3) (is:=[]) fA ⟨?_,trivial⟩;refine mJ Z ?_;refine(cJ (b:=Av.heap.size) (o:=0) (v:=.slice (some ⟨A0.heap.size,0,none⟩) B0 n1) mB Z Z Z O (qa3 Z) (λ_ ny wr=>?_));have G:=pb ny G;have H:=pb ny H;have hq:=pb ny hq;have hv:=ac8 ny U hv;have hK:=ad3 ny (hK.ne O) hK;have E:=bi ny E;refine g6 (i:=4) (is:=[]) fA ⟨?_,trivial⟩;refine mJ Z ?_;refine(cJ (b:=Aq.heap.size) (o:=0) (v:=.slice Ar Af Ap) mB Z Z Z H (qa3 Z) (λ_ K2 b0=>?_));have G:=pb K2 G;have wr:=pb K2 wr;have hq:=pb K2 hq;have hv:=ac8 K2 U hv;have hK:=ad3 K2 (hK.ne H) hK;have E:=bi K2 E;refine Ex fA (I ?_);have E9:=hv.dfr hK;have E5:=ar.dfr hK hq;refine jM (v:=.tuple #[.slice (some ⟨A0.heap.size,0,none⟩) B0 n1,.slice Ar Af Ap]) hK (c8 (r1:=.cell 4 159) (r2:=.cell 5 159) Z ?_ ?_) ((dO _).low E U) ⟨_,_,_,_,_,_,rfl,zY (ae3 E5 U) od KM Az U ES,E9.mono U⟩
  refine bH (b:=Av.heap.size) (o:=0) g5 Z ?_ ?_;exact Z;exact ab6 (wr.dfr hK) Z;refine bH (b:=Aq.heap.size) (o:=0) g5 Z ?_ ?_;exact Z;exact ab6 (b0.dfr hK) Z
end Go.Proofs.YtlmihmlnpjkblaaGreatDoor
namespace Go.Eng
variable {l d:List UInt8}
def cC (c:UInt8):Bool:=decide (48<=c.toNat)&&decide (c.toNat<=57)
def body:List UInt8->List UInt8
 |45::t=>t
 |l=>l
def neg:List UInt8->Bool
 |45::_=>true
 |_=>false
def eJ (l:List UInt8):List Nat:=l.reverse.map λc=>c.toNat-48
def aG (l:List UInt8):Nat:=bU 10 (eJ l)
def eo (d:List UInt8):Bool:=!d.isEmpty&&decide (d.length<=200)&&d.all cC&&(decide (d=[48])||decide (d.head?≠some 48))
def isInt (l:List UInt8):Bool:=eo (body l)&& !(neg l&&decide (body l=[48]))
def aj (l:List UInt8):Int:=if neg l then -(aG (body l):Int)else(aG (body l):Int)
def cR (l:List Nat):List UInt8:=l.reverse.map λd=>UInt8.ofNat (48+d)
def bw (n:Nat):List UInt8:=if n=0 then[48]else cR (au 10 n)
def ae (n:Int):List UInt8:=if n<0 then 45::bw n.natAbs else bw n.natAbs
def fits (n:Int):Bool:=decide (n.natAbs<10^200)
def TP {c:UInt8}(h:cC c=true):c.toNat-48<10:=by simp[cC]at h;omega
def x5 (h:l.all cC=true):∀d∈eJ l,d<10:=by
 intro d hd
 simp only[eJ,List.mem_map,List.mem_reverse]at hd
 obtain⟨c,hc,rfl⟩:=hd
 exact TP (List.all_eq_true.1 h c hc)
def byte_of {c:UInt8}(h:cC c=true):UInt8.ofNat (48+(c.toNat-48))=c:=by
 simp[cC]at h
 rw[show 48+(c.toNat-48)=c.toNat by omega]
 simp
def C7 (h:l.all cC=true):cR (eJ l)=l:=by
 unfold cR eJ
 rw[<-List.map_reverse,List.reverse_reverse,List.map_map]
 conv=>rhs;rw[<-List.map_id l]
 apply List.map_congr_left
 intro c hc
 exact byte_of (List.all_eq_true.1 h c hc)
def C8 {l:List Nat}(h:∀d∈l,d<10):eJ (cR l)=l:=by
 unfold cR eJ
 rw[<-List.map_reverse,List.reverse_reverse,List.map_map]
 conv=>rhs;rw[<-List.map_id l]
 apply List.map_congr_left
 intro d hd
 have:=h d hd
 simp only[Function.comp,UInt8.toNat_ofNat',id]
 omega
def GG {l:List Nat}(h:∀d∈l,d<10):(cR l).all cC=true:=by
 rw[List.all_eq_true]
 intro c hc
 simp only[cR,List.mem_map,List.mem_reverse]at hc
 obtain⟨d,hd,rfl⟩:=hc
 have:=h d hd
 simp only[cC,UInt8.toNat_ofNat',Bool.and_eq_true,decide_eq_true_eq]
 omega
def cN (l:List Nat):(cR l).length=l.length:=by simp[cR]
def ja (l:List UInt8):(eJ l).length=l.length:=by simp[eJ]
def ua (h:eo d=true)(h0:d≠[48]):Canon 10 (eJ d):=by
 simp only[eo,Bool.and_eq_true,Bool.or_eq_true,decide_eq_true_eq]at h
 obtain⟨⟨⟨h1,h2⟩,h3⟩,h4⟩:=h
 refine⟨x5 h3,?_⟩
 rcases h4 with h4|h4
 · exact absurd h4 h0
 · cases d with
   |nil=>simp at h1
   | cons c t=>
     have hc:cC c=true:=by simp at h3;exact h3.1
     have E:c≠48:=by simpa using h4
     simp only[eJ,List.reverse_cons,List.map_append,List.map_cons,List.map_nil,List.getLast?_concat,ne_eq,Option.some.injEq]
     intro _
     simp[cC]at hc
     have:c.toNat=48:=J
     exact E (UInt8.toNat_inj.1 (by simpa using this))
def zZ (h:eo d=true)(h0:d≠[48]):eJ d=au 10 (aG d):=mG J (ua h h0)
def qL:aG [48]=0:=by decide
def pj (h:eo d=true)(h0:d≠[48]):0<aG d:=by
 refine Canon.pos J (ua h h0) ?_
 intro e
 have:d.length=0:=by rw[<-ja,e];rfl
 simp[eo,List.length_eq_zero_iff.1 this]at h
def jO (h:eo d=true):d.all cC=true:=by
 simp only[eo,Bool.and_eq_true]at h;exact h.1.2
def kP (h:eo d=true):0<d.length/\d.length<=200:=by
 simp only[eo,Bool.and_eq_true,decide_eq_true_eq]at h
 refine⟨?_,h.1.1.2⟩
 have:=h.1.1.1
 cases d <;>simp at this ⊢
def sJ (h:eo d=true):aG d<10^200:=by
 have h1:aG d<10^d.length:=by rw[<-ja];exact ln 10 _ (x5 (jO h))
 exact qb1 h1 (Nat.pow_le_pow_right J (kP h).2)
def ub (h:eo d=true):bw (aG d)=d:=by
 by_cases h0:d=[48]
 · subst h0;decide
 · unfold bw
   rw[if_neg (by have:=pj h h0;omega),<-zZ h h0,C7 (jO h)]
def ox {n:Nat}(h:n≠0):au 10 n≠[]:=λe=>h (by have:=cK 10 J n;rw[e]at this;exact this.symm)
def gK (n:Nat):aG (bw n)=n:=by
 unfold bw
 split
 · next h=>subst h;decide
 · rw[aG,C8 (eO 10 J n),cK 10 J]
def z6 {n:Nat}(h:n<10^200):eo (bw n)=true:=by
 unfold bw
 split
 · decide
 · next h0=>
   have E:=ox h0
   have hl:(au 10 n).length<=200:=(bf 10 J n 200).2 h
   have h1:(cR (au 10 n)).isEmpty=false:=by
    cases hh:cR (au 10 n)with
    |nil=>exact absurd (List.length_eq_zero_iff.1 (by rw[<-cN,hh];rfl)) E
    |cons a b=>rfl
   simp only[eo,h1,GG (eO 10 J n),cN,hl,decide_true,Bool.not_false,Bool.and_self,Bool.true_and,Bool.or_eq_true,decide_eq_true_eq]
   right
   have h2:=j6 10 J n
   have h3:=eO 10 J n
   unfold cR
   rw[List.head?_map,List.head?_reverse]
   cases hg:(au 10 n).getLast? with
   |none=>simp
   | some x=>
     simp only[Option.map_some,ne_eq,Option.some.injEq]
     intro e
     have hx:x<10:=h3 x (List.mem_of_getLast? hg)
     have:=qb2 UInt8.toNat e
     simp at this
     have:x=0:=J
     subst this
     exact h2 hg
def ud (n:Nat):(bw n).head?≠some 45:=by
 unfold bw
 split
 · decide
 · unfold cR
   rw[List.head?_map,List.head?_reverse]
   cases hg:(au 10 n).getLast? with
   |none=>simp
   | some x=>
     have hx:x<10:=eO 10 J n x (List.mem_of_getLast? hg)
     simp only[Option.map_some,ne_eq,Option.some.injEq]
     intro e
     have:=qb2 UInt8.toNat e
     simp at this
     omega
def GH {a b:Nat}(h:bw a=bw b):a=b:=by rw[<-gK a,h,gK]
def x6 (h:l.head?≠some 45):body l=l:=by
 unfold body;split
 · simp at h
 · rfl
def Jp (h:l.head?≠some 45):neg l=false:=by
 unfold neg;split
 · simp at h
 · rfl
def ue (h:neg l=true):l=45::body l:=by
 unfold neg at h;split at h
 · rfl
 · cases h
def pm (h:neg l=false):body l=l:=by
 unfold neg at h;split at h
 · cases h
 · next hh => unfold body;split
              · exact absurd Z (hh _)
              · rfl
def ez (h:isInt l=true):eo (body l)=true:=by
 simp only[isInt,Bool.and_eq_true]at h;exact h.1
def oy (h:isInt l=true)(hn:neg l=true):body l≠[48]:=by
 simp only[isInt,Bool.and_eq_true,hn,Bool.true_and,Bool.not_eq_true',decide_eq_false_iff_not]at h;exact h.2
def WD (l:List UInt8):(aj l).natAbs=aG (body l):=by unfold aj;split <;>simp
def Jq (h:isInt l=true):decide (aj l<0)=neg l:=by
 unfold aj
 cases hn:neg l with
 | true=>
   have:=pj (ez h) (oy h hn)
   simp;omega
 |false=>simp
def e9 (h:isInt l=true):fits (aj l)=true:=by
 simp only[fits,WD,decide_eq_true_eq];exact sJ (ez h)
def uf (h:isInt l=true):ae (aj l)=l:=by
 have E:=Jq h
 unfold ae
 rw[WD,ub (ez h)]
 cases hg:neg l with
 | true=>
   rw[hg,decide_eq_true_eq]at E
   rw[if_pos E,<-ue hg]
 | false=>
   rw[hg,decide_eq_false_iff_not]at E
   rw[if_neg E,pm hg]
def gL (n:Int):body (ae n)=bw n.natAbs:=by
 unfold ae
 split
 · rfl
 · exact x6 (ud _)
def qM (n:Int):neg (ae n)=decide (n<0):=by
 unfold ae
 split
 · next h=>simp[neg,h]
 · next h=>rw[Jp (ud _)];simp[h]
def aJ (n:Int):aj (ae n)=n:=by
 unfold aj
 rw[qM,gL,gK]
 by_cases h:n<0
 · simp[h];omega
 · simp[h];omega
def br {n:Int}(h:fits n=true):isInt (ae n)=true:=by
 have h1:n.natAbs<10^200:=of_decide_eq_true h
 unfold isInt
 rw[gL,qM,z6 h1,Bool.true_and,Bool.not_eq_true',Bool.and_eq_false_iff]
 by_cases hn:n<0
 · right
   rw[decide_eq_false_iff_not]
   intro e
   have:=GH (a:=n.natAbs) (b:=0) (by rw[e];decide)
   omega
 · left;simp[hn]
def ug {a b:List UInt8}(ha:isInt a=true)(hb:isInt b=true)(h:aj a=aj b):a=b:=by
 rw[<-uf ha,h,uf hb]
def nf {a b:Int}(h:ae a=ae b):a=b:=by rw[<-aJ a,h,aJ]
def jP:isInt [48]=true:=by decide
def kQ:aj [48]=0:=by decide
def gi (h:isInt l=true):aj l=0↔l=[48]:=
 ⟨λe=>ug h jP (e.trans kQ.symm),λe=>by rw[e,kQ]⟩
def bg (n:Int):Option (List UInt8):=if fits n then some (ae n)else none
def x7 (a b:List UInt8):Option (List UInt8):=if isInt a&&isInt b then bg (aj a+aj b)else none
def aV (a b:List UInt8):Option (List UInt8):=if isInt a&&isInt b then bg (aj a-aj b)else none
def az (a b:List UInt8):Option (List UInt8):=if isInt a&&isInt b then bg (aj a*aj b)else none
def du (a b:List UInt8):Option (List UInt8×List UInt8):=if isInt a&&isInt b&&decide (b≠[48])then(bg (aj a/aj b)).map λq=>(q,ae (aj a%aj b))else none
def bV (a b:List UInt8):Option (List UInt8):=if isInt a&&isInt b then bg ((Int.gcd (aj a) (aj b):Nat):Int)else none
def dT (a b:List UInt8):Int:=if isInt a&&isInt b then aQ (aj a) (aj b)else 0
end Go.Eng
namespace Go.Proofs.YtlmihmlnpjkblaaGreatDoor
open Go Go.Eng Go.RowKit Go.Sort Go.Proofs Tryz
variable {cs args:Array Value}{nx ny ng:Bool}{gs X:List Nat}{l d s:List UInt8}{b a n1 c1 lo1 n2 c2 lo2 lo D g n i:Nat}{A1 A2:Option Addr}{p:Prop}{t:TypeId}{w w' W W' B A:World}
section
def Tb (w:World):Prop:=∃fz:Nat×Nat,w.heap[4]?=some (.cells ((Lib.pow10Tab.map λz=>Value.int .u64 z).toArray) 306 fz)
def Tb.ext (k:aO w w')(h:Tb w):Tb w':=by
 obtain⟨E,h⟩:=h
 exact⟨E,k.heap h⟩
def ab7:=@Tb.ext
def Tb.gr (k:w.grownBy w' (some b))(hb:ar w b t cs)(ht:t≠306)(h:Tb w):Tb w':=by
 obtain⟨E,h⟩:=h
 refine⟨E,(k.block 4 (Array.getElem?_eq_some_iff.1 h).1 (λe=>?_)).trans h⟩
 cases e
 unfold ar at hb
 rw[hb]at h;cases h;exact ht Z
def Tb.put (k:ee w w' b)(hb:ar w b t cs)(ht:t≠306)(h:Tb w):Tb w':=by
 obtain⟨E,h⟩:=h
 refine⟨E,(k.block 4 (λe=>?_)).trans h⟩
 subst e
 unfold ar at hb
 rw[hb]at h;cases h;exact ht Z
def Tb.tab (h : Tb w) : Lib.TabIs prog w "internal/strconv.uint64pow10" .u64 Lib.pow10Tab := by
 obtain⟨G,h⟩:=h
 unfold Lib.TabIs World.var?
 have E : prog.globalNamed "internal/strconv.uint64pow10" = some 4 := by kernel_rfl
 rw[E]
 simp only[Option.bind_some,h]
def uh {P:Program}{f:FuncId}{R:Ending->World->Prop}{Q:Value->World->Prop}(h:Calls P f args w R)(hq:∀e w',R e w'->∃v,e=.returned v/\aO w w'/\Q v w'):Calls P f args w (aH w Q):=
 h.mono (by
  intro e w' hR
  obtain⟨v,rfl,h1,h2⟩:=hq e w' hR
  exact⟨h1,h2⟩)
def Jr (w:World)(k:Nat)(os:Array Obj):aO w (grow (w.drewN k) os):=by
 refine⟨rfl,rfl,rfl,by simp[grow],λi hi=>?_⟩
 simp only[grow]
 rw[Array.getElem?_append_left (by simpa using hi)]
 rfl
def qN (l:List UInt8):(ByteArray.mk l.toArray).data.toList=l:=by simp
def ui (l:List UInt8):(ByteArray.mk l.toArray).size=l.length:=by simp[ByteArray.size]
def x8 (n:Int)(w:World)(h0:-9223372036854775808<=n)(h1:n<=9223372036854775807)(ht:Tb w):CL 167 #[.int .i64 n] w (aH w λv _=>v=S (Lib.itoa n)):=
 uh (Tryz.strconv_Itoa n h0 h1 w ht.tab) (by
  rintro e w' ⟨rfl,k,os,rfl⟩
  exact⟨_,rfl,Jr w k os,rfl⟩)
def uj (w:World)(e:TypeId)(s:ByteArray):aO w (Lib.bytesWorld w e s):=by
 have h1:aO w (w.drew.alloc (.cells (Lib.bytesCells w e s) e)):=aO.trans (ac3 w) (ae2 _ _)
 have h2:w.heap.size<(w.drew.alloc (.cells (Lib.bytesCells w e s) e)).heap.size:=by simp[World.alloc,World.drew,-World.alloc_eq,-World.drew_eq]
 unfold Lib.bytesWorld World.freeze
 refine⟨h1.os,h1.tape,h1.output,by simpa using h1.size,λi hi=>?_⟩
 rw[<-h1.block i hi]
 split
 · next h=>cases h
 · show(Array.modify _ _ _)[i]? =_
   rw[Array.getElem?_modify,if_neg KK]
def Oh (l:List UInt8)(n:Int)(w:World)(hl:l.length<=18)(h:Lib.atoi l=some n):CL 206 #[S l] w (aH w λv _=>v=.tuple #[.int .i64 n,.nilIface]):=
 uh (Tryz.strconv_Atoi ⟨l.toArray⟩ n (by rw[ui];exact hl) (by rw[qN];exact h) w) (by
  rintro e w' ⟨rfl,t,rfl⟩
  exact⟨_,rfl,uj w 5 t,rfl⟩)
def qO (l:List UInt8)(c:Nat)(w:World)(hc:c<=1000000)(hl:l.length<=1000000):CL 168 #[S l,.int .i64 ((c:Nat):Int)] w (aH w λv _=>v=S (Lib.repeatL l c)):=by
 refine uh (Tryz.strings_Repeat ⟨l.toArray⟩ c w J (by rw[ui];have:=qb9 hl hc;omega)) ?_
 rintro e w' ⟨rfl,k⟩
 exact⟨_,rfl,k,by rw[qN];rfl⟩
def wg (l p:List UInt8)(w:World):CL 204 #[S l,S p] w (aH w λv _=>v=S (Lib.trimPrefix l p)):=
 uh (Tryz.strings_TrimPrefix ⟨l.toArray⟩ ⟨p.toArray⟩ w) (by
  rintro e w' ⟨rfl,rfl⟩
  exact⟨_,rfl,aa3 _,by rw[qN,qN];rfl⟩)
def si (l:List UInt8):Lib.trimPrefix l [45]=body l:=by
 unfold Lib.trimPrefix Lib.hasPrefix
 cases l with
 |nil=>rfl
 | cons c t=>
   by_cases hc:c=45
   · subst hc;simp[List.isPrefixOf,body]
   · have h1:([45]:List UInt8).isPrefixOf (c::t)=false:=by
      simp[List.isPrefixOf];exact λh=>hc h.symm
     rw[h1,x6 (by simpa using hc)];rfl
def gq:List UInt8:=[48,49,50,51,52,53,54,55,56,57]
def Oi (l:List UInt8)(w:World)(hl:l.length<=9223372036854775807):CL 205 #[S l,S gq] w (aH w λv _=>v=S (Lib.trimS l gq)):=
 uh (Any.strings_Trim_laid Tryz.lays160 Hx ⟨l.toArray⟩ ⟨gq.toArray⟩ w (by rw[ui];exact hl) MT (ascii_of_all MT)) (by
  rintro e w' ⟨rfl,k⟩
  exact⟨_,rfl,k,by rw[qN,qN];rfl⟩)
end
section
attribute [local irreducible] wpListIn Code.wpIn Oper.wpIn Exit.then Exit.inBlock Exit.noGoto
set_option maxHeartbeats 40000000
def aY (h:p:=by assumption):p:=h
def x9 (l:List UInt8)(w:World):CL 204 #[S l,S [45]] w (aH w λv _=>v=S (body l)):=by
 have h:=wg l [45] w
 rw[si]at h
 exact h
def uk {b:UInt8}:gq.contains b=cC b:=by
 have h:∀b:Fin 256,gq.contains (UInt8.ofNat b.val)=cC (UInt8.ofNat b.val):=by decide +kernel
 have:=h ⟨b.toNat,b.toNat_lt⟩
 simpa using this
def wH (d:List UInt8):Lib.trimS d gq=[]↔d.all cC=true:=by
 have hd:∀l:List UInt8,l.dropWhile (λb=>gq.contains b)=[]↔l.all cC=true:=by
  intro l
  induction l with
  |nil=>simp
  | cons a t ih=>
    simp only[List.dropWhile_cons,List.all_cons,uk]at ih ⊢
    cases cC a <;>simp_all
 unfold Lib.trimS Lib.trimLeftS
 rw[hd]
 unfold Lib.trimRightS
 constructor
 · intro h
   by_cases hn:(d.reverse.dropWhile (λb=>gq.contains b))=[]
   · rw[hd]at hn;simpa using hn
   · exfalso
     have h2:(d.reverse.dropWhile (λb=>gq.contains b)).head hn∉gq:=by
      have:=List.head_dropWhile_not (p:=λb=>gq.contains b) (l:=d.reverse) hn
      simpa using this
     have h3:cC ((d.reverse.dropWhile (λb=>gq.contains b)).head hn)=true:=by
      refine List.all_eq_true.1 h _ ?_
      rw[List.mem_reverse]
      exact List.head_mem hn
     rw[<-uk]at h3
     exact h2 (by simpa using h3)
 · intro h
   have:(d.reverse.dropWhile (λb=>gq.contains b))=[]:=by rw[hd];simpa using h
   rw[this];rfl
def Js (h:body l=[]):Value.bool false=.bool (isInt l):=by simp[isInt,eo,h]
def Jt (h:(200:Int)<(((body l).length:Nat):Int)):Value.bool false=.bool (isInt l):=by
 have:¬(body l).length<=200:=J
 simp[isInt,eo,this]
def Ju (h:¬Lib.trimS (body l) gq=[]):Value.bool false=.bool (isInt l):=by
 rw[wH]at h
 simp[isInt,eo,h]
def Jv (h:l=[48]):Value.bool true=.bool (isInt l):=by subst h;rw[jP]
def Oj (h:¬l=[]):0<l.length:=List.length_pos_iff.2 h
def z7 {c:UInt8}(hc:(body l)[0]?=some c)(h1:¬body l=[])(h2:¬(200:Int)<(((body l).length:Nat):Int))(h3:Lib.trimS (body l) gq=[])(h4:¬l=[48]):
 Value.bool (!decide (((c.toNat:Nat):Int)=48))=.bool (isInt l):=by
 rw[wH]at h3
 have O:(body l).length<=200:=J
 have G:(body l).isEmpty=false:=by cases hb:body l <;>simp_all
 have H:(((c.toNat:Nat):Int)=48)↔c=48:=by
  constructor
  · intro h;exact UInt8.toNat_inj.1 (by have:(48:UInt8).toNat=48:=rfl;omega)
  · intro h;subst h;rfl
 have A0:(body l).head?=some c:=by rw[List.head?_eq_getElem?];exact hc
 congr 1
 simp only[isInt,eo,h3,O,G,A0,decide_true,Bool.not_false,Bool.true_and,Option.some.injEq,H,ne_eq]
 by_cases hb:body l=[48]
 · have E:neg l=true:=by
    cases E:neg l with
    |true=>rfl
    |false=>exact absurd ((pm E).symm.trans hb) h4
   have:c=48:=by rw[hb]at hc;simpa using hc.symm
   simp[hb,E,this]
 · simp[hb]
set_option maxRecDepth 100000 in
theorem iB (l:List UInt8)(w:World):
 CL 156 #[S l] w (aH w λv w'=>v=.bool (isInt l)):=by
 refine aD func156 rfl ?_;refine I ?_;refine cl Iw (x9 l _) ?_;rintro _ _ H rfl;have E4:=H.2;refine I ?_;by_cases h5:(body l)=([]);refine I ?_;refine sh (b:=[]) ?_;refine I ?_;exact am (t:=2) (v:=.bool false) rfl E4 (by first|exact Js aY|exact Jt aY|exact Ju aY|exact Jv aY|exact z7 aY aY aY aY aY) rfl;by_cases h6:200<(((body l).length:Nat):Int);refine I ?_;refine sh (b:=[]) ?_;refine I ?_;refine aa (dE (l:=body l) U9 rfl ?_);refine I ?_;exact am (t:=2) (v:=.bool false) rfl E4 (by first|exact Js aY|exact Jt aY|exact Ju aY|exact Jv aY|exact z7 aY aY aY aY aY) rfl;refine I ?_;refine sh (b:=[]) ?_;refine I ?_;refine aa (dE (l:=body l) U9 rfl ?_);refine I ?_;refine clb Wm (hc:=Oi (body l) _ U) (hk:=?_);rintro _ _ G rfl;have E4:=xt E4 G.2;refine I ?_;refine nes (b:=[]) ?_;refine I ?_;by_cases h10:(Lib.trimS (body l) gq)=([]);refine I ?_;by_cases h11:l=([48]);refine I ?_;refine sh (b:=[48]) ?_;refine I ?_
 exact am (t:=2) (v:=.bool true) rfl E4 (by first|exact Js aY|exact Jt aY|exact Ju aY|exact Jv aY|exact z7 aY aY aY aY aY) rfl;refine I ?_;refine sh (b:=[48]) ?_;refine I ?_;have E:=dz (l:=body l) (i:=0) (Oj aY);refine aa (iu (l:=body l) (i:=0) (c:=((body l).getD 0 0)) U9 rfl rfl E ?_);refine I ?_;exact am (t:=2) (v:=.bool (!decide (((((body l).getD 0 0).toNat:Nat):Int)=48))) rfl E4 (by first|exact Js aY|exact Jt aY|exact Ju aY|exact Jv aY|exact z7 aY aY aY aY aY) rfl;refine I ?_;exact am (t:=2) (v:=.bool false) rfl E4 (by first|exact Js aY|exact Jt aY|exact Ju aY|exact Jv aY|exact z7 aY aY aY aY aY) rfl
def z8 (a b:List UInt8):eJ (a++b)=eJ b++eJ a:=by simp[eJ]
def C9 (gs:List Nat)(a b:List Nat)(v:Nat)(k:Nat)(hk:gs.length=k)(ha:a.length=4*k)(h:bU 10000 gs=bU 10 a)(hv:v=bU 10 b):bU 10000 (gs++[v])=bU 10 (a++b):=by
 rw[cu,cu,h,ha,hk,hv]
 have:(10:Nat)^(4*k)=10000^k:=by rw[Nat.pow_mul]
 rw[this]
 simp[bU]
def pn:∀(l:List UInt8) (acc:Nat),l.all cC=true->Lib.decFrom acc l=some (acc*10^l.length+bU 10 (eJ l))
 |[],acc,_=>by simp[Lib.decFrom,eJ,bU]
 | c::t,acc,h=>by
   simp only[List.all_cons,Bool.and_eq_true]at h
   have h1:=h.1
   simp only[cC,Bool.and_eq_true,decide_eq_true_eq]at h1
   rw[Lib.decFrom,Lib.digitVal,if_pos h1]
   simp only[]
   rw[pn t _ h.2]
   have e:eJ (c::t)=eJ t++[c.toNat-48]:=by simp[eJ]
   rw[e,cu,ja]
   simp only[bU,List.length_cons,Nat.pow_succ,Option.some.injEq]
   generalize 10^t.length=p
   generalize c.toNat-48=x
   rw[Nat.add_mul,Nat.mul_comm p 10,<-Nat.mul_assoc,Nat.mul_comm x p]
   simp
   omega
def GI (h:l.all cC=true)(h0:l≠[]):Lib.atoi l=some ((bU 10 (eJ l):Nat):Int):=by
 cases l with
 |nil=>exact absurd Z h0
 | cons c t=>
   have hc:cC c=true:=by simp at h;exact h.1
   simp only[cC,Bool.and_eq_true,decide_eq_true_eq]at hc
   have h1:(c==45)=false:=by
    rw[beq_eq_false_iff_ne];intro e;subst e;exact absurd hc.1 dc
   have h2:(c==43)=false:=by
    rw[beq_eq_false_iff_ne];intro e;subst e;exact absurd hc.1 dc
   rw[Lib.atoi,h1,h2]
   simp only[Bool.false_eq_true,if_false]
   rw[Lib.decNat]
   simp only[List.isEmpty_cons,Bool.false_eq_true,if_false]
   rw[pn _ 0 h]
   simp
def Da (l:List UInt8)(h:l.all cC=true)(hl:l.length<=4):bU 10 (eJ l)<10000:=by
 have h1:=ln 10 (eJ l) (x5 h)
 rw[ja]at h1
 exact qb1 h1 (qa8 (Nat.pow_le_pow_right U hl) U)
def Aa (h:d.all cC=true)(i j:Nat):((d.take j).drop i).all cC=true:=by
 rw[List.all_eq_true]at *
 exact λx hx=>h x (List.mem_of_mem_take (List.mem_of_mem_drop hx))
structure HY (d:List UInt8)(m:Nat)(gs:List Nat):Prop where
 le:m<=d.length
 full:0<m->d.length-m=4*gs.length
 val:bU 10000 gs=bU 10 (eJ (d.drop m))
 lt:∀g∈gs,g<10000
 cnt:gs.length<=d.length
def HY.start (d:List UInt8):HY d d.length []:=⟨qa0 _,λ_=>by simp,by simp[eJ,bU],by simp,by simp⟩
def HY.step {m:Nat}(hd:d.all cC=true)(h:HY d m gs)(hm:0<m):HY d (m-4) (gs++[bU 10 (eJ ((d.take m).drop (m-4)))]):=by
 have G:=h.le
 have hf:=h.full hm
 refine⟨by omega,λ_=>by simp;omega,?_,?_,by simp;omega⟩
 · have e:d.drop (m-4)=(d.take m).drop (m-4)++d.drop m:=by
    rw[<-List.drop_append_of_le_length KK,List.take_append_drop]
   rw[e,z8]
   exact C9 _ _ _ _ _ Z (by rw[ja,List.length_drop];exact hf) h.val Z
 · intro g E
   rcases List.mem_append.1 E with E|E
   · exact h.lt g E
   · rw[List.mem_singleton.1 E]
     exact Da _ (Aa hd _ _) KK
def HY.len {m:Nat}(h:HY d m gs)(hm:0<m):gs.length<=d.length:=by have:=h.full hm;have:=h.le;omega
def Sg (w:World)(lo:Nat)(ng:Bool)(a:Nat)(v:Value):Prop:=∃A n c,v=.agg #[.bool ng,.slice A n c]/\en w lo A n c a
def Ol (m:Nat):(if(0:Int)<(m:Int)-4 then(m:Int)-4 else 0)=((m-4:Nat):Int):=by split <;>omega
def Db (l:List UInt8):decide (((body l).length:Int)<((l.length:Nat):Int))=neg l:=by
 cases h:neg l with
 |true=>rw[ue h];simp[body];omega
 |false=>rw[pm h];simp
def TQ (h:0<l.length):l≠[]:=List.length_pos_iff.1 h
def HY.all {m:Nat}(h:HY d m gs)(hm:¬0<m):bU 10000 gs=aG d:=by
 have:=h.val
 rw[show m=0 by omega,List.drop_zero]at this
 exact this
set_option maxRecDepth 100000 in
def Ac (l:List UInt8)(w:World)(h:isInt l=true):
 CL 157 #[S l] w (aH w λv w'=>Sg w' w.heap.size (neg l) (aG (body l)) v):=by
 have Az:=ez h;have hd:=jO Az;have ES:=kP Az;refine aD func157 Z (I ?_);refine al bI (λ_ E4 E=>?_);have E16:=E4.2;refine I ?_;refine cl Iw (x9 l _) ?_;rintro _ Af CB rfl;have⟨E,E16⟩:=bo CB.2 E E16;refine I ?_;refine aa (dE (l:=body l) U9 Z ?_);refine I ?_;refine aa (dE (l:=l) U9 Z ?_);refine I ?_;rw[Db];refine aa (bX (vs:=[(0,.bool (neg l))]) (cells:=#[.bool (neg l),.slice none 0 0]) (pl:=[(0,1),(1,1)]) kJ bI Hx Z Hx ?_);refine al bI (λ_ CG D1=>?_);have⟨E,E16⟩:=bo CG.2 E E16;refine SA D1 (λB1 Cr G=>?_);have⟨E,E16,_⟩:=j3 Cr E E16;refine I ?_;have CY:World.ownsRow B1 w.heap.size 3 1 (.slice none 0 0) 0 (ints []):=bK;refine b7 [(3,3),(5,7),(16,38)] (λB2 e W=>∃m:Nat,∃gs:List Nat,∃H:Value,(m=B2)/\(e 3=S ((body l).take m))/\(HY (body l) m gs)/\((H).ownBlock≠some w.heap.size)/\((H).ownBlock≠some Af.heap.size)/\(aO w W)/\(ar W w.heap.size 161 #[.bool false,.slice none 0 0])/\(ar W Af.heap.size 161 #[.bool (neg l),H])/\(W.ownsRow w.heap.size 3 1 H gs.length (ints gs))) ((body l).length) ⟨(body l).length,[],.slice none 0 0,rfl,(qb2 S (by rw[List.take_length])),(HY.start _),(by simp[Value.ownBlock]),(by simp[Value.ownBlock]),E16,E,G,CY⟩ ?_
 rintro _ _ _ ⟨m,gs,H,rfl,p31,q1,n26,n27,E32,E,G,ho⟩;have FR:=bz E32;have E1:=q1.le;by_cases hm:0<m;have E7:=q1.len hm;have E1:=q1.le;refine I ?_;refine aa (j9 (l:=(body l).take m) (m:=m) U9 Z KK ?_);refine I ?_;refine aa (j9 (l:=(body l).take m) (m:=m) U9 Z KK ?_);refine qk ?_;refine aa (If (a:=0) (b:=(m:Int)-4) (m:=((m-4:Nat):Int)) Z Z (Ol m) ?_);refine I ?_;refine aa (mx (l:=(body l).take m) (i:=(m-4)) (j:=((body l).take m).length) U9 Z (.inr ⟨_,congrArg some Z⟩) (.inl ⟨rfl,rfl⟩) KK Rg ?_);rw[show(((body l).take m).take (((body l).take m).length)).drop (m-4)=((body l).take m).drop (m-4)by rw[List.take_length]];refine clb Wn (hc:=Oh _ _ _ KK (GI (Aa hd _ _) (TQ KK))) (hk:=?_);rintro _ _ A0 rfl;have⟨E,G⟩:=dN A0.2 E G;have ho:=ab A0.2 ho;have E32:=xt E32 A0.2;refine I ?_;refine BS (λ_ As _ D2=>?_);have⟨E,G⟩:=dN As E G;have ho:=ab As ho;have E32:=xt E32 As;refine AP ho (aa7 D2) (λAy _ O Am B0=>?_);have n46:=aR B0 n26 (bt E);have n47:=aR B0 n27 (bt G);have E:=aa2 Am (λe=>n26 e.symm) E;have G:=aa2 Am (λe=>n27 e.symm) G;have E32:=bu ho U U E32 Am;refine I ?_
 refine aa (cJ (b:=Af.heap.size) (o:=1) (v:=Ay) mB Z Z (bP O) G (qa3 Z) (λ_ Ao E6=>?_));have E:=pb Ao E;have O:=aw Ao n47 O;have E32:=bi Ao E32;refine I ?_;refine aa (mx (l:=(body l).take m) (i:=0) (j:=(m-4)) U9 Z (.inl ⟨rfl,rfl⟩) (.inr ⟨_,qb2 some Z⟩) U KK ?_);rw[show(((body l).take m).take (m-4)).drop 0=((body l).take m).take (m-4)from rfl];refine I ?_;exact bF ⟨m-4,gs++[bU 10 (eJ (((body l).take m).drop (m-4)))],Ay,rfl,(qb2 S (by rw[List.take_take];congr 1;omega)),(HY.step hd q1 hm),n46,n47,E32,E,E6,(aP O Rg (by rw[mL];rfl))⟩;obtain⟨Av,Ar,rfl,E5,-⟩:=e8 ho;have E9:=q1.cnt;refine I ?_;refine aa (j9 (l:=(body l).take m) (m:=m) U9 Z KK ?_);refine I ?_;refine clb ry (hc:=fV (aa7 ho) Z E5 U) (hk:=?_);rintro _ _ Aw ⟨Aq,rfl,C0,EW⟩;have⟨E,G⟩:=dN Aw.2 E G;have ho:=ab Aw.2 ho;have E32:=xt E32 Aw.2;refine I ?_;refine SO G (λ_ Ab Ax=>?_);have E:=pb Ab E;have ho:=aw Ab n27 ho;have E32:=bi Ab E32;refine I ?_;refine SA E (λ_ Ap E0=>?_);have Ax:=pb Ap Ax;have ho:=aw Ap n26 ho;have E32:=bi Ap E32;refine I ?_
 refine aW (v:=.agg #[.bool (neg l),.slice Av Aq Ar]) (ci  rfl ?_) E32 ⟨Av,Aq,Ar,rfl,zY (aa7 ho) q1.lt (q1.all hm) C0 U U⟩;refine ai (t:=2) (cs:=[.bool (neg l),.slice Av Aq Ar]) (b:=w.heap.size) (o:=0) kJ Z mC ?_ ?_;exact Z;exact aa0 E0 (i:=0) Z
set_option maxRecDepth 100000
def fY (h:p:=by assumption):p:=h
def bT (ng:Bool)(a:Nat):Int:=if ng then -(a:Int)else(a:Int)
def EN (h:(0:Int)<=aQ (a:Int) (b:Int)):b<=a:=by
 rcases Nat.lt_or_ge a b with h1|h1
 · rw[gh U]at h;omega
 · exact h1
def Ad (h:¬(0:Int)<=aQ (a:Int) (b:Int)):a<=b:=by
 rcases Nat.lt_or_ge a b with h1|h1
 · omega
 · rcases Nat.eq_or_lt_of_le h1 with h2|h2
   · omega
   · rw[eY U]at h;omega
def gj (h:(nx==ny)=true):bT nx (a+b)=bT nx a+bT ny b:=by
 have:nx=ny:=by simpa using h
 subst this
 unfold bT;split <;>omega
def iC (h:(nx==ny)=false)(hle:b<=a):bT nx (a-b)=bT nx a+bT ny b:=by
 cases nx <;>cases ny <;>simp_all [bT] <;>omega
def iD (h:(nx==ny)=false)(hle:a<=b):bT ny (b-a)=bT nx a+bT ny b:=by
 cases nx <;>cases ny <;>simp_all [bT] <;>omega
def Ae (h1:en w lo1 A1 n1 c1 a)(s1:n1<=9000)(h2:en w lo2 A2 n2 c2 b)(s2:n2<=9000):
 CL 142 #[.agg #[.bool nx,.slice A1 n1 c1],.agg #[.bool ny,.slice A2 n2 c2]] w (aH w λv w'=>∃ng r A n c,v=.agg #[.bool ng,.slice A n c]/\en w' w.heap.size A n c r/\bT ng r=bT nx a+bT ny b):=by
 refine aD func142 Z (I ?_);refine bx (λ_ Ao H=>?_);have h1:=aa6 Ao.2 h1;have h2:=aa6 Ao.2 h2;have E63:=Ao.2;refine bx (λAz Af O=>?_);have h1:=aa6 Af.2 h1;have h2:=aa6 Af.2 h2;have⟨H,E63⟩:=bo Af.2 H E63;refine al bI (λB2 Aq Ab=>?_);have h1:=aa6 Aq.2 h1;have h2:=aa6 Aq.2 h2;have⟨H,O,E63⟩:=ca Aq.2 H O E63;refine I ?_;refine aa (Ie (a:=nx) (b:=ny) (q:=(nx==ny)) U4 Z Z Z ?_);refine I ?_;rcases qa4 (nx==ny)with h70|h70;refine I ?_;obtain⟨L,hL⟩:∃L,L=B2.heap.size:=⟨_,rfl⟩;refine bQ 7 ?_;refine sf ?_;refine bY (λv w=>Wf L (a+b) v w) (hs:=λ_ _ _ k h=>h.ext k) (λ_ _ hR97 _=>?_) ?_;have h1:=aa6 hR97 h1;have h2:=aa6 hR97 h2;refine clb zw (hc:=pg h1 U h2 U) (hk:=?_);rintro _ _ Cr ⟨Ar,G,E,rfl,hr⟩;have D1:=Cr.2;have hr:=hr.mono (lo':=L) (by have:=bz hR97;omega);refine I ?_;exact fs ⟨D1,⟨Ar,G,E,rfl,hr⟩⟩;refine sf ?_;intro _ _ E1 E6;have⟨H,O,Ab,E63⟩:=fw E1.2 H O Ab E63;obtain⟨Ar,G,E,C0,hr⟩:=(E6 6 17 Z Z);refine aa (bX (vs:=[(0,.bool nx),(1,.slice Ar G E)]) (cells:=#[.bool nx,.slice Ar G E]) (pl:=[(0,1),(1,1)]) kJ bI Hx (cj Z (cj C0 Z)) Hx ?_)
 refine SA Ab (λ_ Aw CB=>?_);have⟨H,O⟩:=js Aw H O;have hr:=ac8 Aw U hr;have E63:=bi Aw E63;refine I ?_;refine aW (v:=.agg #[.bool nx,.slice Ar G E]) (ci  rfl ?_) E63 ⟨_,_,_,_,_,rfl,hr.mono U,by first|exact gj fY|exact iC fY A0|exact iD fY A0⟩;refine ai (t:=4) (cs:=[.bool nx,.slice Ar G E]) (b:=Az.heap.size) (o:=0) kJ Z mC ?_ ?_;exact Z;exact aa0 CB (i:=0) Z;refine I ?_;refine clb zx (hc:=jN h1 U h2) (hk:=?_);rintro _ B0 Ax rfl;have h1:=aa6 Ax.2 h1;have h2:=aa6 Ax.2 h2;have⟨H,O,Ab,E63⟩:=fw Ax.2 H O Ab E63;refine I ?_;by_cases wr:0<=(aQ (a:Int) (b:Int));refine I ?_;obtain⟨L,hL⟩:∃L,L=B0.heap.size:=⟨_,rfl⟩;have A0:=EN fY;have Am:n2<=n1:=by rw[<-h1.len,<-h2.len];exact ey U A0
 refine bQ 7 ?_;refine sf ?_;refine bY (λv w=>Wf L (a-b) v w) (hs:=λ_ _ _ k h=>h.ext k) (λ_ _ Ap _=>?_) ?_;have h1:=aa6 Ap h1;have h2:=aa6 Ap h2;refine clb Eh (hc:=pi h1 U h2 U A0 Am) (hk:=?_);rintro _ _ E7 ⟨Ar,G,E,rfl,hr⟩;have CY:=E7.2;have hr:=hr.mono (lo':=L) (by have:=bz Ap;omega);refine I ?_;exact fs ⟨CY,⟨Ar,G,E,rfl,hr⟩⟩;refine sf ?_;intro _ _ EW FR;have⟨H,O,Ab,E63⟩:=fw EW.2 H O Ab E63;obtain⟨Ar,G,E,E4,hr⟩:=(FR 6 32 Z Z);refine aa (bX (vs:=[(0,.bool nx),(1,.slice Ar G E)]) (cells:=#[.bool nx,.slice Ar G E]) (pl:=[(0,1),(1,1)]) kJ bI Hx (cj Z (cj E4 Z)) Hx ?_);refine SA Ab (λ_ Av CG=>?_);have⟨H,O⟩:=js Av H O;have hr:=ac8 Av U hr;have E63:=bi Av E63;refine I ?_;refine aW (v:=.agg #[.bool nx,.slice Ar G E]) (ci  rfl ?_) E63 ⟨_,_,_,_,_,rfl,hr.mono U,by first|exact gj fY|exact iC fY A0|exact iD fY A0⟩;refine ai (t:=4) (cs:=[.bool nx,.slice Ar G E]) (b:=Az.heap.size) (o:=0) kJ Z mC ?_ ?_;exact Z;exact aa0 CG (i:=0) Z;refine I ?_;obtain⟨L,hL⟩:∃L,L=B0.heap.size:=⟨_,rfl⟩;have A0:=Ad fY;have Am:n1<=n2:=by rw[<-h1.len,<-h2.len];exact ey U A0
 refine bQ 7 ?_;refine sf ?_;refine bY (λv w=>Wf L (b-a) v w) (hs:=λ_ _ _ k h=>h.ext k) (λ_ _ As _=>?_) ?_;have h1:=aa6 As h1;have h2:=aa6 As h2;refine clb Eh (hc:=pi h2 U h1 U A0 Am) (hk:=?_);rintro _ _ ES ⟨Ar,G,E,rfl,hr⟩;have B1:=ES.2;have hr:=hr.mono (lo':=L) (by have:=bz As;omega);refine I ?_;exact fs ⟨B1,⟨Ar,G,E,rfl,hr⟩⟩;refine sf ?_;intro _ _ D2 E9;have⟨H,O,Ab,E63⟩:=fw D2.2 H O Ab E63;obtain⟨Ar,G,E,E5,hr⟩:=(E9 6 40 Z Z);refine aa (bX (vs:=[(0,.bool ny),(1,.slice Ar G E)]) (cells:=#[.bool ny,.slice Ar G E]) (pl:=[(0,1),(1,1)]) kJ bI Hx (cj Z (cj E5 Z)) Hx ?_);refine SA Ab (λ_ Ay E0=>?_);have⟨H,O⟩:=js Ay H O;have hr:=ac8 Ay U hr;have E63:=bi Ay E63;refine I ?_;refine aW (v:=.agg #[.bool ny,.slice Ar G E]) (ci  rfl ?_) E63 ⟨_,_,_,_,_,rfl,hr.mono U,by first|exact gj fY|exact iC fY A0|exact iD fY A0⟩;refine ai (t:=4) (cs:=[.bool ny,.slice Ar G E]) (b:=Az.heap.size) (o:=0) kJ Z mC ?_ ?_;exact Z;exact aa0 E0 (i:=0) Z
def lC (a b:List UInt8)(w:World)(ha:isInt a=true)(hb:isInt b=true):
 CL 119 #[S a,S b] w (aH w λv w'=>∃A1 n1 c1 A2 n2 c2,v=.tuple #[.agg #[.bool (neg a),.slice A1 n1 c1],.agg #[.bool (neg b),.slice A2 n2 c2],.bool true]/\en w' w.heap.size A1 n1 c1 (aG (body a))/\en w' w.heap.size A2 n2 c2 (aG (body b))):=by
 refine aD func119 Z (I ?_);refine al bI (λAq Ap G=>?_);have E:=Ap.2;refine al bI (λ_ Ar H=>?_);have⟨G,E⟩:=bo Ar.2 G E;refine I ?_;refine cl wt (iB a _) ?_;rintro _ _ As rfl;have⟨G,H,E⟩:=ca As.2 G H E;refine I ?_;refine cl wt (iB b _) ?_;rintro _ _ Am rfl;have⟨G,H,E⟩:=ca Am.2 G H E;refine I ?_;refine cl QS (Ac _ _ ha) ?_;rintro _ _ Av ⟨A1,n1,c1,rfl,h1⟩;have⟨G,H,E⟩:=ca Av.2 G H E;refine I ?_;refine cl QS (Ac _ _ hb) ?_;rintro _ _ Ab ⟨A2,n2,c2,rfl,h2⟩;have⟨G,H⟩:=dN Ab.2 G H;have h1:=aa6 Ab.2 h1;have E:=xt E Ab.2;refine SA G (λ_ O Af=>?_);have H:=pb O H;have h1:=ac8 O U h1;have h2:=ac8 O U h2;have E:=bi O E;refine SA H (λ_ A0 Ao=>?_);have Af:=pb A0 Af;have h1:=ac8 A0 U h1;have h2:=ac8 A0 U h2;have E:=bi A0 E;refine I ?_;refine aW (v:=.tuple #[.agg #[.bool (neg a),.slice A1 n1 c1],.agg #[.bool (neg b),.slice A2 n2 c2],.bool true]) (Nq (r1:=.cell 4 161) (r2:=.cell 5 161) (r3:=.tmp 6) Z ?_ ?_ ?_) E ⟨_,_,_,_,_,_,rfl,h1.mono U,h2.mono U⟩;refine ai (t:=4) (cs:=[.bool (neg a),.slice A1 n1 c1]) (b:=w.heap.size) (o:=0) kJ Z mC ?_ ?_;exact Z;exact aa0 Af (i:=0) Z;refine ai (t:=5) (cs:=[.bool (neg b),.slice A2 n2 c2]) (b:=Aq.heap.size) (o:=0) kJ Z mC ?_ ?_;exact Z
 exact aa0 Ao (i:=0) Z;exact aM (t:=6) RM _
def nh (a b:List UInt8)(w:World)(hno:(isInt a&&isInt b)=false):
 CL 119 #[S a,S b] w (aH w λv w'=>v=.tuple #[.agg #[.bool false,.slice none 0 0],.agg #[.bool false,.slice none 0 0],.bool false]):=by
 refine aD func119 Z (I ?_);refine al bI (λAm Aq H=>?_);have E:=Aq.2;refine al bI (λ_ nm G=>?_);have⟨H,E⟩:=bo nm.2 H E;refine I ?_;rcases qa4 (isInt a)with cw|cw;refine I ?_;refine cl wt (iB a _) ?_;rintro _ _ Ar rfl;have⟨H,G,E⟩:=ca Ar.2 H G E;refine I ?_;refine cl wt (iB b _) ?_;rintro _ _ Aw rfl;have⟨H,G,E⟩:=ca Aw.2 H G E;refine I ?_;rcases qa4 (isInt b)with np|np;exact absurd hno (by simp[*]);refine I ?_;refine SA H (λ_ Ab O=>?_);have G:=pb Ab G;have E:=bi Ab E;refine SA G (λ_ Ap Ax=>?_);have O:=pb Ap O;have E:=bi Ap E;refine I ?_;refine aW (v:=.tuple #[.agg #[.bool false,.slice none 0 0],.agg #[.bool false,.slice none 0 0],.bool false]) (Nq (r1:=.cell 4 161) (r2:=.cell 5 161) (r3:=.tmp 6) Z ?_ ?_ ?_) E Z;refine ai (t:=4) (cs:=[.bool false,.slice none 0 0]) (b:=w.heap.size) (o:=0) kJ Z mC ?_ ?_;exact Z;exact aa0 O (i:=0) Z;refine ai (t:=5) (cs:=[.bool false,.slice none 0 0]) (b:=Am.heap.size) (o:=0) kJ Z mC ?_ ?_;exact Z;exact aa0 Ax (i:=0) Z
 exact aM (t:=6) RM _;refine I ?_;refine cl wt (iB a _) ?_;rintro _ _ As rfl;have⟨H,G,E⟩:=ca As.2 H G E;refine I ?_;refine SA H (λ_ Af A0=>?_);have G:=pb Af G;have E:=bi Af E;refine SA G (λ_ Ao Av=>?_);have A0:=pb Ao A0;have E:=bi Ao E;refine I ?_;refine aW (v:=.tuple #[.agg #[.bool false,.slice none 0 0],.agg #[.bool false,.slice none 0 0],.bool false]) (Nq (r1:=.cell 4 161) (r2:=.cell 5 161) (r3:=.tmp 6) Z ?_ ?_ ?_) E Z;refine ai (t:=4) (cs:=[.bool false,.slice none 0 0]) (b:=w.heap.size) (o:=0) kJ Z mC ?_ ?_;exact Z;exact aa0 A0 (i:=0) Z;refine ai (t:=5) (cs:=[.bool false,.slice none 0 0]) (b:=Am.heap.size) (o:=0) kJ Z mC ?_ ?_;exact Z;exact aa0 Av (i:=0) Z;exact aM (t:=6) RM _
def iE (l:List UInt8)(w:World):
 CL 118 #[S l] w (aH w λv w'=>v=.bool (isInt l)):=by
 refine aD func118 Z (I ?_);refine cl wt (iB l _) ?_;rintro _ _ G rfl;have E:=G.2;refine I ?_;exact am (t:=2) (v:=.bool (isInt l)) Z E Z Z
def cZ (h:p:=by assumption):p:=h
def po (w:World)(b:Nat)(l:List UInt8):Prop:=Lib.IsBuilderF 208 5 b b (Lib.byteCells l) w
def Jw {p:Value}{bs:List Value}(hk:∀(k:Nat) (c:Array Value) (t:TypeId) (fz:Nat×Nat),w.heap[k]?=some (Obj.cells c t fz)->w'.heap[k]?=w.heap[k]?)(h:Lib.BuilderAtF 208 5 b b p bs w):Lib.BuilderAtF 208 5 b b p bs w':=by
 obtain⟨hB,v,hb,⟨hl,hv|⟨g,cap,H,fz,rfl,O,G,r⟩⟩,E⟩:=h
 · exact⟨hB,v,(hk _ _ _ _ hb).trans hb,⟨hl,.inl hv⟩,E⟩
 · exact⟨hB,_,(hk _ _ _ _ hb).trans hb,⟨hl,.inr ⟨g,cap,H,fz,rfl,O,(hk _ _ _ _ G).trans G,r⟩⟩,E⟩
def po.of (hk:∀(k:Nat) (c:Array Value) (t:TypeId) (fz:Nat×Nat),w.heap[k]?=some (Obj.cells c t fz)->w'.heap[k]?=w.heap[k]?)(h:po w b l):po w' b l:=
 h.elim (λx=>.inl (Jw hk x)) (λx=>.inr (Jw hk x))
def po.ext (k:aO w w')(h:po w b l):po w' b l:=po.of (h:=h) (λi _ _ _ hi=>k.block i (Array.getElem?_eq_some_iff.1 hi).1)
def po.cel {row:Option Nat}{B:Nat}(hg:W.grownBy W' row)(hr:∀r,row=some r->B<=r/\∃o:Obj,W.heap[r]?=some o/\o.isCells=false)(h:po W b l):po W' b l:=
 po.of (h:=h) (λi _ _ _ hi=>grownBy_keeps_cells hg (λr e=>(hr r e).2) hi Z)
def po.start (h:ar w b 208 #[.pointer none,.slice none 0 0]):po w b []:=
 .inl ⟨qa0 _,_,h,World.ownsRowF_of bK,by simp[Value.ownBlock]⟩
def po.cells (h:po w b l):∃(c:Array Value) (t:TypeId) (fz:Nat×Nat),w.heap[b]?=some (Obj.cells c t fz):=by
 rcases h with h|h <;>(obtain⟨_,v,hb,_⟩:=h;exact⟨_,_,_,hb⟩)
def po.lt (h:po w b l):b<w.heap.size:=by
 obtain⟨_,_,_,hb⟩:=h.cells
 exact(Array.getElem?_eq_some_iff.1 hb).1
structure KB (b:Nat)(W W':World):Prop where
 oth:Lib.OthersKept 5 (some b) W W'
 low:Below b W W'
def KB.refl (b:Nat)(W:World):KB b W W:=⟨Lib.OthersKept.refl _ _ _,Below.refl _ _⟩
def KB.ext (hb:b<=A.heap.size)(h:KB b W A)(k:aO A B):KB b W B:=
 ⟨h.oth.trans (λi o hi _ _=>(k.block i (Array.getElem?_eq_some_iff.1 hi).1).trans hi),Below.trans h.low (Below.mono k hb)⟩
def KB.wr (h:KB b W A)(k:KB b A B):KB b W B:=⟨h.oth.trans k.oth,Below.trans h.low k.low⟩
def KB.others (h:KB b W W')(hb:po W b l):KeepsOthers W W':=by
 refine⟨h.low.size,λk o hk ho=>h.oth k o hk ?_ ?_⟩
 · intro e
   cases e
   obtain⟨c,t,E,hc⟩:=hb.cells
   rw[hc]at hk;cases hk;cases ho
 · intro c E e;subst e;cases ho
def KB.blk {c:Nat}(h:KB b W W')(hn:c≠b)(ht:t≠5)(hb:ar W c t cs):ar W' c t cs:=
 h.oth c _ hb (λe=>hn (by cases e;rfl)) (λ_ _ e=>ht (by cases e;rfl))
def KB.rw {A:Option Addr}{cs:List Value}(h:KB b W W')(hA:∀ad,A=some ad->ad.block<b)(hr:Rw W lo A cs):Rw W' lo A cs:=by
 refine⟨λj u hu=>?_,hr.lo,λad e=>qb1 (hr.hi ad e) h.low.size⟩
 obtain⟨c,o,e,hc⟩:=hr.cells j u hu
 exact⟨c,o,e,(World.cell?_of_block (h.low.block c (hA _ e))).trans hc⟩
def KB.dfr (h:KB b W W')(hb:po W b l)(hD:lv W D):lv W' D:=
 h.oth D _ hD (λe=>by
  cases e
  obtain⟨c,t,E,hc⟩:=hb.cells
  unfold lv at hD;rw[hc]at hD;cases hD) (λ_ _ e=>by cases e)
def Ag (h:po w b l)(hl:l.length+s.length<=1000000):
 CL 169 #[pT b,S s] w (kv λv w'=>v=.tuple #[.int .i64 ((s.length:Nat):Int),.nilIface]/\po w' b (l++s)/\KB b w w'):=
 Ey (Any.Builder_WriteString_k {Tryz.lays105 with} Tryz.Builder_Extra_105 b b (Lib.byteCells l) ⟨s.toArray⟩ w h (by rw[Lib.byteCells_length,ui];omega) (Nat.le_of_lt h.lt)) (by
  rintro e w' ⟨rfl,h1,h2,h3⟩
  refine⟨_,rfl,by rw[ui],?_,h3,h2⟩
  have:Lib.byteCells (l++s)=Lib.byteCells l++Lib.strCells ⟨s.toArray⟩:=by simp[Lib.byteCells,Lib.strCells]
  unfold po
  rw[this]
  exact .inr h1)
def GJ (h:po w b l):
 CL 170 #[pT b] w (kv λv w'=>v=S l/\po w' b l/\KB b w w'):=
 Ey (Tryz.Builder_String_any_k b b l w h (Nat.le_of_lt h.lt)) (by
  rintro e w' ⟨rfl,h1,h2,h3⟩
  exact⟨_,rfl,rfl,h1,h3,h2⟩)
def P4 (g:Nat):List Nat:=au 10 g++List.replicate (4-(au 10 g).length) 0
def D4:List Nat->List Nat
 |[]=>[]
 |[g]=>au 10 g
 |g::rest=>P4 g++D4 rest
def Jy (g g2:Nat)(r:List Nat):D4 (g::g2::r)=P4 g++D4 (g2::r):=rfl
def TR (g:Nat){r:List Nat}(h:r≠[]):D4 (g::r)=P4 g++D4 r:=by
 cases r with
 |nil=>exact absurd Z h
 |cons a b=>rfl
def Xh (h:g<10000):(au 10 g).length<=4:=(bf 10 U g 4).2 h
def ya (h:g<10000):(P4 g).length=4:=by have:=Xh h;simp[P4];omega
def wI:∀k,bU 10 (List.replicate k 0)=0
 |0=>rfl
 |k+1=>by simp[List.replicate_succ,bU,wI k]
def TS (g:Nat):bU 10 (P4 g)=g:=by rw[P4,cu,wI,cK 10 U];simp
def Xi (g:Nat):∀d∈P4 g,d<10:=by
 intro d hd
 rcases List.mem_append.1 hd with h|h
 · exact eO 10 U g d h
 · rw[(List.mem_replicate.1 h).2];omega
def Rp:∀X:List Nat,∀d∈D4 X,d<10
 |[],d,h=>by simp[D4]at h
 |[g],d,h=>eO 10 U g d h
 | g::g2::r,d,h=>by
   rw[Jy]at h
   rcases List.mem_append.1 h with h|h
   · exact Xi g d h
   · exact Rp (g2::r) d h
def Jz:∀X:List Nat,(∀g∈X,g<10000)->bU 10 (D4 X)=bU 10000 X
 |[],_=>rfl
 |[g],_=>by simp[D4,bU,cK 10 (show 2<=10 by omega)]
 | g::g2::r,h=>by
   rw[Jy,cu,TS,ya (h g Rg),Jz (g2::r) (λx hx=>h x (by simp at hx ⊢;right;exact hx))]
   simp[bU]
def EO:∀X:List Nat,X≠[]->X.getLast?≠some 0->(∀g∈X,g<10000)->(D4 X)≠[]/\(D4 X).getLast?≠some 0
 |[],h,_,_=>absurd Z h
 | [g],_,h,_=>by
   have hg:g≠0:=by intro e;subst e;simp at h
   exact⟨ox hg,j6 10 U g⟩
 | g::g2::r,_,h,hl=>by
   have E:=EO (g2::r) Rg kb5 (λx hx=>hl x (by simp at hx ⊢;right;exact hx))
   rw[Jy]
   refine⟨by simp[E.1],?_⟩
   rw[List.getLast?_append]
   cases hq:(D4 (g2::r)).getLast? with
   |none=>exact absurd (List.getLast?_eq_none_iff.1 hq) E.1
   |some y=>simpa[hq]using E.2
def TT (a:Nat):D4 (au 10000 a)=au 10 a:=by
 by_cases h0:au 10000 a=[]
 · have:a=0:=jw (B:=10000) U (by rw[h0];rfl)
   subst this;rfl
 · have hlt:=eO 10000 U a
   have h1:=EO (au 10000 a) h0 (j6 10000 U a) hlt
   have h2:Canon 10 (D4 (au 10000 a)):=⟨Rp _,h1.2⟩
   rw[mG U h2,Jz _ hlt,cK 10000 U]
def pp (a b:List Nat):cR (a++b)=cR b++cR a:=by simp[cR]
def jj (u:Nat):Lib.decDigits u=bw u:=by
 induction u using Nat.strongRecOn with
 | _ u ih=>
   by_cases h:u<10
   · rw[Lib.decDigits_one h]
     unfold bw
     split
     · next h0=>subst h0;rfl
     · next h0=>
       rw[ge 10 u U U,show u/10=0 by omega,gw,Nat.mod_eq_of_lt h];rfl
   · rw[Lib.decDigits,dif_neg h,ih (u/10) U]
     unfold bw
     rw[if_neg U,if_neg U]
     conv=>rhs;rw[ge 10 u U U]
     simp[cR]
def Ah (g:Nat):Lib.itoa (g:Int)=bw g:=by
 rw[Lib.itoa,if_neg U,Int.toNat_natCast,jj]
def wJ (h:g<10000):0<(bw g).length/\(bw g).length<=4:=by
 unfold bw;split
 · simp
 · next h0=>
   rw[cN]
   exact⟨List.length_pos_iff.2 (ox h0),Xh h⟩
def Ai (k:Nat):Lib.repeatL [48] k=cR (List.replicate k 0):=by
 induction k with
 |zero=>rfl
 |succ k ih=>rw[Lib.repeatL,ih,List.replicate_succ'];simp[cR]
def Om (h:g<10000):Lib.repeatL [48] (4-(bw g).length)++bw g=cR (P4 g):=by
 by_cases h0:g=0
 · subst h0;rfl
 · have e:bw g=cR (au 10 g):=by unfold bw;rw[if_neg h0]
   rw[e,cN,P4,pp,Ai]
def drop_at {x:Nat}(h:x<X.length):X.drop x=X.getD x 0::X.drop (x+1):=by
 rw[List.drop_eq_getElem_cons h];simp[h]
def GK {x k:Nat}(hn:X.length=n)(hx:x<n)(hk:x+1=k)(hlt:∀g∈X,g<10000)(h0:X.getLast?≠some 0):
 cR (D4 (X.drop k))++(if x+1<n then Lib.repeatL [48] (4-(bw (X.getD x 0)).length)++bw (X.getD x 0)else bw (X.getD x 0))=cR (D4 (X.drop x)):=by
 subst hk
 have H:X.getD x 0<10000:=getD_lt hlt x
 have G:X.drop x=X.getD x 0::X.drop (x+1):=drop_at U
 rw[G]
 by_cases hc:x+1<n
 · rw[if_pos hc,Om H]
   have:X.drop (x+1)=X.getD (x+1) 0::X.drop (x+1+1):=drop_at U
   rw[TR _ (by rw[this];simp),pp]
 · rw[if_neg hc]
   have A0:X.drop (x+1)=[]:=List.drop_eq_nil_of_le U
   rw[A0]
   have O:X.getD x 0≠0:=by
    intro e
    apply h0
    rw[List.getLast?_eq_getElem?,show X.length-1=x by omega]
    have E:X[x]?=some X[x]:=qa5 U
    rw[List.getD,E]at e
    rw[E];exact qb2 some e
   simp only[D4]
   unfold bw
   rw[if_neg O]
   simp[cR]
def rS (o:Option (List UInt8)):List UInt8:=o.getD []
def rE (o:Option (List UInt8)):Int:=if o.isSome then 0 else 30
def iF (o:Option (List UInt8)):Value:=.tuple #[S (rS o),.int .i64 (rE o)]
def jQ (ng:Bool)(a:Nat):(bT ng a).natAbs=a:=by unfold bT;split <;>simp
def EQ (ng:Bool)(h:0<a):(bT ng a<0)↔ng=true:=by
 unfold bT;cases ng <;>simp;omega
def qP (ng:Bool)(h:0<a):ae (bT ng a)=if ng then 45::bw a else bw a:=by
 unfold ae
 rw[jQ]
 by_cases hn:ng=true
 · rw[if_pos ((EQ ng h).2 hn),if_pos hn]
 · rw[if_neg (λhc=>hn ((EQ ng h).1 hc)),if_neg hn]
def pq (ng:Bool)(h:0<a):fits (bT ng a)=decide ((bw a).length<=200):=by
 unfold fits
 rw[jQ]
 unfold bw
 rw[if_neg U,cN,decide_eq_decide]
 exact(bf 10 U a 200).symm
def pr (ng:Bool):Value.tuple #[S [48],.int .i64 0]=iF (bg (bT ng 0)):=by cases ng <;>rfl
def sK (ng:Bool)(h:0<a)(hl:(200:Int)<(((bw a).length:Nat):Int)):Value.tuple #[S [],.int .i64 30]=iF (bg (bT ng a)):=by
 unfold bg
 rw[pq ng h,decide_eq_false U];rfl
def sM (h:0<a)(hl:¬(200:Int)<(((bw a).length:Nat):Int))(hn:ng=true):Value.tuple #[S ([45]++bw a),.int .i64 0]=iF (bg (bT ng a)):=by
 unfold bg
 rw[pq ng h,decide_eq_true U,if_pos Z,qP ng h,if_pos hn];rfl
def sN (h:0<a)(hl:¬(200:Int)<(((bw a).length:Nat):Int))(hn:ng=false):Value.tuple #[S (bw a),.int .i64 0]=iF (bg (bT ng a)):=by
 unfold bg
 rw[pq ng h,decide_eq_true U,if_pos Z,qP ng h,if_neg (by simp[hn])];rfl
def Rq (X:List Nat)(n i:Nat):List UInt8:=if i+1<n then Lib.repeatL [48] (4-(bw (X.getD i 0)).length)++bw (X.getD i 0)else bw (X.getD i 0)
def tx (X:List Nat)(n:Nat)(pre:List Nat):List UInt8:=pre.flatMap (Rq X n)
def ER (X:List Nat)(n:Nat)(pre:List Nat)(x:Nat):tx X n (pre++[x])=tx X n pre++Rq X n x:=by simp[tx]
def On (h:i+1<n):Rq X n i=Lib.repeatL [48] (4-(bw (X.getD i 0)).length)++bw (X.getD i 0):=if_pos h
def Oo (h:¬i+1<n):Rq X n i=bw (X.getD i 0):=if_neg h
def Oq (hX:∀g∈X,g<10000)(n i:Nat):(Rq X n i).length<=4:=by
 have h1:=getD_lt hX i
 have h2:=wJ h1
 unfold Rq;split
 · rw[Om h1,cN,ya h1];omega
 · exact h2.2
def JB {X:List Nat}(hX:∀g∈X,g<10000)(n:Nat):∀pre:List Nat,(tx X n pre).length<=4*pre.length
 |[]=>by simp[tx]
 | i::l=>by
   have ih:=JB hX n l
   have:=Oq hX n i
   simp only[tx,List.flatMap_cons,List.length_append,List.length_cons]at ih ⊢
   omega
def JC {X:List Nat}{n:Nat}(hn:X.length=n)(hlt:∀g∈X,g<10000)(h0:X.getLast?≠some 0):∀j,j<=n->cR (D4 (X.drop j))++tx X n (List.range j).reverse=cR (D4 X)
 |0,_=>by simp[tx]
 | j+1,h=>by
   have e:(List.range (j+1)).reverse=j::(List.range j).reverse:=by simp[List.range_succ]
   rw[e]
   show _++(Rq X n j++tx X n _)=_
   rw[<-List.append_assoc]
   have:=GK (X:=X) (x:=j) (n:=n) (k:=j+1) hn U Z hlt h0
   unfold Rq
   rw[this]
   exact JC hn hlt h0 j U
def TU (hn:(au 10000 a).length=n)(h0:0<a):tx (au 10000 a) n (List.range n).reverse=bw a:=by
 have h:=JC hn (eO 10000 U a) (j6 10000 U a) n (qa0 _)
 rw[List.drop_eq_nil_of_le U,TT]at h
 have h2:cR (D4 [])=[]:=rfl
 rw[h2,List.nil_append]at h
 rw[h];unfold bw;rw[if_neg U]
set_option maxRecDepth 100000 in
def fZ (h1:en w lo1 A1 n1 c1 a)(s1:n1<=9000)(ht:Tb w):
 CL 124 #[.agg #[.bool ng,.slice A1 n1 c1]] w (aH w λv w'=>v=iF (bg (bT ng a))):=by
 have B0:=h1.hi;refine rI func124 Z (I ?_);refine bx (λAf CY G=>?_);have Ab:=CY.2;refine I ?_;by_cases lq:(n1:Int)=0;have Ap:a=0:=jw (B:=10000) U (h1.len.trans U);refine I ?_;refine xQ (v:=.tuple #[S [48],.int .i64 0]) (c8 (r1:=.tmp 2) (r2:=.tmp 3) Z ?_ ?_) Ab DH;exact aM (t:=2) RM _;exact aM (t:=3) RM _;have O:0<a:=mO (B:=10000) U kc2;refine I ?_;refine al Sf (λB1 CG Az=>?_);have⟨G,Ab⟩:=bo CG.2 G Ab;refine I ?_;refine cl Ej (ka (A:=A1) (n:=n1) (c:=c1)) ?_;rintro _ B2 D1 ⟨rfl,Cr⟩;have⟨G,Az,Ab⟩:=ca D1.2 G Az Ab;refine I ?_;have H:=po.start Az
 refine sD (m:=n1) (enc:=λx=>[.int .i64 x,.int .i64 (((au 10000 a).getD x 0:Nat):Int)]) (order:=(List.range n1).reverse) (Kq:=λW=>ar W B1.heap.size 159 #[.slice A1 n1 c1]/\Rw W lo1 A1 (ints (au 10000 a))) (gf:=207) (lb:=[pT B1.heap.size]) (ps:=[16,17]) Z Em (iQ Cr (h1.row.ext Ab) h1.len U) (λW W' row hq A0 hr=>⟨ad6 A0 hr hq.1,Rw.cel A0 hr hq.2⟩) (λ_=>rfl) [5,6] (λx=>[.int .i64 x,.int .i64 (((au 10000 a).getD x 0:Nat):Int)]) ?asn (λpre W=>(B2.heap.size<=W.heap.size)/\(aO w W)/\(ar W w.heap.size 161 #[.bool ng,.slice A1 n1 c1])/\(po W Af.heap.size (tx (au 10000 a) n1 pre))) (λ_ _ _=>False) ?hI ?hIx ?h0 ?body ?done ?stop;case asn=>
  intro l x W K hK;refine I ?_;exact hK
 case hI=>
  rintro pre W W' row ⟨Aw,E,G,H⟩ A0 hr;exact⟨qa8 Aw A0.size,o8 (B:=B2.heap.size) U A0 hr (bz E) E,ad6 A0 hr G,po.cel A0 hr H⟩
 case hIx=>
  exact λ_ _ _ _ _ h=>h.elim
 case h0=>
  exact⟨qa0 _,Ab,G,H⟩
 case body=>
  rintro l pre x W ⟨Aw,E,G,H⟩ E0 hx E1;have Kp:=KB.refl Af.heap.size W;have zW:=bz E;have Ao:=getD_lt h1.lt x;have E4:=wJ Ao;have C0:=H;have hbW:=H.lt;have hDl:=JB h1.lt n1 pre;refine I ?_;refine clb Iu (hc:=x8 _ _ U U (ht.ext E)) (hk:=?_);rintro _ _ As rfl;have G:=be As.2 G;have H:=po.ext As.2 H;have E:=xt E As.2;have Kp:=KB.ext U Kp As.2;rw[Ah];refine I ?_;refine qk (I ?_);by_cases nm:(x:Int)<((n1:Int)-1);refine I ?_;refine aa (dE (l:=bw ((au 10000 a).getD x 0)) U9 Z ?_);refine aa (jp (a:=4) (b:=(((bw ((au 10000 a).getD x 0)).length:Nat):Int)) (c:=((4-(bw ((au 10000 a).getD x 0)).length:Nat):Int)) Z Z L7 U ?_);refine clb Iv (hc:=qO [48] (4-(bw ((au 10000 a).getD x 0)).length) _ U Rg) (hk:=?_);rintro _ _ Aq rfl;have G:=be Aq.2 G;have H:=po.ext Aq.2 H;have E:=xt E Aq.2;have Kp:=KB.ext U Kp Aq.2;refine I ?_;refine aa (xz (a:=Lib.repeatL [48] (4-(bw ((au 10000 a).getD x 0)).length)) (b:=bw ((au 10000 a).getD x 0)) Z Z (by rw[<-List.length_append,Om Ao,cN,ya Ao];omega) ?_);refine I ?_;have CB:((Lib.repeatL [48] (4-(bw ((au 10000 a).getD x 0)).length))++(bw ((au 10000 a).getD x 0))).length<=8:=by rw[Om Ao,cN,ya Ao];omega
  refine aa (bL (vs:=[pT Af.heap.size,S ((Lib.repeatL [48] (4-(bw ((au 10000 a).getD x 0)).length))++(bw ((au 10000 a).getD x 0)))]) QT Z (Ag H U) ?_);rintro _ _ ⟨rfl,Am,Ar⟩;have G:=KB.blk Ar U dc G;have E:=Below.trans E (Below.mono Ar.low U);have E5:=Ar.low.size;have Kp:=KB.wr Kp Ar;have H:=Am;refine I ?_;exact⟨Kp.others C0,λhq=>⟨Kp.blk U dc hq.1,Kp.rw (λAx e=>by have:=B0 Ax e;omega) hq.2⟩,⟨U,E,G,(by rw[ER,On U];exact H)⟩⟩;refine I ?_;have CB:(bw ((au 10000 a).getD x 0)).length<=8:=J
  refine aa (bL (vs:=[pT Af.heap.size,S (bw ((au 10000 a).getD x 0))]) QT Z (Ag H U) ?_);rintro _ _ ⟨rfl,Am,Av⟩;have G:=KB.blk Av U dc G;have E:=Below.trans E (Below.mono Av.low U);have D2:=Av.low.size;have Kp:=KB.wr Kp Av;have H:=Am;refine I ?_;exact⟨Kp.others C0,λhq=>⟨Kp.blk U dc hq.1,Kp.rw (λAx e=>by have:=B0 Ax e;omega) hq.2⟩,⟨U,E,G,(by rw[ER,Oo U];exact H)⟩⟩
 case stop=>
  exact λ_ _ _ _ _ _ h _=>h.elim
 case done=>
  rintro D W hD ⟨Aw,E,G,H⟩ hK;have zW:=bz E;refine I ?_;rw[TU h1.len O]at H;refine aa (bL (vs:=[pT Af.heap.size]) Wl Z (GJ H) ?_);rintro _ _ ⟨rfl,Am,Ay⟩;have G:=KB.blk Ay U dc G;have hK:=KB.dfr Ay H hK;have E:=Below.trans E (Below.mono Ay.low U);have H:=Am;refine I ?_;refine aa (dE (l:=bw a) U9 Z ?_);refine I ?_;by_cases np:200<(((bw a).length:Nat):Int);refine I ?_;refine jM (v:=.tuple #[S [],.int .i64 30]) hK (c8 (r1:=.tmp 2) (r2:=.tmp 3) Z ?_ ?_) ((dO _).low E U) DH;exact aM (t:=2) RM _;exact aM (t:=3) RM _;refine I ?_;rcases qa4 ng with lp|lp;refine I ?_;refine aa (xz (a:=[45]) (b:=bw a) Z Z KK ?_);refine I ?_;refine jM (v:=.tuple #[S (([45])++(bw a)),.int .i64 0]) hK (c8 (r1:=.tmp 2) (r2:=.tmp 3) Z ?_ ?_) ((dO _).low E U) DH;exact aM (t:=2) RM _;exact aM (t:=3) RM _
  refine I ?_;refine jM (v:=.tuple #[S (bw a),.int .i64 0]) hK (c8 (r1:=.tmp 2) (r2:=.tmp 3) Z ?_ ?_) ((dO _).low E U) DH;exact aM (t:=2) RM _;exact aM (t:=3) RM _
end
end Go.Proofs.YtlmihmlnpjkblaaGreatDoor
