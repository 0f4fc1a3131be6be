/- Part of the proof of a statement about an adjustment. -/
import Derived.Test.YtlmihmlnpjkblaaGreatDoorEngHToInt5X
import Derived.WalkSmall
import Derived.Lib.Atoi
import Derived.Lib.OthersKept
set_option linter.all false
namespace Go.Proofs.YtlmihmlnpjkblaaGreatDoor
open Go Go.Eng Go.RowKit Tryz
attribute [local irreducible] wpListIn Code.wpIn Oper.wpIn Exit.then Exit.inBlock Exit.noGoto
set_option maxHeartbeats 40000000
set_option maxRecDepth 100000 in
def Gs {g m:Nat}{lb:List Value}{pb:Nat->Bool}{w:World}(heg:Enters prog g)(hm0:m<=1000000)(hd:∀(i:Nat) (W:World),i<m->aP w W->CL g ([Value.int .i64 i]++lb).toArray W (aI W λv _=>v=.bool (pb i)))(hmon:∀i j,i<=j->j<m->pb i=true->pb j=true):
 CL 162 #[.int .i64 m,.func (.func g) #[] lb.toArray] w (aI w λv w'=>∃k:Nat,v=.int .i64 k/\k<=m/\(∀i<k,pb i=false)/\(k<m->pb k=true)):=by
 refine aE func162 Z (I ?_);have E1:=aa1 w;refine cg [(5,7),(9,24)] (λA2 e W=>∃i:Nat,∃j:Nat,(j-i=A2)/\(e 5=.int .i64 i)/\(e 6=.int .i64 j)/\(i<=j)/\(j<=m)/\(∀k<i,pb k=false)/\(j<m->pb j=true)/\(aP w W)) ((m)-0) ⟨0,m,rfl,rfl,rfl,(qa7 _),(qa0 _),U,U,E1⟩ ?_;rintro _ _ _ ⟨i,j,rfl,Ab,A1,Am,Af,A0,H,E7⟩;by_cases hm:i<j;refine I ?_;refine aa (cC (a:=(i:Int)) (b:=(j:Int)) (c:=((i+j:Nat):Int)) Z Z zd U ?_);refine aa (fU (k:=.i64) (k':=.u64) (a:=((i+j:Nat):Int)) (c:=((i+j:Nat):Int)) U3 Ib Z (wrap_u64 U) ?_);refine aa (Wm (k:=.u64) (a:=((i+j:Nat):Int)) (b:=1) (c:=(((i+j)/2:Nat):Int)) Z Z dc (by show((i+j:Nat):Int)/2=_;omega) ?_);refine aa (fU (k:=.u64) (k':=.i64) (a:=(((i+j)/2:Nat):Int)) (c:=(((i+j)/2:Nat):Int)) Ib U3 Z (wrap_i64 U) ?_);refine I ?_;refine aa (lV (vs:=[.int .i64 (((i+j)/2:Nat):Int)]) (lb:=lb) heg Z Z (hd ((i+j)/2) _ U E7) ?_);rintro _ _ G rfl;have G:=G.2;have E7:=xt E7 G;refine I ?_;refine xp (q:=!(pb ((i+j)/2))) Z (λO=>?_) (λO=>?_);have E:pb ((i+j)/2)=false:=by simpa using O
 refine I ?_;refine aa (cC (a:=(((i+j)/2:Nat):Int)) (b:=1) (c:=(((i+j)/2+1:Nat):Int)) Z Z zd U ?_);refine I ?_;exact bJ ⟨(i+j)/2+1,j,rfl,rfl,A1,U,Af,(λk _=>by cases hb:pb k with|false=>rfl|true=>(have:=hmon k ((i+j)/2) U U hb;rw[E]at this;cases this)),H,E7⟩;have E:pb ((i+j)/2)=true:=by simpa using O
 refine I ?_;exact bJ ⟨i,(i+j)/2,rfl,Ab,rfl,U,U,A0,(λ_=>E),E7⟩;refine I ?_;exact am (t:=4) (v:=.int .i64 i) Z E7 ⟨i,rfl,by omega,A0,by rw[show j=i by omega]at H;exact H⟩ Z
set_option maxRecDepth 100000 in
def N3 {A1 A2:Option Addr}{n1 c1 a1 n2 c2 a2 i lo1 lo2 B1 B2:Nat}{w:World}(h1:ee w lo1 A1 n1 c1 a1)(s1:n1<=10000)(h2:ee w lo2 A2 n2 c2 a2)(k1:ao w B1 200 #[.func (.func 160) #[.slice A1 n1 c1] #[]])(k2:ao w B2 159 #[.slice A2 n2 c2])(hi:i<9999):
 CL 161 #[.int .i64 i,pT B1,pT B2] w (aI w λv w'=>v=.bool (decide (0<aO ((a1*(i+1):Nat):Int) (a2:Int)))):=by
 obtain⟨L,_⟩:∃L,L=w.heap.size:=⟨_,rfl⟩;refine aE func161 Z (I ?_);refine bH 7 ?_;refine sf ?_;refine aB (λ_ _ _ _=>by refine aa (cC (a:=(i:Int)) (b:=1) (c:=((i+1:Nat):Int)) Z Z zd U ?_);refine I ?_;exact aG) ?_
 refine bC (λv w=>dW L (a1*(i+1)) v w) (hs:=λ_ _ _ k h=>h.ext k) (λ_ _ hR15 _=>?_) ?_;have h1:=h1.ext hR15;refine aa (Ed (vs:=[.int .i64 ((i+1:Nat):Int)]) (la:=[.slice A1 n1 c1]) D5 Z Z (Eu h1 U U) ?_);rintro _ _ A0 ⟨Ab,G,H,rfl,E⟩;have E20:=A0;have E:=E.mono (lo':=L) (by have:=bz hR15;omega);refine I ?_;exact fs ⟨E20,⟨Ab,G,H,rfl,E⟩⟩;refine sf ?_;refine aR (V:=.int .i64 (aO ((a1*(i+1):Nat):Int) (a2:Int))) (λ_ _ hR27 W=>?_) ?_;obtain⟨Ab,G,H,p29,E⟩:=(W 3 8 Z Z);have Af:G<=n1+1:=by rw[<-E.len];exact my U _ _ _ h1.le U
 have h2:=h2.ext hR27;refine clb zf (hc:=jH E U h2) (hk:=?_) (hv:=au p29 (au Z Z));rintro _ _ O rfl;have E33:=O.2;refine I ?_;exact fs ⟨E33,rfl⟩;refine sf ?_;intro _ _ hR40 _;have E42:=hR40.2;refine I ?_;exact am (t:=4) (v:=.bool (decide (0<(aO ((a1*(i+1):Nat):Int) (a2:Int))))) Z E42 Z Z
end Go.Proofs.YtlmihmlnpjkblaaGreatDoor
def iZ (m:Nat)(xs:List Nat)(s:List Nat×Nat)(i:Nat):List Nat×Nat:=(s.1.set i ((s.2*10000+xs.getD i 0)/m),(s.2*10000+xs.getD i 0)%m)
def df (m:Nat)(xs:List Nat)(n:Nat)(pre:List Nat):List Nat×Nat:=pre.foldl (iZ m xs) (List.replicate n 0,0)
def tU (m:Nat)(xs:List Nat)(n:Nat)(pre:List Nat)(i:Nat):df m xs n (pre++[i])=iZ m xs (df m xs n pre) i:=by simp[df]
def ww (m:Nat)(xs:List Nat)(n:Nat)(pre:List Nat):(df m xs n pre).1.length=n:=by
 unfold df
 have:∀(pre:List Nat) (s:List Nat×Nat),(pre.foldl (iZ m xs) s).1.length=s.1.length:=by
  intro pre
  induction pre with
  |nil=>intro s;rfl
  |cons i pre ih=>intro s;rw[List.foldl_cons,ih];simp[iZ]
 rw[this];simp
def Ji (m:Nat)(xs:List Nat)(n:Nat)(hm:0<m):∀pre:List Nat,(df m xs n pre).2<m:=by
 intro pre
 unfold df
 have:∀(pre:List Nat) (s:List Nat×Nat),s.2<m->(pre.foldl (iZ m xs) s).2<m:=by
  intro pre
  induction pre with
  |nil=>intro s h;exact h
  |cons i pre ih=>intro s _;rw[List.foldl_cons];exact ih _ (Nat.mod_lt _ hm)
 exact this pre _ hm
def Ew {m r d:Nat}(hr:r<m)(hd:d<10000):(r*10000+d)/m<10000:=by
 rw[Nat.div_lt_iff_lt_mul J]
 have:(r+1)*10000<=m*10000:=Nat.mul_le_mul_right _ hr
 omega
def zF (m:Nat)(xs:List Nat)(hm:0<m)(hx:∀x∈xs,x<10000):∀(k:Nat) (q:List Nat) (r:Nat),k<=xs.length->q.length=xs.length->r<m->
 let s:=(List.range k).reverse.foldl (iZ m xs) (q,r)
 s.1.length=q.length/\s.1.drop k=q.drop k/\m*bP 10000 (s.1.take k)+s.2=r*10000^k+bP 10000 (xs.take k)/\s.2<m/\∀d∈s.1.take k,d<10000
 |0,q,r,_,_,hr=>by simp[bP,hr]
 | k +1,q,r,hk,hq,hr=>by
   simp only
   rw[List.range_succ,List.reverse_append]
   simp only[List.reverse_cons,List.reverse_nil,List.nil_append,List.cons_append,List.foldl_cons]
   have hd:=getD_lt hx k
   have h1:=Ew hr hd
   obtain⟨Aq,E,A2,O,W⟩:=zF m xs hm hx k (iZ m xs (q,r) k).1 (iZ m xs (q,r) k).2 J (by simp[iZ,hq]) (Nat.mod_lt _ hm)
   generalize hs:List.foldl (iZ m xs) (iZ m xs (q,r) k) (List.range k).reverse=s at *
   have hl:(iZ m xs (q,r) k).1.length=q.length:=by simp[iZ]
   have A0:k<s.1.length:=J
   have G:s.1[k]=(r*10000+xs.getD k 0)/m:=by
    have h3:s.1.drop k=s.1[k]::s.1.drop (k+1):=by rw[List.getElem_cons_drop]
    have h4:(iZ m xs (q,r) k).1.drop k=(iZ m xs (q,r) k).1[k]'(by omega)::(iZ m xs (q,r) k).1.drop (k+1):=by rw[List.getElem_cons_drop]
    rw[h3,h4]at E
    have:=(List.cons.inj E).1
    rw[this];simp[iZ]
   have H:s.1.take (k+1)=s.1.take k++[s.1[k]]:=List.take_succ_eq_append_getElem A0
   have A1:xs.take (k+1)=xs.take k++[xs.getD k 0]:=by
    rw[List.take_succ_eq_append_getElem J];simp[show k<xs.length by omega]
   refine⟨by omega,?_,?_,O,?_⟩
   · have h3:s.1.drop (k+1)=(s.1.drop k).drop 1:=by rw[List.drop_drop]
     rw[h3,E,List.drop_drop]
     exact List.drop_set_of_lt J
   · rw[H,A1,b9,b9,G]
     have Am:(s.1.take k).length=k:=by simp;omega
     have Ab:(xs.take k).length=k:=by simp;omega
     rw[Am,Ab]
     simp only[bP,Nat.mul_zero,Nat.add_zero,Nat.pow_succ]
     have Ao:=Nat.div_add_mod (r*10000+xs.getD k 0) m
     have Ap:m*bP 10000 (s.1.take k)+s.2=(r*10000+xs.getD k 0)%m*10000^k+bP 10000 (xs.take k):=A2
     generalize (r*10000+xs.getD k 0)/m=u at *
     generalize (r*10000+xs.getD k 0)%m=v at *
     generalize xs.getD k 0=y at *
     grind
   · rw[H]
     intro d Af
     rcases List.mem_append.1 Af with h|h
     · exact W d h
     · rw[List.mem_singleton.1 h,G];exact h1
def Jj {m a n:Nat}(hm:0<m)(hn:(ap 10000 a).length=n):
 (∀d∈(df m (ap 10000 a) n (List.range n).reverse).1,d<10000)/\bP 10000 (df m (ap 10000 a) n (List.range n).reverse).1=a/m/\(df m (ap 10000 a) n (List.range n).reverse).2=a%m:=by
 obtain⟨h1,-,h3,h4,E⟩:=zF m (ap 10000 a) hm (eI 10000 J a) n (List.replicate n 0) 0 J (by simp[hn]) hm
 change ((df m (ap 10000 a) n (List.range n).reverse).1.length=_)at h1
 change (m*bP 10000 ((df m (ap 10000 a) n (List.range n).reverse).1.take n)+(df m (ap 10000 a) n (List.range n).reverse).2=_)at h3
 change ((df m (ap 10000 a) n (List.range n).reverse).2<m)at h4
 change (∀d∈(df m (ap 10000 a) n (List.range n).reverse).1.take n,d<10000)at E
 rw[List.length_replicate]at h1
 rw[List.take_of_length_le J]at h3 E
 rw[List.take_of_length_le J,cG 10000 J,Nat.zero_mul,Nat.zero_add]at h3
 generalize (df m (ap 10000 a) n (List.range n).reverse)=z at *
 refine⟨E,?_,?_⟩
 · rw[<-h3,Nat.mul_add_div hm,Nat.div_eq_of_lt h4];omega
 · rw[<-h3,Nat.mul_add_mod,Nat.mod_eq_of_lt h4]
namespace Go.Proofs.YtlmihmlnpjkblaaGreatDoor
open Go Go.Eng Go.RowKit Tryz
variable {lo b c n1 c1 a1 lo1 n2 c2 a2 lo2:Nat}{A A1 A2:Option Addr}{w w':World}
attribute [local irreducible] wpListIn Code.wpIn Oper.wpIn Exit.then Exit.inBlock Exit.noGoto
set_option maxHeartbeats 40000000
def fg {p:Prop}(h:p:=by kernel_rfl):p:=h
def qI (m:Nat):(madeCells #[Value.int .i64 0] (m*1)).toList=ints (List.replicate m 0):=by
 simp[madeCells,ints,Nat.mod_one,List.eq_replicate_iff]
def ints_set (qs:List Nat)(x k:Nat):(ints qs).toArray.setIfInBounds x (.int .i64 k)=(ints (qs.set x k)).toArray:=by
 simp[ints,List.map_set]
def Jk {m r k:Nat}(hm:0<m)(hr:r<m*10000)(hk:k<=9999)(h1:∀i<k,decide (0<aO ((m*(i+1):Nat):Int) (r:Int))=false)(h2:k<9999->decide (0<aO ((m*(k+1):Nat):Int) (r:Int))=true):k=r/m:=by
 have e:∀i,decide (0<aO ((m*(i+1):Nat):Int) (r:Int))=decide (r<m*(i+1)):=λi=>by
  rcases Nat.lt_trichotomy (m*(i+1)) r with h|h|h
  · rw[fV U];simp;omega
  · rw[jr U];simp;omega
  · rw[eL U];simp;omega
 symm
 have G:m*k<=r:=by
  rcases Nat.eq_zero_or_pos k with h0|h0
  · subst h0;simp
  · have:=h1 (k-1) U
    rw[e,show k-1+1=k by omega]at this
    simpa using this
 have E:r<m*(k+1):=by
  by_cases hk9:k<9999
  · have:=h2 hk9
    rw[e]at this
    simpa using this
  · rw[show k+1=10000 by omega];exact hr
 rw[Nat.div_eq_iff U]
 rw[Nat.mul_add]at E
 rw[Nat.mul_comm k m]
 omega
def Gu {m r:Nat}(i j:Nat)(hij:i<=j)(h:decide (0<aO ((m*(i+1):Nat):Int) (r:Int))=true):decide (0<aO ((m*(j+1):Nat):Int) (r:Int))=true:=by
 have h3:m*(i+1)<=m*(j+1):=Nat.mul_le_mul_left _ U
 simp only[decide_eq_true_eq]at *
 rcases Nat.lt_trichotomy (m*(i+1)) r with h1|h1|h1
 · rw[fV U]at h;omega
 · rw[jr U]at h;omega
 · rw[eL U];omega
def zG (r d:Nat)(hd:d<10000):dA (d::ap 10000 r)=ap 10000 (r*10000+d):=by
 rw[mo 10000 U (d::ap 10000 r) (λx hx=>by
  rcases List.mem_cons.1 hx with rfl|hx
  · exact hd
  · exact eI 10000 U r x hx)]
 simp only[bP,cG 10000 (show 2<=10000 by omega)]
 congr 1;omega
def Rw.putU {cs:List Value}(k:ez w w' b)(hne:∀ad,A=some ad->ad.block≠b)(h:Rw w lo A cs):Rw w' lo A cs:=by
 refine⟨λj u hu=>?_,h.lo,λad e=>by rw[k.size];exact h.hi ad e⟩
 obtain⟨c,o,e,hc⟩:=h.cells j u hu
 exact⟨c,o,e,(k.cell (a:=⟨c,o+j,none⟩) (show c≠b from hne _ e)).trans hc⟩
def ee.putU {n a:Nat}(k:ez w w' b)(hne:∀ad,A=some ad->ad.block≠b)(h:ee w lo A n c a):ee w' lo A n c a:=⟨Rw.putU k hne h.row,h.len,h.cap⟩
def ac0:=@ee.putU
def zH {m v:Nat}{qs:List Nat}(hr:Rw w lo A (ints qs))(hd:∀d∈qs,d<10000)(hv:bP 10000 qs=v)(ht:dA qs=qs.take m)(hm:m<=qs.length)(hc:m<=c):ee w lo A m c v:=by
 have h1:ap 10000 v=qs.take m:=by rw[<-ht,<-hv];exact(mo 10000 U qs hd).symm
 refine⟨?_,?_,hc⟩
 · rw[h1]
   have:=hr.take m
   simpa[ints,List.map_take]using this
 · rw[h1];simp;omega
set_option maxRecDepth 100000 in
def sJ (h1:ee w lo1 A1 n1 c1 a1)(s1:n1<=9000)(h2:ee w lo2 A2 n2 c2 a2)(s2:n2<=9000)(h0:0<a2):
 CL 120 #[.slice A1 n1 c1,.slice A2 n2 c2] w (aI w λv w'=>∃A n c B m d,v=.tuple #[.slice A n c,.slice B m d]/\ee w' w.heap.size A n c (a1/a2)/\ee w' w.heap.size B m d (a1%a2)):=by
 refine rx func120 Z (I ?_);refine bx (λAx a3 G=>?_);have E4:=a3.2;refine al BI (λAq W3 KC=>?_);have⟨G,E4⟩:=bn W3.2 G E4;refine al BI (λA0 X2 H=>?_);have⟨G,KC,E4⟩:=cj X2.2 G KC E4;refine I ?_;refine aa (mf (m:=n1) gV kB Z Z U Rg (λ_ a0 _ P0=>?_));have⟨G,KC,H,E4⟩:=eY a0 G KC H E4;have hq:=Ee P0;rw[show(Value.int IntKind.i64 0).cells=#[Value.int .i64 0]from rfl,qI]at hq;clear P0;refine SO KC (λP1 bb O=>?_);have⟨G,H,hq,E4,_⟩:=NA bb G H hq E4;refine I ?_;refine cl D3 (j4 (A:=A1) (n:=n1) (c:=c1)) ?_;rintro _ Li cT ⟨rfl,ac⟩;have⟨G,O,H,hq,E4⟩:=kv cT.2 G O H hq E4;refine I ?_
 refine sF (m:=n1) (enc:=λx=>[.int .i64 x,.int .i64 (((ap 10000 a1).getD x 0:Nat):Int)]) (order:=(List.range n1).reverse) (Kq:=λW=>ao W P1.heap.size 159 #[.slice A1 n1 c1]/\Rw W lo1 A1 (ints (ap 10000 a1))) (gf:=207) (lb:=[pT P1.heap.size]) (ps:=[15,16]) Z D6 (iR ac (h1.row.ext E4) h1.len U) (λW W' row hq B0 hr=>⟨ad6 B0 hr hq.1,Rw.cel B0 hr hq.2⟩) (λ_=>rfl) [6,7] (λx=>[.int .i64 x,.int .i64 (((ap 10000 a1).getD x 0:Nat):Int)]) ?asn (λpre W=>∃Ar:Option Addr,∃Ao:Nat,∃Ap:Nat,(Li.heap.size<=W.heap.size)/\(aP w W)/\(ao W w.heap.size 159 #[.slice A2 n2 c2])/\(ao W Ax.heap.size 159 #[.slice (some ⟨A0.heap.size,0,none⟩) n1 n1])/\(ao W Aq.heap.size 159 #[.slice Ar Ao Ap])/\(ao W A0.heap.size 3 (ints (df a2 (ap 10000 a1) n1 pre).1).toArray)/\(ee W Li.heap.size Ar Ao Ap ((df a2 (ap 10000 a1) n1 pre).2))) (λ_ _ _=>False) ?hI ?hIx ?h0 ?body ?done ?stop;case asn=>
  intro l x W K hK;refine I ?_;exact hK
 case hI=>
  rintro pre W W' row ⟨Ar,Ao,Ap,N0,E,G,O,H,hq,hv⟩ B0 hr;exact⟨Ar,Ao,Ap,qa8 N0 B0.size,oX (B:=Li.heap.size) U B0 hr (bz E) E,ad6 B0 hr G,ad6 B0 hr O,ad6 B0 hr H,ad6 B0 hr hq,ee.cel B0 hr hv⟩
 case hIx=>
  exact λ_ _ _ _ _ h=>h.elim
 case h0=>
  exact⟨none,0,0,qa0 _,E4,G,O,H,hq,ee.zero _ _⟩
 case body=>
  rintro l pre x W ⟨Ar,Ao,Ap,N0,E,G,O,H,hq,hv⟩ cr hx cq;have Kp:=eF.refl [Aq.heap.size,A0.heap.size] W;have zW:=bz E;have bZ:=hv.hi;have hd:=getD_lt h1.lt x;have S0:=Ji a2 (ap 10000 a1) n1 h0 pre;have No:=ww a2 (ap 10000 a1) n1 pre;have cv:Ao<=n2:=by rw[<-hv.len,<-h2.len];exact ep U U
  have ch:=ae2 H;have cp:=ae2 hq;have X0:((df a2 (ap 10000 a1) n1 pre).2*10000+((ap 10000 a1).getD x 0))<a2*10000:=by have:((df a2 (ap 10000 a1) n1 pre).2+1)*10000<=a2*10000:=Nat.mul_le_mul_right _ S0;omega
  refine I ?_;refine BS (λ_ Cr _ S9=>?_);have G:=be Cr G;have O:=be Cr O;have H:=be Cr H;have hq:=be Cr hq;have hv:=aa6 Cr hv;have E:=xt E Cr;have Kp:=ad7 Kp Cr;have d1:=bz Cr;refine I ?_;refine aa (jB (v:=.slice (some ⟨W.heap.size,0,none⟩) 1 1) (k:=1) gV kB Z dc Z S9 Z hv.row (by rw[iY,hv.len];omega) tQ Rg U U (λ_ WV Q0 C1 _=>?_));have G:=aa3 C1 RT G;have O:=aa3 C1 RT O;have H:=aa3 C1 RT H;have hq:=aa3 C1 RT hq;have hv:=ee.gr C1 (λK3 e=>by have:=bZ K3 e;simp[Value.ownBlock];omega) hv;have Kp:=eF.gr Kp C1 (λb hb=>by exact Or.inr (by simp[Value.ownBlock]at hb;omega));have E:=cO E C1 (bz E) (λg cc=>by have:=(S9.lt g cc).1;omega);have cx:=C1.size;obtain⟨Aw,cm,rfl,a6,cz,-,-⟩:=eO Q0;have hs:Rw WV W.heap.size Aw (ints (((ap 10000 a1).getD x 0)::ap 10000 ((df a2 (ap 10000 a1) n1 pre).2))):=aa7 Q0;refine clb rq (hc:=fE hs (by rw[List.length_cons,hv.len];omega) a6 U) (hk:=?_);rintro _ ad D1 ⟨KM,rfl,Az,E9⟩;have G:=be D1.2 G;have O:=be D1.2 O
  have H:=be D1.2 H;have hq:=be D1.2 hq;have hv:=aa6 D1.2 hv;have E:=xt E D1.2;have Kp:=ad7 Kp D1.2;rw[zG _ _ hd]at Az;have Af:ee ad W.heap.size Aw KM cm ((df a2 (ap 10000 a1) n1 pre).2*10000+((ap 10000 a1).getD x 0)):=by
   refine⟨?_,?_,by omega⟩
   rw[Az];have:=(hs.ext D1.2).take KM;simpa[ints,List.map_take]using this;rw[Az,List.length_take,List.length_cons,hv.len];omega
  have uhnew:=Af.hi;have ct:KM<=n2+1:=by rw[<-Af.len,ba 10000 U];have:=nZ (B:=10000) U a2;rw[h2.len]at this;rw[Nat.pow_succ];omega
  refine SO H (λL3 E0 As=>?_);have G:=pb E0 G;have O:=pb E0 O;have hq:=pb E0 hq;have Af:=ac3 E0 U Af;have E:=bh E0 E;have Kp:=ad9 Kp E0 Nd;have d4:=iQ E0;refine I ?_;refine aa (aF (vf:=[.slice A2 n2 c2]) (vc:=[]) Z Z ?_);refine al R2 (λ_ E1 bq=>?_);have G:=be E1.2 G;have O:=be E1.2 O;have As:=be E1.2 As;have hq:=be E1.2 hq;have Af:=aa6 E1.2 Af;have E:=xt E E1.2;have Kp:=ad7 Kp E1.2;refine SO bq (λ_ B1 Av=>?_);have G:=pb B1 G;have O:=pb B1 O;have As:=pb B1 As;have hq:=pb B1 hq;have Af:=ac0 B1 (λK3 e=>by have:=uhnew K3 e;omega) Af;have E:=bh B1 E;have Kp:=ad9 Kp B1 Nd;have d0:=iQ B1;refine I ?_;refine aa (aF (vf:=[]) (vc:=[pT L3.heap.size,pT Aq.heap.size]) Z Z ?_);refine I ?_;refine bH 5 ?_;refine sf ?_;refine aR (V:=.int .i64 ((((df a2 (ap 10000 a1) n1 pre).2*10000+((ap 10000 a1).getD x 0))/a2:Nat):Int)) (λ_ co hR55 _=>?_) ?_;have As:=be hR55 As
  have Af:=aa6 hR55 Af;have Av:=be hR55 Av;have W0:∀(i:Nat) (V:World),i<9999->aP co V->CL 161 (([Value.int .i64 i]:List Value)++([pT L3.heap.size,pT Aq.heap.size]:List Value)).toArray V (aI V λv _=>v=.bool (decide (0<aO ((a2*(i+1):Nat):Int) ((((df a2 (ap 10000 a1) n1 pre).2*10000+((ap 10000 a1).getD x 0)):Nat):Int)))):=by(intro i V hi Y;exact N3 (h2.ext (xt (xt E hR55) Y)) U (Af.ext Y) (Av.ext Y) (As.ext Y) hi)
  refine clb Wc (hc:=Gs (m:=9999) (lb:=[pT L3.heap.size,pT Aq.heap.size]) Wb U W0 (λi j b0 _ h=>Gu i j b0 h)) (hk:=?_);rintro _ _ L1 ⟨cy,rfl,a4,cb,a5⟩;have L1:=L1.2;obtain rfl:=Jk h0 X0 a4 cb a5;have E60:=L1;refine I ?_;exact fs ⟨E60,rfl⟩;refine aB (λ_ _ _ _=>by refine aa (aD (A:=some ⟨A0.heap.size,0,none⟩) (bk:=A0.heap.size) (o:=0) (m:=n1) (c:=n1) (i:=x) (oo:=x) gV ie Z Z Z hx U ?_);refine I ?_;exact aG) ?_;refine sf ?_;intro _ _ hR67 _;have G:=be hR67.2 G;have O:=be hR67.2 O;have As:=be hR67.2 As;have hq:=be hR67.2 hq;have Af:=aa6 hR67.2 Af;have Av:=be hR67.2 Av;have E:=xt E hR67.2;have Kp:=ad7 Kp hR67.2;refine aa (b7 (b:=A0.heap.size) (o:=x) (v:=.int .i64 ((((df a2 (ap 10000 a1) n1 pre).2*10000+((ap 10000 a1).getD x 0))/a2:Nat):Int)) ie Z Z Z hq (by simp[ints,No];omega) (λT3 CB Wa=>?_));have G:=pb CB G;have O:=pb CB O;have As:=pb CB As;have Af:=ac3 CB U Af;have Av:=pb CB Av;have E:=bh CB E;have Kp:=ad9 Kp CB Nd;have d3:=iQ CB
  have hq:=Wa;rw[ints_set]at hq;refine I ?_;obtain⟨L,_⟩:∃L,L=T3.heap.size:=⟨_,rfl⟩;refine bH 8 ?_;refine sf ?_;refine aB (λ_ _ _ _=>by refine aa (aD (A:=some ⟨A0.heap.size,0,none⟩) (bk:=A0.heap.size) (o:=0) (m:=n1) (c:=n1) (i:=x) (oo:=x) gV ie Z Z Z hx U ?_);refine I ?_;exact aG) ?_;refine aB (λ_ _ hR93 _=>by have hq:=be hR93 hq;refine aa (bE (v:=.int .i64 ((((df a2 (ap 10000 a1) n1 pre).2*10000+((ap 10000 a1).getD x 0))/a2:Nat):Int)) U3 Z Z (ab3 hq (by simp[ints,No,hx])) ?_);refine I ?_;exact aG) ?_
  refine bC (λv w=>dW L (a2*(((df a2 (ap 10000 a1) n1 pre).2*10000+((ap 10000 a1).getD x 0))/a2)) v w) (hs:=λ_ _ _ k h=>h.ext k) (λ_ _ hR97 _=>?_) ?_;refine aa (Ed (vs:=[.int .i64 ((((df a2 (ap 10000 a1) n1 pre).2*10000+((ap 10000 a1).getD x 0))/a2:Nat):Int)]) (la:=[.slice A2 n2 c2]) D5 Z Z (Eu (h2.ext (xt E hR97)) U (Ew S0 hd)) ?_);rintro _ _ c9 ⟨Ab,Lk,T2,rfl,Ix⟩;have bv:=c9;have Ix:=Ix.mono (lo':=L) (by have:=bz hR97;omega);refine I ?_;exact fs ⟨bv,⟨Ab,Lk,T2,rfl,Ix⟩⟩;refine bC (λv w=>dW L (((df a2 (ap 10000 a1) n1 pre).2*10000+((ap 10000 a1).getD x 0))-a2*(((df a2 (ap 10000 a1) n1 pre).2*10000+((ap 10000 a1).getD x 0))/a2)) v w) (hs:=λ_ _ _ k h=>h.ext k) (λ_ _ P2 Vm=>?_) ?_;obtain⟨Ab,Lk,T2,a8,Ix⟩:=(Vm 6 36 Z Z);have Rm:a2*(((df a2 (ap 10000 a1) n1 pre).2*10000+((ap 10000 a1).getD x 0))/a2)<=((df a2 (ap 10000 a1) n1 pre).2*10000+((ap 10000 a1).getD x 0)):=Nat.mul_div_le _ _;have W2:Lk<=KM:=by rw[<-Ix.len,<-Af.len];exact ep U Rm
  have Af:=aa6 P2 Af;refine clb DY (hc:=o6 Af U Ix U Rm W2) (hk:=?_) (hv:=au Z (au a8 Z));rintro _ _ ce ⟨Am,nm,La,rfl,CY⟩;have cf:=ce.2;have CY:=CY.mono (lo':=L) (by have:=bz P2;omega);refine I ?_;exact fs ⟨cf,⟨Am,nm,La,rfl,CY⟩⟩;refine sf ?_;intro _ _ E7 bd;have G:=be E7.2 G;have O:=be E7.2 O;have As:=be E7.2 As;have hq:=be E7.2 hq;have Av:=be E7.2 Av;have E:=xt E E7.2;have Kp:=ad7 Kp E7.2;obtain⟨Am,nm,La,_,CY⟩:=(bd 7 37 Z Z);rw[show((df a2 (ap 10000 a1) n1 pre).2*10000+((ap 10000 a1).getD x 0))-a2*(((df a2 (ap 10000 a1) n1 pre).2*10000+((ap 10000 a1).getD x 0))/a2)=((df a2 (ap 10000 a1) n1 pre).2*10000+((ap 10000 a1).getD x 0))%a2 by have:=Nat.div_add_mod ((df a2 (ap 10000 a1) n1 pre).2*10000+((ap 10000 a1).getD x 0)) a2;omega]at CY
  refine SO As (λ_ B2 bW=>?_);have G:=pb B2 G;have O:=pb B2 O;have hq:=pb B2 hq;have Av:=pb B2 Av;have CY:=ac3 B2 U CY;have E:=bh B2 E;have Kp:=ad9 Kp B2 Nd;have cw:=iQ B2;refine I ?_;exact⟨Kp.others (by simp only[List.mem_cons,List.not_mem_nil,or_false];rintro b (rfl|rfl);exact ch;exact cp),λhq=>⟨Kp.blk j0 hq.1,Kp.rw (λK3 e=>by have:=h1.hi K3 e;simp;omega) hq.2⟩,⟨Am,nm,La,U,E,G,O,bW,(by rw[tU];exact hq),(by rw[tU];exact CY.mono U)⟩⟩
 case stop=>
  exact λ_ _ _ _ _ _ h _=>h.elim
 case done=>
  rintro D W hD ⟨Ar,Ao,Ap,N0,E,G,O,H,hq,hv⟩ hK;have zW:=bz E;refine I ?_;obtain⟨od,KY,an⟩:=Jj h0 h1.len;rw[an]at hv;have Ne:=ww a2 (ap 10000 a1) n1 (List.range n1).reverse;generalize hqs:(df a2 (ap 10000 a1) n1 ((List.range n1).reverse)).1=qs at *;refine Nr sd ?_;have CG:=ac1 W;generalize hgw:World.drew W=ao2 at CG ⊢;clear hgw;have G:=be CG G;have O:=be CG O;have H:=be CG H;have hq:=be CG hq;have hv:=aa6 CG hv;have hK:=lj.ext CG hK;have E:=xt E CG;refine gX (i:=0) (is:=[2]) fg ⟨?_,?_,trivial⟩;refine mu Z ?_;refine(bE (v:=.slice (some ⟨A0.heap.size,0,none⟩) n1 n1) (b:=Ax.heap.size) (o:=0) gV Z Z (ab3 O Z) ?_);refine gX (i:=1) (is:=[2]) fg ⟨?_,?_,trivial⟩;refine mu Z ?_;refine(xM (vs:=[.slice (some ⟨A0.heap.size,0,none⟩) n1 n1]) rq Z (fE (ae1 hq (qa0 _)) Ne (qa0 _) U) ?_);rintro _ _ D2 ⟨Ay,rfl,Az,E9⟩;have G:=be D2.2 G;have O:=be D2.2 O;have H:=be D2.2 H;have hq:=be D2.2 hq;have hv:=aa6 D2.2 hv;have hK:=lj.ext D2.2 hK;have E:=xt E D2.2;refine gX (i:=2) (is:=[3]) fg ⟨?_,?_,trivial⟩;refine mu Z ?_;refine(bE (v:=.slice Ar Ao Ap) (b:=Aq.heap.size) (o:=0) gV Z Z (ab3 H Z) ?_)
  refine gX (i:=3) (is:=[]) fg ⟨?_,trivial⟩;refine mu Z ?_;refine(b7 (b:=Ax.heap.size) (o:=0) (v:=.slice (some ⟨A0.heap.size,0,none⟩) Ay n1) mh Z Z Z O (qa3 Z) (λ_ FR Lj=>?_));have G:=pb FR G;have H:=pb FR H;have hq:=pb FR hq;have hv:=ac3 FR U hv;have hK:=ac8 FR (hK.ne O) hK;have E:=bh FR E;refine gX (i:=4) (is:=[]) fg ⟨?_,trivial⟩;refine mu Z ?_;refine(b7 (b:=Aq.heap.size) (o:=0) (v:=.slice Ar Ao Ap) mh Z Z Z H (qa3 Z) (λ_ H2 VW=>?_));have G:=pb H2 G;have Lj:=pb H2 Lj;have hq:=pb H2 hq;have hv:=ac3 H2 U hv;have hK:=ac8 H2 (hK.ne H) hK;have E:=bh H2 E;refine Ef fg (I ?_);have E6:=hv.dfr hK;have ES:=ao.dfr hK hq;refine jG (v:=.tuple #[.slice (some ⟨A0.heap.size,0,none⟩) Ay n1,.slice Ar Ao Ap]) hK (cQ (r1:=.cell 4 159) (r2:=.cell 5 159) Z ?_ ?_) ((dG _).low E U) ⟨_,_,_,_,_,_,rfl,zH (ae1 ES U) od KY Az U E9,E6.mono U⟩;refine bu (b:=Ax.heap.size) (o:=0) gV Z ?_ ?_;exact Z
  exact ab3 (Lj.dfr hK) Z;refine bu (b:=Aq.heap.size) (o:=0) gV Z ?_ ?_;exact Z;exact ab3 (VW.dfr hK) Z;refine mu Z ?_;refine(b7 (b:=Ax.heap.size) (o:=0) (v:=.slice (some ⟨A0.heap.size,0,none⟩) Ay n1) mh Z Z Z O (qa3 Z) (λ_ GC L4=>?_));have G:=pb GC G;have H:=pb GC H;have hq:=pb GC hq;have hv:=ac3 GC U hv;have hK:=ac8 GC (hK.ne O) hK;have E:=bh GC E;refine gX (i:=2) (is:=[]) fg ⟨?_,trivial⟩;refine mu Z ?_;refine(bE (v:=.slice Ar Ao Ap) (b:=Aq.heap.size) (o:=0) gV Z Z (ab3 H Z) ?_);refine gX (i:=4) (is:=[]) fg ⟨?_,trivial⟩;refine mu Z ?_;refine(b7 (b:=Aq.heap.size) (o:=0) (v:=.slice Ar Ao Ap) mh Z Z Z H (qa3 Z) (λ_ H4 a9=>?_));have G:=pb H4 G;have L4:=pb H4 L4;have hq:=pb H4 hq;have hv:=ac3 H4 U hv;have hK:=ac8 H4 (hK.ne H) hK;have E:=bh H4 E;refine Ef fg (I ?_);have E6:=hv.dfr hK;have ES:=ao.dfr hK hq;refine jG (v:=.tuple #[.slice (some ⟨A0.heap.size,0,none⟩) Ay n1,.slice Ar Ao Ap]) hK (cQ (r1:=.cell 4 159) (r2:=.cell 5 159) Z ?_ ?_) ((dG _).low E U) ⟨_,_,_,_,_,_,rfl,zH (ae1 ES U) od KY Az U E9,E6.mono U⟩
  refine bu (b:=Ax.heap.size) (o:=0) gV Z ?_ ?_;exact Z;exact ab3 (L4.dfr hK) Z;refine bu (b:=Aq.heap.size) (o:=0) gV Z ?_ ?_;exact Z;exact ab3 (a9.dfr hK) Z;refine mu Z ?_;refine(bE (v:=.slice Ar Ao Ap) (b:=Aq.heap.size) (o:=0) gV Z Z (ab3 H Z) ?_);refine gX (i:=1) (is:=[]) fg ⟨?_,trivial⟩;refine mu Z ?_;refine(xM (vs:=[.slice (some ⟨A0.heap.size,0,none⟩) n1 n1]) rq Z (fE (ae1 hq (qa0 _)) Ne (qa0 _) U) ?_);rintro _ _ EW ⟨Ay,rfl,Az,E9⟩;have G:=be EW.2 G;have O:=be EW.2 O;have H:=be EW.2 H;have hq:=be EW.2 hq;have hv:=aa6 EW.2 hv;have hK:=lj.ext EW.2 hK;have E:=xt E EW.2;refine gX (i:=3) (is:=[]) fg ⟨?_,trivial⟩;refine mu Z ?_;refine(b7 (b:=Ax.heap.size) (o:=0) (v:=.slice (some ⟨A0.heap.size,0,none⟩) Ay n1) mh Z Z Z O (qa3 Z) (λ_ K2 L2=>?_));have G:=pb K2 G;have H:=pb K2 H;have hq:=pb K2 hq;have hv:=ac3 K2 U hv;have hK:=ac8 K2 (hK.ne O) hK;have E:=bh K2 E;refine gX (i:=4) (is:=[]) fg ⟨?_,trivial⟩;refine mu Z ?_;refine(b7 (b:=Aq.heap.size) (o:=0) (v:=.slice Ar Ao Ap) mh Z Z Z H (qa3 Z) (λ_ H3 bp=>?_))
  have G:=pb H3 G;have L2:=pb H3 L2;have hq:=pb H3 hq;have hv:=ac3 H3 U hv;have hK:=ac8 H3 (hK.ne H) hK;have E:=bh H3 E;refine Ef fg (I ?_);have E6:=hv.dfr hK;have ES:=ao.dfr hK hq;refine jG (v:=.tuple #[.slice (some ⟨A0.heap.size,0,none⟩) Ay n1,.slice Ar Ao Ap]) hK (cQ (r1:=.cell 4 159) (r2:=.cell 5 159) Z ?_ ?_) ((dG _).low E U) ⟨_,_,_,_,_,_,rfl,zH (ae1 ES U) od KY Az U E9,E6.mono U⟩;refine bu (b:=Ax.heap.size) (o:=0) gV Z ?_ ?_;exact Z;exact ab3 (L2.dfr hK) Z;refine bu (b:=Aq.heap.size) (o:=0) gV Z ?_ ?_;exact Z;exact ab3 (bp.dfr hK) Z;refine mu Z ?_;refine(bE (v:=.slice Ar Ao Ap) (b:=Aq.heap.size) (o:=0) gV Z Z (ab3 H Z) ?_);refine gX (i:=0) (is:=[]) fg ⟨?_,trivial⟩;refine mu Z ?_;refine(bE (v:=.slice (some ⟨A0.heap.size,0,none⟩) n1 n1) (b:=Ax.heap.size) (o:=0) gV Z Z (ab3 O Z) ?_);refine gX (i:=1) (is:=[]) fg ⟨?_,trivial⟩;refine mu Z ?_;refine(xM (vs:=[.slice (some ⟨A0.heap.size,0,none⟩) n1 n1]) rq Z (fE (ae1 hq (qa0 _)) Ne (qa0 _) U) ?_);rintro _ _ E5 ⟨Ay,rfl,Az,E9⟩
  have G:=be E5.2 G;have O:=be E5.2 O;have H:=be E5.2 H;have hq:=be E5.2 hq;have hv:=aa6 E5.2 hv;have hK:=lj.ext E5.2 hK;have E:=xt E E5.2;refine gX (i:=3) (is:=[]) fg ⟨?_,trivial⟩;refine mu Z ?_;refine(b7 (b:=Ax.heap.size) (o:=0) (v:=.slice (some ⟨A0.heap.size,0,none⟩) Ay n1) mh Z Z Z O (qa3 Z) (λ_ ny wr=>?_));have G:=pb ny G;have H:=pb ny H;have hq:=pb ny hq;have hv:=ac3 ny U hv;have hK:=ac8 ny (hK.ne O) hK;have E:=bh ny E;refine gX (i:=4) (is:=[]) fg ⟨?_,trivial⟩;refine mu Z ?_;refine(b7 (b:=Aq.heap.size) (o:=0) (v:=.slice Ar Ao Ap) mh Z Z Z H (qa3 Z) (λ_ G0 W1=>?_));have G:=pb G0 G;have wr:=pb G0 wr;have hq:=pb G0 hq;have hv:=ac3 G0 U hv;have hK:=ac8 G0 (hK.ne H) hK;have E:=bh G0 E;refine Ef fg (I ?_);have E6:=hv.dfr hK;have ES:=ao.dfr hK hq;refine jG (v:=.tuple #[.slice (some ⟨A0.heap.size,0,none⟩) Ay n1,.slice Ar Ao Ap]) hK (cQ (r1:=.cell 4 159) (r2:=.cell 5 159) Z ?_ ?_) ((dG _).low E U) ⟨_,_,_,_,_,_,rfl,zH (ae1 ES U) od KY Az U E9,E6.mono U⟩
  refine bu (b:=Ax.heap.size) (o:=0) gV Z ?_ ?_;exact Z;exact ab3 (wr.dfr hK) Z;refine bu (b:=Aq.heap.size) (o:=0) gV Z ?_ ?_;exact Z;exact ab3 (W1.dfr hK) Z
end Go.Proofs.YtlmihmlnpjkblaaGreatDoor
namespace Go.Eng
variable {l d:List UInt8}
def ca (c:UInt8):Bool:=decide (48<=c.toNat)&&decide (c.toNat<=57)
def body:List UInt8->List UInt8
 |45::t=>t
 |l=>l
def neg:List UInt8->Bool
 |45::_=>true
 |_=>false
def eA (l:List UInt8):List Nat:=l.reverse.map λc=>c.toNat-48
def aH (l:List UInt8):Nat:=bP 10 (eA l)
def ef (d:List UInt8):Bool:=!d.isEmpty&&decide (d.length<=200)&&d.all ca&&(decide (d=[48])||decide (d.head?≠some 48))
def isInt (l:List UInt8):Bool:=ef (body l)&& !(neg l&&decide (body l=[48]))
def aj (l:List UInt8):Int:=if neg l then -(aH (body l):Int)else(aH (body l):Int)
def cN (l:List Nat):List UInt8:=l.reverse.map λd=>UInt8.ofNat (48+d)
def br (n:Nat):List UInt8:=if n=0 then[48]else cN (ap 10 n)
def ae (n:Int):List UInt8:=if n<0 then 45::br n.natAbs else br n.natAbs
def fits (n:Int):Bool:=decide (n.natAbs<10^200)
def TC {c:UInt8}(h:ca c=true):c.toNat-48<10:=by simp[ca]at h;omega
def xO (h:l.all ca=true):∀d∈eA l,d<10:=by
 intro d hd
 simp only[eA,List.mem_map,List.mem_reverse]at hd
 obtain⟨c,hc,rfl⟩:=hd
 exact TC (List.all_eq_true.1 h c hc)
def byte_of {c:UInt8}(h:ca c=true):UInt8.ofNat (48+(c.toNat-48))=c:=by
 simp[ca]at h
 rw[show 48+(c.toNat-48)=c.toNat by omega]
 simp
def CJ (h:l.all ca=true):cN (eA l)=l:=by
 unfold cN eA
 rw[<-List.map_reverse,List.reverse_reverse,List.map_map]
 conv=>rhs;rw[<-List.map_id l]
 apply List.map_congr_left
 intro c hc
 exact byte_of (List.all_eq_true.1 h c hc)
def CK {l:List Nat}(h:∀d∈l,d<10):eA (cN l)=l:=by
 unfold cN eA
 rw[<-List.map_reverse,List.reverse_reverse,List.map_map]
 conv=>rhs;rw[<-List.map_id l]
 apply List.map_congr_left
 intro d hd
 have:=h d hd
 simp only[Function.comp,UInt8.toNat_ofNat',id]
 omega
def Gv {l:List Nat}(h:∀d∈l,d<10):(cN l).all ca=true:=by
 rw[List.all_eq_true]
 intro c hc
 simp only[cN,List.mem_map,List.mem_reverse]at hc
 obtain⟨d,hd,rfl⟩:=hc
 have:=h d hd
 simp only[ca,UInt8.toNat_ofNat',Bool.and_eq_true,decide_eq_true_eq]
 omega
def cL (l:List Nat):(cN l).length=l.length:=by simp[cN]
def i6 (l:List UInt8):(eA l).length=l.length:=by simp[eA]
def tV (h:ef d=true)(h0:d≠[48]):Canon 10 (eA d):=by
 simp only[ef,Bool.and_eq_true,Bool.or_eq_true,decide_eq_true_eq]at h
 obtain⟨⟨⟨h1,h2⟩,h3⟩,h4⟩:=h
 refine⟨xO h3,?_⟩
 rcases h4 with h4|h4
 · exact absurd h4 h0
 · cases d with
   |nil=>simp at h1
   | cons c t=>
     have hc:ca c=true:=by simp at h3;exact h3.1
     have E:c≠48:=by simpa using h4
     simp only[eA,List.reverse_cons,List.map_append,List.map_cons,List.map_nil,List.getLast?_concat,ne_eq,Option.some.injEq]
     intro _
     simp[ca]at hc
     have:c.toNat=48:=J
     exact E (UInt8.toNat_inj.1 (by simpa using this))
def zI (h:ef d=true)(h0:d≠[48]):eA d=ap 10 (aH d):=mm J (tV h h0)
def qJ:aH [48]=0:=by decide
def o7 (h:ef d=true)(h0:d≠[48]):0<aH d:=by
 refine Canon.pos J (tV h h0) ?_
 intro e
 have:d.length=0:=by rw[<-i6,e];rfl
 simp[ef,List.length_eq_zero_iff.1 this]at h
def jI (h:ef d=true):d.all ca=true:=by
 simp only[ef,Bool.and_eq_true]at h;exact h.1.2
def kK (h:ef d=true):0<d.length/\d.length<=200:=by
 simp only[ef,Bool.and_eq_true,decide_eq_true_eq]at h
 refine⟨?_,h.1.1.2⟩
 have:=h.1.1.1
 cases d <;>simp at this ⊢
def sK (h:ef d=true):aH d<10^200:=by
 have h1:aH d<10^d.length:=by rw[<-i6];exact lh 10 _ (xO (jI h))
 exact qb1 h1 (Nat.pow_le_pow_right J (kK h).2)
def tW (h:ef d=true):br (aH d)=d:=by
 by_cases h0:d=[48]
 · subst h0;decide
 · unfold br
   rw[if_neg (by have:=o7 h h0;omega),<-zI h h0,CJ (jI h)]
def oe {n:Nat}(h:n≠0):ap 10 n≠[]:=λe=>h (by have:=cG 10 J n;rw[e]at this;exact this.symm)
def gD (n:Nat):aH (br n)=n:=by
 unfold br
 split
 · next h=>subst h;decide
 · rw[aH,CK (eI 10 J n),cG 10 J]
def zJ {n:Nat}(h:n<10^200):ef (br n)=true:=by
 unfold br
 split
 · decide
 · next h0=>
   have E:=oe h0
   have hl:(ap 10 n).length<=200:=(ba 10 J n 200).2 h
   have h1:(cN (ap 10 n)).isEmpty=false:=by
    cases hh:cN (ap 10 n)with
    |nil=>exact absurd (List.length_eq_zero_iff.1 (by rw[<-cL,hh];rfl)) E
    |cons a b=>rfl
   simp only[ef,h1,Gv (eI 10 J n),cL,hl,decide_true,Bool.not_false,Bool.and_self,Bool.true_and,Bool.or_eq_true,decide_eq_true_eq]
   right
   have h2:=jY 10 J n
   have h3:=eI 10 J n
   unfold cN
   rw[List.head?_map,List.head?_reverse]
   cases hg:(ap 10 n).getLast? with
   |none=>simp
   | some x=>
     simp only[Option.map_some,ne_eq,Option.some.injEq]
     intro e
     have hx:x<10:=h3 x (List.mem_of_getLast? hg)
     have:=qb2 UInt8.toNat e
     simp at this
     have:x=0:=J
     subst this
     exact h2 hg
def tX (n:Nat):(br n).head?≠some 45:=by
 unfold br
 split
 · decide
 · unfold cN
   rw[List.head?_map,List.head?_reverse]
   cases hg:(ap 10 n).getLast? with
   |none=>simp
   | some x=>
     have hx:x<10:=eI 10 J n x (List.mem_of_getLast? hg)
     simp only[Option.map_some,ne_eq,Option.some.injEq]
     intro e
     have:=qb2 UInt8.toNat e
     simp at this
     omega
def Gw {a b:Nat}(h:br a=br b):a=b:=by rw[<-gD a,h,gD]
def xP (h:l.head?≠some 45):body l=l:=by
 unfold body;split
 · simp at h
 · rfl
def Jl (h:l.head?≠some 45):neg l=false:=by
 unfold neg;split
 · simp at h
 · rfl
def tY (h:neg l=true):l=45::body l:=by
 unfold neg at h;split at h
 · rfl
 · cases h
def o8 (h:neg l=false):body l=l:=by
 unfold neg at h;split at h
 · cases h
 · next hh => unfold body;split
              · exact absurd Z (hh _)
              · rfl
def eu (h:isInt l=true):ef (body l)=true:=by
 simp only[isInt,Bool.and_eq_true]at h;exact h.1
def og (h:isInt l=true)(hn:neg l=true):body l≠[48]:=by
 simp only[isInt,Bool.and_eq_true,hn,Bool.true_and,Bool.not_eq_true',decide_eq_false_iff_not]at h;exact h.2
def dX (l:List UInt8):(aj l).natAbs=aH (body l):=by unfold aj;split <;>simp
def Jm (h:isInt l=true):decide (aj l<0)=neg l:=by
 unfold aj
 cases hn:neg l with
 | true=>
   have:=o7 (eu h) (og h hn)
   simp;omega
 |false=>simp
def eU (h:isInt l=true):fits (aj l)=true:=by
 simp only[fits,dX,decide_eq_true_eq];exact sK (eu h)
def tZ (h:isInt l=true):ae (aj l)=l:=by
 have E:=Jm h
 unfold ae
 rw[dX,tW (eu h)]
 cases hg:neg l with
 | true=>
   rw[hg,decide_eq_true_eq]at E
   rw[if_pos E,<-tY hg]
 | false=>
   rw[hg,decide_eq_false_iff_not]at E
   rw[if_neg E,o8 hg]
def gE (n:Int):body (ae n)=br n.natAbs:=by
 unfold ae
 split
 · rfl
 · exact xP (tX _)
def qK (n:Int):neg (ae n)=decide (n<0):=by
 unfold ae
 split
 · next h=>simp[neg,h]
 · next h=>rw[Jl (tX _)];simp[h]
def aK (n:Int):aj (ae n)=n:=by
 unfold aj
 rw[qK,gE,gD]
 by_cases h:n<0
 · simp[h];omega
 · simp[h];omega
def bi {n:Int}(h:fits n=true):isInt (ae n)=true:=by
 have h1:n.natAbs<10^200:=of_decide_eq_true h
 unfold isInt
 rw[gE,qK,zJ h1,Bool.true_and,Bool.not_eq_true',Bool.and_eq_false_iff]
 by_cases hn:n<0
 · right
   rw[decide_eq_false_iff_not]
   intro e
   have:=Gw (a:=n.natAbs) (b:=0) (by rw[e];decide)
   omega
 · left;simp[hn]
def qu {a b:List UInt8}(ha:isInt a=true)(hb:isInt b=true)(h:aj a=aj b):a=b:=by
 rw[<-tZ ha,h,tZ hb]
def mQ {a b:Int}(h:ae a=ae b):a=b:=by rw[<-aK a,h,aK]
def jJ:isInt [48]=true:=by decide
def kL:aj [48]=0:=by decide
def fY (h:isInt l=true):aj l=0↔l=[48]:=
 ⟨λe=>qu h jJ (e.trans kL.symm),λe=>by rw[e,kL]⟩
def bc (n:Int):Option (List UInt8):=if fits n then some (ae n)else none
def xQ (a b:List UInt8):Option (List UInt8):=if isInt a&&isInt b then bc (aj a+aj b)else none
def aW (a b:List UInt8):Option (List UInt8):=if isInt a&&isInt b then bc (aj a-aj b)else none
def az (a b:List UInt8):Option (List UInt8):=if isInt a&&isInt b then bc (aj a*aj b)else none
def dm (a b:List UInt8):Option (List UInt8×List UInt8):=if isInt a&&isInt b&&decide (b≠[48])then(bc (aj a/aj b)).map λq=>(q,ae (aj a%aj b))else none
def bQ (a b:List UInt8):Option (List UInt8):=if isInt a&&isInt b then bc ((Int.gcd (aj a) (aj b):Nat):Int)else none
def dM (a b:List UInt8):Int:=if isInt a&&isInt b then aO (aj a) (aj b)else 0
end Go.Eng
namespace Go.Proofs.YtlmihmlnpjkblaaGreatDoor
open Go Go.Eng Go.RowKit Go.Sort Go.Proofs Tryz
variable {cs args:Array Value}{nx ny ng:Bool}{gs X:List Nat}{l d s:List UInt8}{b a n1 c1 lo1 n2 c2 lo2 lo D g x n k i:Nat}{A1 A2:Option Addr}{p:Prop}{t:TypeId}{w w' W W' B A:World}
section
def Tb (w:World):Prop:=∃fz:Nat×Nat,w.heap[4]?=some (.cells ((Lib.pow10Tab.map λz=>Value.int .u64 z).toArray) 306 fz)
def Tb.ext (k:aP w w')(h:Tb w):Tb w':=by
 obtain⟨E,h⟩:=h
 exact⟨E,k.heap h⟩
def ab6:=@Tb.ext
def Tb.gr (k:w.grownBy w' (some b))(hb:ao w b t cs)(ht:t≠306)(h:Tb w):Tb w':=by
 obtain⟨E,h⟩:=h
 refine⟨E,(k.block 4 (Array.getElem?_eq_some_iff.1 h).1 (λe=>?_)).trans h⟩
 cases e
 unfold ao at hb
 rw[hb]at h;cases h;exact ht Z
def Tb.put (k:ez w w' b)(hb:ao w b t cs)(ht:t≠306)(h:Tb w):Tb w':=by
 obtain⟨E,h⟩:=h
 refine⟨E,(k.block 4 (λe=>?_)).trans h⟩
 subst e
 unfold ao at hb
 rw[hb]at h;cases h;exact ht Z
def Tb.tab (h : Tb w) : Lib.TabIs prog w "internal/strconv.uint64pow10" .u64 Lib.pow10Tab := by
 obtain⟨G,h⟩:=h
 unfold Lib.TabIs World.var?
 have E : prog.globalNamed "internal/strconv.uint64pow10" = some 4 := by kernel_rfl
 rw[E]
 simp only[Option.bind_some,h]
def qz {P:Program}{f:FuncId}{R:Ending->World->Prop}{Q:Value->World->Prop}(h:Calls P f args w R)(hq:∀e w',R e w'->∃v,e=.returned v/\aP w w'/\Q v w'):Calls P f args w (aI w Q):=
 h.mono (by
  intro e w' hR
  obtain⟨v,rfl,h1,h2⟩:=hq e w' hR
  exact⟨h1,h2⟩)
def Jn (w:World)(k:Nat)(os:Array Obj):aP w (grow (w.drewN k) os):=by
 refine⟨rfl,rfl,rfl,by simp[grow],λi hi=>?_⟩
 simp only[grow]
 rw[Array.getElem?_append_left (by simpa using hi)]
 rfl
def qL (l:List UInt8):(ByteArray.mk l.toArray).data.toList=l:=by simp
def ua (l:List UInt8):(ByteArray.mk l.toArray).size=l.length:=by simp[ByteArray.size]
def xR (n:Int)(w:World)(h0:-9223372036854775808<=n)(h1:n<=9223372036854775807)(ht:Tb w):CL 167 #[.int .i64 n] w (aI w λv _=>v=S (Lib.itoa n)):=
 qz (Tryz.strconv_Itoa n h0 h1 w ht.tab) (by
  rintro e w' ⟨rfl,k,os,rfl⟩
  exact⟨_,rfl,Jn w k os,rfl⟩)
def ub (w:World)(e:TypeId)(s:ByteArray):aP w (Lib.bytesWorld w e s):=by
 have h1:aP w (w.drew.alloc (.cells (Lib.bytesCells w e s) e)):=aP.trans (ac1 w) (ae0 _ _)
 have h2:w.heap.size<(w.drew.alloc (.cells (Lib.bytesCells w e s) e)).heap.size:=by simp[World.alloc,World.drew,-World.alloc_eq,-World.drew_eq]
 unfold Lib.bytesWorld World.freeze
 refine⟨h1.os,h1.tape,h1.output,by simpa using h1.size,λi hi=>?_⟩
 rw[<-h1.block i hi]
 split
 · next h=>cases h
 · show(Array.modify _ _ _)[i]? =_
   rw[Array.getElem?_modify,if_neg j0]
def N4 (l:List UInt8)(n:Int)(w:World)(hl:l.length<=18)(h:Lib.atoi l=some n):CL 206 #[S l] w (aI w λv _=>v=.tuple #[.int .i64 n,.nilIface]):=
 qz (Tryz.strconv_Atoi ⟨l.toArray⟩ n (by rw[ua];exact hl) (by rw[qL];exact h) w) (by
  rintro e w' ⟨rfl,t,rfl⟩
  exact⟨_,rfl,ub w 5 t,rfl⟩)
def qM (l:List UInt8)(c:Nat)(w:World)(hc:c<=1000000)(hl:l.length<=1000000):CL 168 #[S l,.int .i64 ((c:Nat):Int)] w (aI w λv _=>v=S (Lib.repeatL l c)):=by
 refine qz (Tryz.strings_Repeat ⟨l.toArray⟩ c w J (by rw[ua];have:=qb9 hl hc;omega)) ?_
 rintro e w' ⟨rfl,k⟩
 exact⟨_,rfl,k,by rw[qL];rfl⟩
def vR (l p:List UInt8)(w:World):CL 204 #[S l,S p] w (aI w λv _=>v=S (Lib.trimPrefix l p)):=
 qz (Tryz.strings_TrimPrefix ⟨l.toArray⟩ ⟨p.toArray⟩ w) (by
  rintro e w' ⟨rfl,rfl⟩
  exact⟨_,rfl,aa1 _,by rw[qL,qL];rfl⟩)
def si (l:List UInt8):Lib.trimPrefix l [45]=body l:=by
 unfold Lib.trimPrefix Lib.hasPrefix
 cases l with
 |nil=>rfl
 | cons c t=>
   by_cases hc:c=45
   · subst hc;simp[List.isPrefixOf,body]
   · have h1:([45]:List UInt8).isPrefixOf (c::t)=false:=by
      simp[List.isPrefixOf];exact λh=>hc h.symm
     rw[h1,xP (by simpa using hc)];rfl
def gh:List UInt8:=[48,49,50,51,52,53,54,55,56,57]
def N5 (l:List UInt8)(w:World)(hl:l.length<=9223372036854775807):CL 205 #[S l,S gh] w (aI w λv _=>v=S (Lib.trimS l gh)):=
 qz (Any.strings_Trim_laid Tryz.lays160 q0 ⟨l.toArray⟩ ⟨gh.toArray⟩ w (by rw[ua];exact hl) j1 (ascii_of_all j1)) (by
  rintro e w' ⟨rfl,k⟩
  exact⟨_,rfl,k,by rw[qL,qL];rfl⟩)
end
section
attribute [local irreducible] wpListIn Code.wpIn Oper.wpIn Exit.then Exit.inBlock Exit.noGoto
set_option maxHeartbeats 40000000
def aZ (h:p:=by assumption):p:=h
def xS (l:List UInt8)(w:World):CL 204 #[S l,S [45]] w (aI w λv _=>v=S (body l)):=by
 have h:=vR l [45] w
 rw[si]at h
 exact h
def ud {b:UInt8}:gh.contains b=ca b:=by
 have h:∀b:Fin 256,gh.contains (UInt8.ofNat b.val)=ca (UInt8.ofNat b.val):=by decide +kernel
 have:=h ⟨b.toNat,b.toNat_lt⟩
 simpa using this
def wx (d:List UInt8):Lib.trimS d gh=[]↔d.all ca=true:=by
 have hd:∀l:List UInt8,l.dropWhile (λb=>gh.contains b)=[]↔l.all ca=true:=by
  intro l
  induction l with
  |nil=>simp
  | cons a t ih=>
    simp only[List.dropWhile_cons,List.all_cons,ud]at ih ⊢
    cases ca a <;>simp_all
 unfold Lib.trimS Lib.trimLeftS
 rw[hd]
 unfold Lib.trimRightS
 constructor
 · intro h
   by_cases hn:(d.reverse.dropWhile (λb=>gh.contains b))=[]
   · rw[hd]at hn;simpa using hn
   · exfalso
     have h2:(d.reverse.dropWhile (λb=>gh.contains b)).head hn∉gh:=by
      have:=List.head_dropWhile_not (p:=λb=>gh.contains b) (l:=d.reverse) hn
      simpa using this
     have h3:ca ((d.reverse.dropWhile (λb=>gh.contains b)).head hn)=true:=by
      refine List.all_eq_true.1 h _ ?_
      rw[List.mem_reverse]
      exact List.head_mem hn
     rw[<-ud]at h3
     exact h2 (by simpa using h3)
 · intro h
   have:(d.reverse.dropWhile (λb=>gh.contains b))=[]:=by rw[hd];simpa using h
   rw[this];rfl
def Jo (h:body l=[]):Value.bool false=.bool (isInt l):=by simp[isInt,ef,h]
def Jp (h:(200:Int)<(((body l).length:Nat):Int)):Value.bool false=.bool (isInt l):=by
 have:¬(body l).length<=200:=J
 simp[isInt,ef,this]
def Jq (h:¬Lib.trimS (body l) gh=[]):Value.bool false=.bool (isInt l):=by
 rw[wx]at h
 simp[isInt,ef,h]
def Jr (h:l=[48]):Value.bool true=.bool (isInt l):=by subst h;rw[jJ]
def N6 (h:¬l=[]):0<l.length:=List.length_pos_iff.2 h
def zK {c:UInt8}(hc:(body l)[0]?=some c)(h1:¬body l=[])(h2:¬(200:Int)<(((body l).length:Nat):Int))(h3:Lib.trimS (body l) gh=[])(h4:¬l=[48]):
 Value.bool (!decide (((c.toNat:Nat):Int)=48))=.bool (isInt l):=by
 rw[wx]at h3
 have A0:(body l).length<=200:=J
 have H:(body l).isEmpty=false:=by cases hb:body l <;>simp_all
 have O:(((c.toNat:Nat):Int)=48)↔c=48:=by
  constructor
  · intro h;exact UInt8.toNat_inj.1 (by have:(48:UInt8).toNat=48:=rfl;omega)
  · intro h;subst h;rfl
 have G:(body l).head?=some c:=by rw[List.head?_eq_getElem?];exact hc
 congr 1
 simp only[isInt,ef,h3,A0,H,G,decide_true,Bool.not_false,Bool.true_and,Option.some.injEq,O,ne_eq]
 by_cases hb:body l=[48]
 · have E:neg l=true:=by
    cases E:neg l with
    |true=>rfl
    |false=>exact absurd ((o8 E).symm.trans hb) h4
   have:c=48:=by rw[hb]at hc;simpa using hc.symm
   simp[hb,E,this]
 · simp[hb]
set_option maxRecDepth 100000 in
theorem iy (l:List UInt8)(w:World):
 CL 156 #[S l] w (aI w λv w'=>v=.bool (isInt l)):=by
 refine aE func156 rfl ?_;refine I ?_;refine cl Ik (xS l _) ?_;rintro _ _ H rfl;have E4:=H.2;refine I ?_;by_cases h5:(body l)=([]);refine I ?_;refine sh (b:=[]) ?_;refine I ?_;exact am (t:=2) (v:=.bool false) rfl E4 (by first|exact Jo aZ|exact Jp aZ|exact Jq aZ|exact Jr aZ|exact zK aZ aZ aZ aZ aZ) rfl;by_cases h6:200<(((body l).length:Nat):Int);refine I ?_;refine sh (b:=[]) ?_;refine I ?_;refine aa (du (l:=body l) U9 rfl ?_);refine I ?_;exact am (t:=2) (v:=.bool false) rfl E4 (by first|exact Jo aZ|exact Jp aZ|exact Jq aZ|exact Jr aZ|exact zK aZ aZ aZ aZ aZ) rfl;refine I ?_;refine sh (b:=[]) ?_;refine I ?_;refine aa (du (l:=body l) U9 rfl ?_);refine I ?_;refine clb Wh (hc:=N5 (body l) _ U) (hk:=?_);rintro _ _ G rfl;have E4:=xt E4 G.2;refine I ?_;refine Z2 (b:=[]) ?_;refine I ?_;by_cases h10:(Lib.trimS (body l) gh)=([]);refine I ?_;by_cases h11:l=([48]);refine I ?_;refine sh (b:=[48]) ?_;refine I ?_
 exact am (t:=2) (v:=.bool true) rfl E4 (by first|exact Jo aZ|exact Jp aZ|exact Jq aZ|exact Jr aZ|exact zK aZ aZ aZ aZ aZ) rfl;refine I ?_;refine sh (b:=[48]) ?_;refine I ?_;have E:=dr (l:=body l) (i:=0) (N6 aZ);refine aa (io (l:=body l) (i:=0) (c:=((body l).getD 0 0)) U9 rfl rfl E ?_);refine I ?_;exact am (t:=2) (v:=.bool (!decide (((((body l).getD 0 0).toNat:Nat):Int)=48))) rfl E4 (by first|exact Jo aZ|exact Jp aZ|exact Jq aZ|exact Jr aZ|exact zK aZ aZ aZ aZ aZ) rfl;refine I ?_;exact am (t:=2) (v:=.bool false) rfl E4 (by first|exact Jo aZ|exact Jp aZ|exact Jq aZ|exact Jr aZ|exact zK aZ aZ aZ aZ aZ) rfl
def zL (a b:List UInt8):eA (a++b)=eA b++eA a:=by simp[eA]
def CM (gs:List Nat)(a b:List Nat)(v:Nat)(k:Nat)(hk:gs.length=k)(ha:a.length=4*k)(h:bP 10000 gs=bP 10 a)(hv:v=bP 10 b):bP 10000 (gs++[v])=bP 10 (a++b):=by
 rw[b9,b9,h,ha,hk,hv]
 have:(10:Nat)^(4*k)=10000^k:=by rw[Nat.pow_mul]
 rw[this]
 simp[bP]
def o9:∀(l:List UInt8) (acc:Nat),l.all ca=true->Lib.decFrom acc l=some (acc*10^l.length+bP 10 (eA l))
 |[],acc,_=>by simp[Lib.decFrom,eA,bP]
 | c::t,acc,h=>by
   simp only[List.all_cons,Bool.and_eq_true]at h
   have h1:=h.1
   simp only[ca,Bool.and_eq_true,decide_eq_true_eq]at h1
   rw[Lib.decFrom,Lib.digitVal,if_pos h1]
   simp only[]
   rw[o9 t _ h.2]
   have e:eA (c::t)=eA t++[c.toNat-48]:=by simp[eA]
   rw[e,b9,i6]
   simp only[bP,List.length_cons,Nat.pow_succ,Option.some.injEq]
   generalize 10^t.length=p
   generalize c.toNat-48=x
   rw[Nat.add_mul,Nat.mul_comm p 10,<-Nat.mul_assoc,Nat.mul_comm x p]
   simp
   omega
def Gx (h:l.all ca=true)(h0:l≠[]):Lib.atoi l=some ((bP 10 (eA l):Nat):Int):=by
 cases l with
 |nil=>exact absurd Z h0
 | cons c t=>
   have hc:ca c=true:=by simp at h;exact h.1
   simp only[ca,Bool.and_eq_true,decide_eq_true_eq]at hc
   have h1:(c==45)=false:=by
    rw[beq_eq_false_iff_ne];intro e;subst e;exact absurd hc.1 dc
   have h2:(c==43)=false:=by
    rw[beq_eq_false_iff_ne];intro e;subst e;exact absurd hc.1 dc
   rw[Lib.atoi,h1,h2]
   simp only[Bool.false_eq_true,if_false]
   rw[Lib.decNat]
   simp only[List.isEmpty_cons,Bool.false_eq_true,if_false]
   rw[o9 _ 0 h]
   simp
def CN (l:List UInt8)(h:l.all ca=true)(hl:l.length<=4):bP 10 (eA l)<10000:=by
 have h1:=lh 10 (eA l) (xO h)
 rw[i6]at h1
 exact qb1 h1 (qa8 (Nat.pow_le_pow_right U hl) U)
def zM (h:d.all ca=true)(i j:Nat):((d.take j).drop i).all ca=true:=by
 rw[List.all_eq_true]at *
 exact λx hx=>h x (List.mem_of_mem_take (List.mem_of_mem_drop hx))
structure HN (d:List UInt8)(m:Nat)(gs:List Nat):Prop where
 le:m<=d.length
 full:0<m->d.length-m=4*gs.length
 val:bP 10000 gs=bP 10 (eA (d.drop m))
 lt:∀g∈gs,g<10000
 cnt:gs.length<=d.length
def HN.start (d:List UInt8):HN d d.length []:=⟨qa0 _,λ_=>by simp,by simp[eA,bP],by simp,by simp⟩
def HN.step {m:Nat}(hd:d.all ca=true)(h:HN d m gs)(hm:0<m):HN d (m-4) (gs++[bP 10 (eA ((d.take m).drop (m-4)))]):=by
 have G:=h.le
 have hf:=h.full hm
 refine⟨by omega,λ_=>by simp;omega,?_,?_,by simp;omega⟩
 · have e:d.drop (m-4)=(d.take m).drop (m-4)++d.drop m:=by
    rw[<-List.drop_append_of_le_length j0,List.take_append_drop]
   rw[e,zL]
   exact CM _ _ _ _ _ Z (by rw[i6,List.length_drop];exact hf) h.val Z
 · intro g E
   rcases List.mem_append.1 E with E|E
   · exact h.lt g E
   · rw[List.mem_singleton.1 E]
     exact CN _ (zM hd _ _) j0
def HN.len {m:Nat}(h:HN d m gs)(hm:0<m):gs.length<=d.length:=by have:=h.full hm;have:=h.le;omega
def Sg (w:World)(lo:Nat)(ng:Bool)(a:Nat)(v:Value):Prop:=∃A n c,v=.agg #[.bool ng,.slice A n c]/\ee w lo A n c a
def N7 (m:Nat):(if(0:Int)<(m:Int)-4 then(m:Int)-4 else 0)=((m-4:Nat):Int):=by split <;>omega
def CO (l:List UInt8):decide (((body l).length:Int)<((l.length:Nat):Int))=neg l:=by
 cases h:neg l with
 |true=>rw[tY h];simp[body];omega
 |false=>rw[o8 h];simp
def TD (h:0<l.length):l≠[]:=List.length_pos_iff.1 h
def HN.all {m:Nat}(h:HN d m gs)(hm:¬0<m):bP 10000 gs=aH d:=by
 have:=h.val
 rw[show m=0 by omega,List.drop_zero]at this
 exact this
set_option maxRecDepth 100000 in
def zN (l:List UInt8)(w:World)(h:isInt l=true):
 CL 157 #[S l] w (aI w λv w'=>Sg w' w.heap.size (neg l) (aH (body l)) v):=by
 have Ay:=eu h;have hd:=jI Ay;have ES:=kK Ay;refine aE func157 Z (I ?_);refine al bG (λ_ D2 E=>?_);have E16:=D2.2;refine I ?_;refine cl Ik (xS l _) ?_;rintro _ Aq E1 rfl;have⟨E,E16⟩:=bn E1.2 E E16;refine I ?_;refine aa (du (l:=body l) U9 Z ?_);refine I ?_;refine aa (du (l:=l) U9 Z ?_);refine I ?_;rw[CO];refine aa (bR (vs:=[(0,.bool (neg l))]) (cells:=#[.bool (neg l),.slice none 0 0]) (pl:=[(0,1),(1,1)]) kD bG q0 Z q0 ?_);refine al bG (λ_ CG CY=>?_);have⟨E,E16⟩:=bn CG.2 E E16;refine SA CY (λE0 Cr G=>?_);have⟨E,E16,_⟩:=ku Cr E E16;refine I ?_;have E6:World.ownsRow E0 w.heap.size 3 1 (.slice none 0 0) 0 (ints []):=bM;refine cg [(3,3),(5,7),(16,38)] (λE5 e W=>∃m:Nat,∃gs:List Nat,∃O:Value,(m=E5)/\(e 3=S ((body l).take m))/\(HN (body l) m gs)/\((O).ownBlock≠some w.heap.size)/\((O).ownBlock≠some Aq.heap.size)/\(aP w W)/\(ao W w.heap.size 161 #[.bool false,.slice none 0 0])/\(ao W Aq.heap.size 161 #[.bool (neg l),O])/\(W.ownsRow w.heap.size 3 1 O gs.length (ints gs))) ((body l).length) ⟨(body l).length,[],.slice none 0 0,rfl,(qb2 S (by rw[List.take_length])),(HN.start _),(by simp[Value.ownBlock]),(by simp[Value.ownBlock]),E16,E,G,E6⟩ ?_
 rintro _ _ _ ⟨m,gs,O,rfl,p31,H,n26,n27,E32,E,G,ho⟩;have FR:=bz E32;have E4:=H.le;by_cases hm:0<m;have E9:=H.len hm;have E4:=H.le;refine I ?_;refine aa (j3 (l:=(body l).take m) (m:=m) U9 Z j0 ?_);refine I ?_;refine aa (j3 (l:=(body l).take m) (m:=m) U9 Z j0 ?_);refine nY ?_;refine aa (HZ (a:=0) (b:=(m:Int)-4) (m:=((m-4:Nat):Int)) Z Z (N7 m) ?_);refine I ?_;refine aa (me (l:=(body l).take m) (i:=(m-4)) (j:=((body l).take m).length) U9 Z (.inr ⟨_,congrArg some Z⟩) (.inl ⟨rfl,rfl⟩) j0 JT ?_);rw[show(((body l).take m).take (((body l).take m).length)).drop (m-4)=((body l).take m).drop (m-4)by rw[List.take_length]];refine clb Wi (hc:=N4 _ _ _ j0 (Gx (zM hd _ _) (TD j0))) (hk:=?_);rintro _ _ As rfl;have⟨E,G⟩:=gg As.2 E G;have ho:=ab As.2 ho;have E32:=xt E32 As.2;refine I ?_;refine BS (λ_ Ao _ B2=>?_);have⟨E,G⟩:=gg Ao E G;have ho:=ab Ao ho;have E32:=xt E32 Ao;refine AP ho (aa7 B2) (λAz _ A0 Ap B0=>?_);have n46:=aU B0 n26 (bt E);have n47:=aU B0 n27 (bt G);have E:=aa3 Ap (λe=>n26 e.symm) E;have G:=aa3 Ap (λe=>n27 e.symm) G;have E32:=bo ho U U E32 Ap;refine I ?_
 refine aa (b7 (b:=Aq.heap.size) (o:=1) (v:=Az) mh Z Z (bS A0) G (qa3 Z) (λ_ Am C1=>?_));have E:=pb Am E;have A0:=aw Am n47 A0;have E32:=bh Am E32;refine I ?_;refine aa (me (l:=(body l).take m) (i:=0) (j:=(m-4)) U9 Z (.inl ⟨rfl,rfl⟩) (.inr ⟨_,qb2 some Z⟩) U j0 ?_);rw[show(((body l).take m).take (m-4)).drop 0=((body l).take m).take (m-4)from rfl];refine I ?_;exact bJ ⟨m-4,gs++[bP 10 (eA (((body l).take m).drop (m-4)))],Az,rfl,(qb2 S (by rw[List.take_take];congr 1;omega)),(HN.step hd H hm),n46,n47,E32,E,C1,(aQ A0 JT (by rw[mw];rfl))⟩;obtain⟨Av,Aw,rfl,D1,-⟩:=eO ho;have G0:=H.cnt;refine I ?_;refine aa (j3 (l:=(body l).take m) (m:=m) U9 Z j0 ?_);refine I ?_;refine clb rq (hc:=fE (aa7 ho) Z D1 U) (hk:=?_);rintro _ _ Ar ⟨Ab,rfl,E7,EW⟩;have⟨E,G⟩:=gg Ar.2 E G;have ho:=ab Ar.2 ho;have E32:=xt E32 Ar.2;refine I ?_;refine SO G (λ_ Af B1=>?_);have E:=pb Af E;have ho:=aw Af n27 ho;have E32:=bh Af E32;refine I ?_;refine SA E (λ_ Ax CB=>?_);have B1:=pb Ax B1;have ho:=aw Ax n26 ho;have E32:=bh Ax E32;refine I ?_
 refine aX (v:=.agg #[.bool (neg l),.slice Av Ab Aw]) (bY  rfl ?_) E32 ⟨Av,Ab,Aw,rfl,zH (aa7 ho) H.lt (H.all hm) E7 U U⟩;refine ai (t:=2) (cs:=[.bool (neg l),.slice Av Ab Aw]) (b:=w.heap.size) (o:=0) kD Z mi ?_ ?_;exact Z;exact aa0 CB (i:=0) Z
set_option maxRecDepth 100000
def fF (h:p:=by assumption):p:=h
def bO (ng:Bool)(a:Nat):Int:=if ng then -(a:Int)else(a:Int)
def Ex (h:(0:Int)<=aO (a:Int) (b:Int)):b<=a:=by
 rcases Nat.lt_or_ge a b with h1|h1
 · rw[fV U]at h;omega
 · exact h1
def zO (h:¬(0:Int)<=aO (a:Int) (b:Int)):a<=b:=by
 rcases Nat.lt_or_ge a b with h1|h1
 · omega
 · rcases Nat.eq_or_lt_of_le h1 with h2|h2
   · omega
   · rw[eL U]at h;omega
def fZ (h:(nx==ny)=true):bO nx (a+b)=bO nx a+bO ny b:=by
 have:nx=ny:=by simpa using h
 subst this
 unfold bO;split <;>omega
def iz (h:(nx==ny)=false)(hle:b<=a):bO nx (a-b)=bO nx a+bO ny b:=by
 cases nx <;>cases ny <;>simp_all [bO] <;>omega
def iA (h:(nx==ny)=false)(hle:a<=b):bO ny (b-a)=bO nx a+bO ny b:=by
 cases nx <;>cases ny <;>simp_all [bO] <;>omega
def zP (h1:ee w lo1 A1 n1 c1 a)(s1:n1<=9000)(h2:ee w lo2 A2 n2 c2 b)(s2:n2<=9000):
 CL 142 #[.agg #[.bool nx,.slice A1 n1 c1],.agg #[.bool ny,.slice A2 n2 c2]] w (aI w λv w'=>∃ng r A n c,v=.agg #[.bool ng,.slice A n c]/\ee w' w.heap.size A n c r/\bO ng r=bO nx a+bO ny b):=by
 refine aE func142 Z (I ?_);refine bx (λ_ Az H=>?_);have h1:=aa6 Az.2 h1;have h2:=aa6 Az.2 h2;have E63:=Az.2;refine bx (λAw Ao O=>?_);have h1:=aa6 Ao.2 h1;have h2:=aa6 Ao.2 h2;have⟨H,E63⟩:=bn Ao.2 H E63;refine al bG (λCr Am Ab=>?_);have h1:=aa6 Am.2 h1;have h2:=aa6 Am.2 h2;have⟨H,O,E63⟩:=cj Am.2 H O E63;refine I ?_;refine aa (HY (a:=nx) (b:=ny) (q:=(nx==ny)) U4 Z Z Z ?_);refine I ?_;rcases qa4 (nx==ny)with h70|h70;refine I ?_;obtain⟨L,hL⟩:∃L,L=Cr.heap.size:=⟨_,rfl⟩;refine bH 7 ?_;refine sf ?_;refine bC (λv w=>dW L (a+b) v w) (hs:=λ_ _ _ k h=>h.ext k) (λ_ _ hR97 _=>?_) ?_;have h1:=aa6 hR97 h1;have h2:=aa6 hR97 h2;refine clb ze (hc:=o5 h1 U h2 U) (hk:=?_);rintro _ _ E6 ⟨Ar,E,G,rfl,hr⟩;have ES:=E6.2;have hr:=hr.mono (lo':=L) (by have:=bz hR97;omega);refine I ?_;exact fs ⟨ES,⟨Ar,E,G,rfl,hr⟩⟩;refine sf ?_;intro _ _ EW E4;have⟨H,O,Ab,E63⟩:=eY EW.2 H O Ab E63;obtain⟨Ar,E,G,D1,hr⟩:=(E4 6 17 Z Z);refine aa (bR (vs:=[(0,.bool nx),(1,.slice Ar E G)]) (cells:=#[.bool nx,.slice Ar E G]) (pl:=[(0,1),(1,1)]) kD bG q0 (c6 Z (c6 D1 Z)) q0 ?_)
 refine SA Ab (λ_ As E9=>?_);have⟨H,O⟩:=kI As H O;have hr:=ac3 As U hr;have E63:=bh As E63;refine I ?_;refine aX (v:=.agg #[.bool nx,.slice Ar E G]) (bY  rfl ?_) E63 ⟨_,_,_,_,_,rfl,hr.mono U,by first|exact fZ fF|exact iz fF A0|exact iA fF A0⟩;refine ai (t:=4) (cs:=[.bool nx,.slice Ar E G]) (b:=Aw.heap.size) (o:=0) kD Z mi ?_ ?_;exact Z;exact aa0 E9 (i:=0) Z;refine I ?_;refine clb zf (hc:=jH h1 U h2) (hk:=?_);rintro _ B0 Av rfl;have h1:=aa6 Av.2 h1;have h2:=aa6 Av.2 h2;have⟨H,O,Ab,E63⟩:=eY Av.2 H O Ab E63;refine I ?_;by_cases wr:0<=(aO (a:Int) (b:Int));refine I ?_;obtain⟨L,hL⟩:∃L,L=B0.heap.size:=⟨_,rfl⟩;have A0:=Ex fF;have Ax:n2<=n1:=by rw[<-h1.len,<-h2.len];exact ep U A0
 refine bH 7 ?_;refine sf ?_;refine bC (λv w=>dW L (a-b) v w) (hs:=λ_ _ _ k h=>h.ext k) (λ_ _ Af _=>?_) ?_;have h1:=aa6 Af h1;have h2:=aa6 Af h2;refine clb DY (hc:=o6 h1 U h2 U A0 Ax) (hk:=?_);rintro _ _ CB ⟨Ar,E,G,rfl,hr⟩;have CY:=CB.2;have hr:=hr.mono (lo':=L) (by have:=bz Af;omega);refine I ?_;exact fs ⟨CY,⟨Ar,E,G,rfl,hr⟩⟩;refine sf ?_;intro _ _ B1 E1;have⟨H,O,Ab,E63⟩:=eY B1.2 H O Ab E63;obtain⟨Ar,E,G,E0,hr⟩:=(E1 6 32 Z Z);refine aa (bR (vs:=[(0,.bool nx),(1,.slice Ar E G)]) (cells:=#[.bool nx,.slice Ar E G]) (pl:=[(0,1),(1,1)]) kD bG q0 (c6 Z (c6 E0 Z)) q0 ?_);refine SA Ab (λ_ Aq B2=>?_);have⟨H,O⟩:=kI Aq H O;have hr:=ac3 Aq U hr;have E63:=bh Aq E63;refine I ?_;refine aX (v:=.agg #[.bool nx,.slice Ar E G]) (bY  rfl ?_) E63 ⟨_,_,_,_,_,rfl,hr.mono U,by first|exact fZ fF|exact iz fF A0|exact iA fF A0⟩;refine ai (t:=4) (cs:=[.bool nx,.slice Ar E G]) (b:=Aw.heap.size) (o:=0) kD Z mi ?_ ?_;exact Z;exact aa0 B2 (i:=0) Z;refine I ?_;obtain⟨L,hL⟩:∃L,L=B0.heap.size:=⟨_,rfl⟩;have A0:=zO fF;have Ax:n1<=n2:=by rw[<-h1.len,<-h2.len];exact ep U A0
 refine bH 7 ?_;refine sf ?_;refine bC (λv w=>dW L (b-a) v w) (hs:=λ_ _ _ k h=>h.ext k) (λ_ _ Ap _=>?_) ?_;have h1:=aa6 Ap h1;have h2:=aa6 Ap h2;refine clb DY (hc:=o6 h2 U h1 U A0 Ax) (hk:=?_);rintro _ _ FR ⟨Ar,E,G,rfl,hr⟩;have C1:=FR.2;have hr:=hr.mono (lo':=L) (by have:=bz Ap;omega);refine I ?_;exact fs ⟨C1,⟨Ar,E,G,rfl,hr⟩⟩;refine sf ?_;intro _ _ E5 CG;have⟨H,O,Ab,E63⟩:=eY E5.2 H O Ab E63;obtain⟨Ar,E,G,D2,hr⟩:=(CG 6 40 Z Z);refine aa (bR (vs:=[(0,.bool ny),(1,.slice Ar E G)]) (cells:=#[.bool ny,.slice Ar E G]) (pl:=[(0,1),(1,1)]) kD bG q0 (c6 Z (c6 D2 Z)) q0 ?_);refine SA Ab (λ_ Ay E7=>?_);have⟨H,O⟩:=kI Ay H O;have hr:=ac3 Ay U hr;have E63:=bh Ay E63;refine I ?_;refine aX (v:=.agg #[.bool ny,.slice Ar E G]) (bY  rfl ?_) E63 ⟨_,_,_,_,_,rfl,hr.mono U,by first|exact fZ fF|exact iz fF A0|exact iA fF A0⟩;refine ai (t:=4) (cs:=[.bool ny,.slice Ar E G]) (b:=Aw.heap.size) (o:=0) kD Z mi ?_ ?_;exact Z;exact aa0 E7 (i:=0) Z
def lx (a b:List UInt8)(w:World)(ha:isInt a=true)(hb:isInt b=true):
 CL 119 #[S a,S b] w (aI w λv w'=>∃A1 n1 c1 A2 n2 c2,v=.tuple #[.agg #[.bool (neg a),.slice A1 n1 c1],.agg #[.bool (neg b),.slice A2 n2 c2],.bool true]/\ee w' w.heap.size A1 n1 c1 (aH (body a))/\ee w' w.heap.size A2 n2 c2 (aH (body b))):=by
 refine aE func119 Z (I ?_);refine al bG (λAv Ar H=>?_);have E:=Ar.2;refine al bG (λ_ Ap G=>?_);have⟨H,E⟩:=bn Ap.2 H E;refine I ?_;refine cl wh (iy a _) ?_;rintro _ _ Am rfl;have⟨H,G,E⟩:=cj Am.2 H G E;refine I ?_;refine cl wh (iy b _) ?_;rintro _ _ As rfl;have⟨H,G,E⟩:=cj As.2 H G E;refine I ?_;refine cl QD (zN _ _ ha) ?_;rintro _ _ Ao ⟨A1,n1,c1,rfl,h1⟩;have⟨H,G,E⟩:=cj Ao.2 H G E;refine I ?_;refine cl QD (zN _ _ hb) ?_;rintro _ _ Ab ⟨A2,n2,c2,rfl,h2⟩;have⟨H,G⟩:=gg Ab.2 H G;have h1:=aa6 Ab.2 h1;have E:=xt E Ab.2;refine SA H (λ_ O Af=>?_);have G:=pb O G;have h1:=ac3 O U h1;have h2:=ac3 O U h2;have E:=bh O E;refine SA G (λ_ A0 Aq=>?_);have Af:=pb A0 Af;have h1:=ac3 A0 U h1;have h2:=ac3 A0 U h2;have E:=bh A0 E;refine I ?_;refine aX (v:=.tuple #[.agg #[.bool (neg a),.slice A1 n1 c1],.agg #[.bool (neg b),.slice A2 n2 c2],.bool true]) (Nf (r1:=.cell 4 161) (r2:=.cell 5 161) (r3:=.tmp 6) Z ?_ ?_ ?_) E ⟨_,_,_,_,_,_,rfl,h1.mono U,h2.mono U⟩;refine ai (t:=4) (cs:=[.bool (neg a),.slice A1 n1 c1]) (b:=w.heap.size) (o:=0) kD Z mi ?_ ?_;exact Z;exact aa0 Af (i:=0) Z;refine ai (t:=5) (cs:=[.bool (neg b),.slice A2 n2 c2]) (b:=Av.heap.size) (o:=0) kD Z mi ?_ ?_;exact Z
 exact aa0 Aq (i:=0) Z;exact aM (t:=6) WD _
def mS (a b:List UInt8)(w:World)(hno:(isInt a&&isInt b)=false):
 CL 119 #[S a,S b] w (aI w λv w'=>v=.tuple #[.agg #[.bool false,.slice none 0 0],.agg #[.bool false,.slice none 0 0],.bool false]):=by
 refine aE func119 Z (I ?_);refine al bG (λAb Ax H=>?_);have E:=Ax.2;refine al bG (λ_ nm G=>?_);have⟨H,E⟩:=bn nm.2 H E;refine I ?_;rcases qa4 (isInt a)with cw|cw;refine I ?_;refine cl wh (iy a _) ?_;rintro _ _ Aq rfl;have⟨H,G,E⟩:=cj Aq.2 H G E;refine I ?_;refine cl wh (iy b _) ?_;rintro _ _ Ar rfl;have⟨H,G,E⟩:=cj Ar.2 H G E;refine I ?_;rcases qa4 (isInt b)with np|np;exact absurd hno (by simp[*]);refine I ?_;refine SA H (λ_ Af O=>?_);have G:=pb Af G;have E:=bh Af E;refine SA G (λ_ Ap Aw=>?_);have O:=pb Ap O;have E:=bh Ap E;refine I ?_;refine aX (v:=.tuple #[.agg #[.bool false,.slice none 0 0],.agg #[.bool false,.slice none 0 0],.bool false]) (Nf (r1:=.cell 4 161) (r2:=.cell 5 161) (r3:=.tmp 6) Z ?_ ?_ ?_) E Z;refine ai (t:=4) (cs:=[.bool false,.slice none 0 0]) (b:=w.heap.size) (o:=0) kD Z mi ?_ ?_;exact Z;exact aa0 O (i:=0) Z;refine ai (t:=5) (cs:=[.bool false,.slice none 0 0]) (b:=Ab.heap.size) (o:=0) kD Z mi ?_ ?_;exact Z;exact aa0 Aw (i:=0) Z
 exact aM (t:=6) WD _;refine I ?_;refine cl wh (iy a _) ?_;rintro _ _ Av rfl;have⟨H,G,E⟩:=cj Av.2 H G E;refine I ?_;refine SA H (λ_ Am A0=>?_);have G:=pb Am G;have E:=bh Am E;refine SA G (λ_ Ao As=>?_);have A0:=pb Ao A0;have E:=bh Ao E;refine I ?_;refine aX (v:=.tuple #[.agg #[.bool false,.slice none 0 0],.agg #[.bool false,.slice none 0 0],.bool false]) (Nf (r1:=.cell 4 161) (r2:=.cell 5 161) (r3:=.tmp 6) Z ?_ ?_ ?_) E Z;refine ai (t:=4) (cs:=[.bool false,.slice none 0 0]) (b:=w.heap.size) (o:=0) kD Z mi ?_ ?_;exact Z;exact aa0 A0 (i:=0) Z;refine ai (t:=5) (cs:=[.bool false,.slice none 0 0]) (b:=Ab.heap.size) (o:=0) kD Z mi ?_ ?_;exact Z;exact aa0 As (i:=0) Z;exact aM (t:=6) WD _
def iB (l:List UInt8)(w:World):
 CL 118 #[S l] w (aI w λv w'=>v=.bool (isInt l)):=by
 refine aE func118 Z (I ?_);refine cl wh (iy l _) ?_;rintro _ _ E rfl;have G:=E.2;refine I ?_;exact am (t:=2) (v:=.bool (isInt l)) Z G Z Z
def cV (h:p:=by assumption):p:=h
def pc (w:World)(b:Nat)(l:List UInt8):Prop:=Lib.IsBuilderF 208 5 b b (Lib.byteCells l) w
def Js {p:Value}{bs:List Value}(hk:∀(k:Nat) (c:Array Value) (t:TypeId) (fz:Nat×Nat),w.heap[k]?=some (Obj.cells c t fz)->w'.heap[k]?=w.heap[k]?)(h:Lib.BuilderAtF 208 5 b b p bs w):Lib.BuilderAtF 208 5 b b p bs w':=by
 obtain⟨hB,v,hb,⟨hl,hv|⟨g,cap,O,fz,rfl,H,E,r⟩⟩,G⟩:=h
 · exact⟨hB,v,(hk _ _ _ _ hb).trans hb,⟨hl,.inl hv⟩,G⟩
 · exact⟨hB,_,(hk _ _ _ _ hb).trans hb,⟨hl,.inr ⟨g,cap,O,fz,rfl,H,(hk _ _ _ _ E).trans E,r⟩⟩,G⟩
def pc.of (hk:∀(k:Nat) (c:Array Value) (t:TypeId) (fz:Nat×Nat),w.heap[k]?=some (Obj.cells c t fz)->w'.heap[k]?=w.heap[k]?)(h:pc w b l):pc w' b l:=
 h.elim (λx=>.inl (Js hk x)) (λx=>.inr (Js hk x))
def pc.ext (k:aP w w')(h:pc w b l):pc w' b l:=pc.of (h:=h) (λi _ _ _ hi=>k.block i (Array.getElem?_eq_some_iff.1 hi).1)
def pc.cel {row:Option Nat}{B:Nat}(hg:W.grownBy W' row)(hr:∀r,row=some r->B<=r/\∃o:Obj,W.heap[r]?=some o/\o.isCells=false)(h:pc W b l):pc W' b l:=
 pc.of (h:=h) (λi _ _ _ hi=>grownBy_keeps_cells hg (λr e=>(hr r e).2) hi Z)
def pc.start (h:ao w b 208 #[.pointer none,.slice none 0 0]):pc w b []:=
 .inl ⟨qa0 _,_,h,World.ownsRowF_of bM,by simp[Value.ownBlock]⟩
def pc.cells (h:pc w b l):∃(c:Array Value) (t:TypeId) (fz:Nat×Nat),w.heap[b]?=some (Obj.cells c t fz):=by
 rcases h with h|h <;>(obtain⟨_,v,hb,_⟩:=h;exact⟨_,_,_,hb⟩)
def pc.lt (h:pc w b l):b<w.heap.size:=by
 obtain⟨_,_,_,hb⟩:=h.cells
 exact(Array.getElem?_eq_some_iff.1 hb).1
structure KB (b:Nat)(W W':World):Prop where
 oth:Lib.OthersKept 5 (some b) W W'
 low:Below b W W'
def KB.refl (b:Nat)(W:World):KB b W W:=⟨Lib.OthersKept.refl _ _ _,Below.refl _ _⟩
def KB.ext (hb:b<=A.heap.size)(h:KB b W A)(k:aP A B):KB b W B:=
 ⟨h.oth.trans (λi o hi _ _=>(k.block i (Array.getElem?_eq_some_iff.1 hi).1).trans hi),Below.trans h.low (Below.mono k hb)⟩
def KB.wr (h:KB b W A)(k:KB b A B):KB b W B:=⟨h.oth.trans k.oth,Below.trans h.low k.low⟩
def KB.others (h:KB b W W')(hb:pc W b l):KeepsOthers W W':=by
 refine⟨h.low.size,λk o hk ho=>h.oth k o hk ?_ ?_⟩
 · intro e
   cases e
   obtain⟨c,t,E,hc⟩:=hb.cells
   rw[hc]at hk;cases hk;cases ho
 · intro c E e;subst e;cases ho
def KB.blk {c:Nat}(h:KB b W W')(hn:c≠b)(ht:t≠5)(hb:ao W c t cs):ao W' c t cs:=
 h.oth c _ hb (λe=>hn (by cases e;rfl)) (λ_ _ e=>ht (by cases e;rfl))
def KB.rw {A:Option Addr}{cs:List Value}(h:KB b W W')(hA:∀ad,A=some ad->ad.block<b)(hr:Rw W lo A cs):Rw W' lo A cs:=by
 refine⟨λj u hu=>?_,hr.lo,λad e=>qb1 (hr.hi ad e) h.low.size⟩
 obtain⟨c,o,e,hc⟩:=hr.cells j u hu
 exact⟨c,o,e,(World.cell?_of_block (h.low.block c (hA _ e))).trans hc⟩
def KB.dfr (h:KB b W W')(hb:pc W b l)(hD:lj W D):lj W' D:=
 h.oth D _ hD (λe=>by
  cases e
  obtain⟨c,t,E,hc⟩:=hb.cells
  unfold lj at hD;rw[hc]at hD;cases hD) (λ_ _ e=>by cases e)
def zQ (h:pc w b l)(hl:l.length+s.length<=1000000):
 CL 169 #[pT b,S s] w (kn λv w'=>v=.tuple #[.int .i64 ((s.length:Nat):Int),.nilIface]/\pc w' b (l++s)/\KB b w w'):=
 Eg (Any.Builder_WriteString_k {Tryz.lays105 with} Tryz.Builder_Extra_105 b b (Lib.byteCells l) ⟨s.toArray⟩ w h (by rw[Lib.byteCells_length,ua];omega) (Nat.le_of_lt h.lt)) (by
  rintro e w' ⟨rfl,h1,h2,h3⟩
  refine⟨_,rfl,by rw[ua],?_,h3,h2⟩
  have:Lib.byteCells (l++s)=Lib.byteCells l++Lib.strCells ⟨s.toArray⟩:=by simp[Lib.byteCells,Lib.strCells]
  unfold pc
  rw[this]
  exact .inr h1)
def Gy (h:pc w b l):
 CL 170 #[pT b] w (kn λv w'=>v=S l/\pc w' b l/\KB b w w'):=
 Eg (Tryz.Builder_String_any_k b b l w h (Nat.le_of_lt h.lt)) (by
  rintro e w' ⟨rfl,h1,h2,h3⟩
  exact⟨_,rfl,rfl,h1,h3,h2⟩)
def P4 (g:Nat):List Nat:=ap 10 g++List.replicate (4-(ap 10 g).length) 0
def D4:List Nat->List Nat
 |[]=>[]
 |[g]=>ap 10 g
 |g::rest=>P4 g++D4 rest
def Jt (g g2:Nat)(r:List Nat):D4 (g::g2::r)=P4 g++D4 (g2::r):=rfl
def TE (g:Nat){r:List Nat}(h:r≠[]):D4 (g::r)=P4 g++D4 r:=by
 cases r with
 |nil=>exact absurd Z h
 |cons a b=>rfl
def Xa (h:g<10000):(ap 10 g).length<=4:=(ba 10 U g 4).2 h
def xT (h:g<10000):(P4 g).length=4:=by have:=Xa h;simp[P4];omega
def wy:∀k,bP 10 (List.replicate k 0)=0
 |0=>rfl
 |k+1=>by simp[List.replicate_succ,bP,wy k]
def TF (g:Nat):bP 10 (P4 g)=g:=by rw[P4,b9,wy,cG 10 U];simp
def Xb (g:Nat):∀d∈P4 g,d<10:=by
 intro d hd
 rcases List.mem_append.1 hd with h|h
 · exact eI 10 U g d h
 · rw[(List.mem_replicate.1 h).2];omega
def Q8:∀X:List Nat,∀d∈D4 X,d<10
 |[],d,h=>by simp[D4]at h
 |[g],d,h=>eI 10 U g d h
 | g::g2::r,d,h=>by
   rw[Jt]at h
   rcases List.mem_append.1 h with h|h
   · exact Xb g d h
   · exact Q8 (g2::r) d h
def Ju:∀X:List Nat,(∀g∈X,g<10000)->bP 10 (D4 X)=bP 10000 X
 |[],_=>rfl
 |[g],_=>by simp[D4,bP,cG 10 (show 2<=10 by omega)]
 | g::g2::r,h=>by
   rw[Jt,b9,TF,xT (h g JT),Ju (g2::r) (λx hx=>h x (by simp at hx ⊢;right;exact hx))]
   simp[bP]
def Ey:∀X:List Nat,X≠[]->X.getLast?≠some 0->(∀g∈X,g<10000)->(D4 X)≠[]/\(D4 X).getLast?≠some 0
 |[],h,_,_=>absurd Z h
 | [g],_,h,_=>by
   have hg:g≠0:=by intro e;subst e;simp at h
   exact⟨oe hg,jY 10 U g⟩
 | g::g2::r,_,h,hl=>by
   have E:=Ey (g2::r) JT ka5 (λx hx=>hl x (by simp at hx ⊢;right;exact hx))
   rw[Jt]
   refine⟨by simp[E.1],?_⟩
   rw[List.getLast?_append]
   cases hq:(D4 (g2::r)).getLast? with
   |none=>exact absurd (List.getLast?_eq_none_iff.1 hq) E.1
   |some y=>simpa[hq]using E.2
def TG (a:Nat):D4 (ap 10000 a)=ap 10 a:=by
 by_cases h0:ap 10000 a=[]
 · have:a=0:=jq (B:=10000) U (by rw[h0];rfl)
   subst this;rfl
 · have hlt:=eI 10000 U a
   have h1:=Ey (ap 10000 a) h0 (jY 10000 U a) hlt
   have h2:Canon 10 (D4 (ap 10000 a)):=⟨Q8 _,h1.2⟩
   rw[mm U h2,Ju _ hlt,cG 10000 U]
def pf (a b:List Nat):cN (a++b)=cN b++cN a:=by simp[cN]
def je (u:Nat):Lib.decDigits u=br u:=by
 induction u using Nat.strongRecOn with
 | _ u ih=>
   by_cases h:u<10
   · rw[Lib.decDigits_one h]
     unfold br
     split
     · next h0=>subst h0;rfl
     · next h0=>
       rw[fO 10 u U U,show u/10=0 by omega,gm,Nat.mod_eq_of_lt h];rfl
   · rw[Lib.decDigits,dif_neg h,ih (u/10) U]
     unfold br
     rw[if_neg U,if_neg U]
     conv=>rhs;rw[fO 10 u U U]
     simp[cN]
def zR (g:Nat):Lib.itoa (g:Int)=br g:=by
 rw[Lib.itoa,if_neg U,Int.toNat_natCast,je]
def wA (h:g<10000):0<(br g).length/\(br g).length<=4:=by
 unfold br;split
 · simp
 · next h0=>
   rw[cL]
   exact⟨List.length_pos_iff.2 (oe h0),Xa h⟩
def zS (k:Nat):Lib.repeatL [48] k=cN (List.replicate k 0):=by
 induction k with
 |zero=>rfl
 |succ k ih=>rw[Lib.repeatL,ih,List.replicate_succ'];simp[cN]
def N8 (h:g<10000):Lib.repeatL [48] (4-(br g).length)++br g=cN (P4 g):=by
 by_cases h0:g=0
 · subst h0;rfl
 · have e:br g=cN (ap 10 g):=by unfold br;rw[if_neg h0]
   rw[e,cL,P4,pf,zS]
def drop_at (h:x<X.length):X.drop x=X.getD x 0::X.drop (x+1):=by
 rw[List.drop_eq_getElem_cons h];simp[h]
def Gz (hn:X.length=n)(hx:x<n)(hk:x+1=k)(hlt:∀g∈X,g<10000)(h0:X.getLast?≠some 0):
 cN (D4 (X.drop k))++(if x+1<n then Lib.repeatL [48] (4-(br (X.getD x 0)).length)++br (X.getD x 0)else br (X.getD x 0))=cN (D4 (X.drop x)):=by
 subst hk
 have O:X.getD x 0<10000:=getD_lt hlt x
 have H:X.drop x=X.getD x 0::X.drop (x+1):=drop_at U
 rw[H]
 by_cases hc:x+1<n
 · rw[if_pos hc,N8 O]
   have:X.drop (x+1)=X.getD (x+1) 0::X.drop (x+1+1):=drop_at U
   rw[TE _ (by rw[this];simp),pf]
 · rw[if_neg hc]
   have A0:X.drop (x+1)=[]:=List.drop_eq_nil_of_le U
   rw[A0]
   have G:X.getD x 0≠0:=by
    intro e
    apply h0
    rw[List.getLast?_eq_getElem?,show X.length-1=x by omega]
    have E:X[x]?=some X[x]:=qa5 U
    rw[List.getD,E]at e
    rw[E];exact qb2 some e
   simp only[D4]
   unfold br
   rw[if_neg G]
   simp[cN]
def rS (o:Option (List UInt8)):List UInt8:=o.getD []
def rE (o:Option (List UInt8)):Int:=if o.isSome then 0 else 30
def iC (o:Option (List UInt8)):Value:=.tuple #[S (rS o),.int .i64 (rE o)]
def jK (ng:Bool)(a:Nat):(bO ng a).natAbs=a:=by unfold bO;split <;>simp
def Ez (ng:Bool)(h:0<a):(bO ng a<0)↔ng=true:=by
 unfold bO;cases ng <;>simp;omega
def qN (ng:Bool)(h:0<a):ae (bO ng a)=if ng then 45::br a else br a:=by
 unfold ae
 rw[jK]
 by_cases hn:ng=true
 · rw[if_pos ((Ez ng h).2 hn),if_pos hn]
 · rw[if_neg (λhc=>hn ((Ez ng h).1 hc)),if_neg hn]
def pg (ng:Bool)(h:0<a):fits (bO ng a)=decide ((br a).length<=200):=by
 unfold fits
 rw[jK]
 unfold br
 rw[if_neg U,cL,decide_eq_decide]
 exact(ba 10 U a 200).symm
def pi (ng:Bool):Value.tuple #[S [48],.int .i64 0]=iC (bc (bO ng 0)):=by cases ng <;>rfl
def sM (ng:Bool)(h:0<a)(hl:(200:Int)<(((br a).length:Nat):Int)):Value.tuple #[S [],.int .i64 30]=iC (bc (bO ng a)):=by
 unfold bc
 rw[pg ng h,decide_eq_false U];rfl
def sN (h:0<a)(hl:¬(200:Int)<(((br a).length:Nat):Int))(hn:ng=true):Value.tuple #[S ([45]++br a),.int .i64 0]=iC (bc (bO ng a)):=by
 unfold bc
 rw[pg ng h,decide_eq_true U,if_pos Z,qN ng h,if_pos hn];rfl
def sP (h:0<a)(hl:¬(200:Int)<(((br a).length:Nat):Int))(hn:ng=false):Value.tuple #[S (br a),.int .i64 0]=iC (bc (bO ng a)):=by
 unfold bc
 rw[pg ng h,decide_eq_true U,if_pos Z,qN ng h,if_neg (by simp[hn])];rfl
def Ra (X:List Nat)(n i:Nat):List UInt8:=if i+1<n then Lib.repeatL [48] (4-(br (X.getD i 0)).length)++br (X.getD i 0)else br (X.getD i 0)
def tx (X:List Nat)(n:Nat)(pre:List Nat):List UInt8:=pre.flatMap (Ra X n)
def EA (X:List Nat)(n:Nat)(pre:List Nat)(x:Nat):tx X n (pre++[x])=tx X n pre++Ra X n x:=by simp[tx]
def N9 (h:i+1<n):Ra X n i=Lib.repeatL [48] (4-(br (X.getD i 0)).length)++br (X.getD i 0):=if_pos h
def Oa (h:¬i+1<n):Ra X n i=br (X.getD i 0):=if_neg h
def Ob (hX:∀g∈X,g<10000)(n i:Nat):(Ra X n i).length<=4:=by
 have h1:=getD_lt hX i
 have h2:=wA h1
 unfold Ra;split
 · rw[N8 h1,cL,xT h1];omega
 · exact h2.2
def Jv {X:List Nat}(hX:∀g∈X,g<10000)(n:Nat):∀pre:List Nat,(tx X n pre).length<=4*pre.length
 |[]=>by simp[tx]
 | i::l=>by
   have ih:=Jv hX n l
   have:=Ob hX n i
   simp only[tx,List.flatMap_cons,List.length_append,List.length_cons]at ih ⊢
   omega
def Jw {X:List Nat}{n:Nat}(hn:X.length=n)(hlt:∀g∈X,g<10000)(h0:X.getLast?≠some 0):∀j,j<=n->cN (D4 (X.drop j))++tx X n (List.range j).reverse=cN (D4 X)
 |0,_=>by simp[tx]
 | j+1,h=>by
   have e:(List.range (j+1)).reverse=j::(List.range j).reverse:=by simp[List.range_succ]
   rw[e]
   show _++(Ra X n j++tx X n _)=_
   rw[<-List.append_assoc]
   have:=Gz (X:=X) (x:=j) (n:=n) (k:=j+1) hn U Z hlt h0
   unfold Ra
   rw[this]
   exact Jw hn hlt h0 j U
def TH (hn:(ap 10000 a).length=n)(h0:0<a):tx (ap 10000 a) n (List.range n).reverse=br a:=by
 have h:=Jw hn (eI 10000 U a) (jY 10000 U a) n (qa0 _)
 rw[List.drop_eq_nil_of_le U,TG]at h
 have h2:cN (D4 [])=[]:=rfl
 rw[h2,List.nil_append]at h
 rw[h];unfold br;rw[if_neg U]
set_option maxRecDepth 100000 in
def fH (h1:ee w lo1 A1 n1 c1 a)(s1:n1<=9000)(ht:Tb w):
 CL 124 #[.agg #[.bool ng,.slice A1 n1 c1]] w (aI w λv w'=>v=iC (bc (bO ng a))):=by
 have B1:=h1.hi;refine rx func124 Z (I ?_);refine bx (λAo CY G=>?_);have Ab:=CY.2;refine I ?_;by_cases lq:(n1:Int)=0;have Ar:a=0:=jq (B:=10000) U (h1.len.trans U);refine I ?_;refine xD (v:=.tuple #[S [48],.int .i64 0]) (cQ (r1:=.tmp 2) (r2:=.tmp 3) Z ?_ ?_) Ab Th;exact aM (t:=2) WD _;exact aM (t:=3) WD _;have O:0<a:=mz (B:=10000) U kb3;refine I ?_;refine al R3 (λB2 CG Ay=>?_);have⟨G,Ab⟩:=bn CG.2 G Ab;refine I ?_;refine cl D3 (j4 (A:=A1) (n:=n1) (c:=c1)) ?_;rintro _ C1 CB ⟨rfl,Cr⟩;have⟨G,Ay,Ab⟩:=cj CB.2 G Ay Ab;refine I ?_;have H:=pc.start Ay
 refine sF (m:=n1) (enc:=λx=>[.int .i64 x,.int .i64 (((ap 10000 a).getD x 0:Nat):Int)]) (order:=(List.range n1).reverse) (Kq:=λW=>ao W B2.heap.size 159 #[.slice A1 n1 c1]/\Rw W lo1 A1 (ints (ap 10000 a))) (gf:=207) (lb:=[pT B2.heap.size]) (ps:=[16,17]) Z D6 (iR Cr (h1.row.ext Ab) h1.len U) (λW W' row hq A0 hr=>⟨ad6 A0 hr hq.1,Rw.cel A0 hr hq.2⟩) (λ_=>rfl) [5,6] (λx=>[.int .i64 x,.int .i64 (((ap 10000 a).getD x 0:Nat):Int)]) ?asn (λpre W=>(C1.heap.size<=W.heap.size)/\(aP w W)/\(ao W w.heap.size 161 #[.bool ng,.slice A1 n1 c1])/\(pc W Ao.heap.size (tx (ap 10000 a) n1 pre))) (λ_ _ _=>False) ?hI ?hIx ?h0 ?body ?done ?stop;case asn=>
  intro l x W K hK;refine I ?_;exact hK
 case hI=>
  rintro pre W W' row ⟨Aw,E,G,H⟩ A0 hr;exact⟨qa8 Aw A0.size,oX (B:=C1.heap.size) U A0 hr (bz E) E,ad6 A0 hr G,pc.cel A0 hr H⟩
 case hIx=>
  exact λ_ _ _ _ _ h=>h.elim
 case h0=>
  exact⟨qa0 _,Ab,G,H⟩
 case body=>
  rintro l pre x W ⟨Aw,E,G,H⟩ E5 hx D2;have Kp:=KB.refl Ao.heap.size W;have zW:=bz E;have Am:=getD_lt h1.lt x;have E4:=wA Am;have B0:=H;have hbW:=H.lt;have hDl:=Jv h1.lt n1 pre;refine I ?_;refine clb Ii (hc:=xR _ _ U U (ht.ext E)) (hk:=?_);rintro _ _ Av rfl;have G:=be Av.2 G;have H:=pc.ext Av.2 H;have E:=xt E Av.2;have Kp:=KB.ext U Kp Av.2;rw[zR];refine I ?_;refine nY (I ?_);by_cases nm:(x:Int)<((n1:Int)-1);refine I ?_;refine aa (du (l:=br ((ap 10000 a).getD x 0)) U9 Z ?_);refine aa (jl (a:=4) (b:=(((br ((ap 10000 a).getD x 0)).length:Nat):Int)) (c:=((4-(br ((ap 10000 a).getD x 0)).length:Nat):Int)) Z Z zd U ?_);refine clb Ij (hc:=qM [48] (4-(br ((ap 10000 a).getD x 0)).length) _ U JT) (hk:=?_);rintro _ _ Aq rfl;have G:=be Aq.2 G;have H:=pc.ext Aq.2 H;have E:=xt E Aq.2;have Kp:=KB.ext U Kp Aq.2;refine I ?_;refine aa (xo (a:=Lib.repeatL [48] (4-(br ((ap 10000 a).getD x 0)).length)) (b:=br ((ap 10000 a).getD x 0)) Z Z (by rw[<-List.length_append,N8 Am,cL,xT Am];omega) ?_);refine I ?_;have D1:((Lib.repeatL [48] (4-(br ((ap 10000 a).getD x 0)).length))++(br ((ap 10000 a).getD x 0))).length<=8:=by rw[N8 Am,cL,xT Am];omega
  refine aa (bK (vs:=[pT Ao.heap.size,S ((Lib.repeatL [48] (4-(br ((ap 10000 a).getD x 0)).length))++(br ((ap 10000 a).getD x 0)))]) QE Z (zQ H U) ?_);rintro _ _ ⟨rfl,Af,As⟩;have G:=KB.blk As U dc G;have E:=Below.trans E (Below.mono As.low U);have E0:=As.low.size;have Kp:=KB.wr Kp As;have H:=Af;refine I ?_;exact⟨Kp.others B0,λhq=>⟨Kp.blk U dc hq.1,Kp.rw (λAz e=>by have:=B1 Az e;omega) hq.2⟩,⟨U,E,G,(by rw[EA,N9 U];exact H)⟩⟩;refine I ?_;have D1:(br ((ap 10000 a).getD x 0)).length<=8:=J
  refine aa (bK (vs:=[pT Ao.heap.size,S (br ((ap 10000 a).getD x 0))]) QE Z (zQ H U) ?_);rintro _ _ ⟨rfl,Af,Ap⟩;have G:=KB.blk Ap U dc G;have E:=Below.trans E (Below.mono Ap.low U);have E1:=Ap.low.size;have Kp:=KB.wr Kp Ap;have H:=Af;refine I ?_;exact⟨Kp.others B0,λhq=>⟨Kp.blk U dc hq.1,Kp.rw (λAz e=>by have:=B1 Az e;omega) hq.2⟩,⟨U,E,G,(by rw[EA,Oa U];exact H)⟩⟩
 case stop=>
  exact λ_ _ _ _ _ _ h _=>h.elim
 case done=>
  rintro D W hD ⟨Aw,E,G,H⟩ hK;have zW:=bz E;refine I ?_;rw[TH h1.len O]at H;refine aa (bK (vs:=[pT Ao.heap.size]) Wg Z (Gy H) ?_);rintro _ _ ⟨rfl,Af,Ax⟩;have G:=KB.blk Ax U dc G;have hK:=KB.dfr Ax H hK;have E:=Below.trans E (Below.mono Ax.low U);have H:=Af;refine I ?_;refine aa (du (l:=br a) U9 Z ?_);refine I ?_;by_cases np:200<(((br a).length:Nat):Int);refine I ?_;refine jG (v:=.tuple #[S [],.int .i64 30]) hK (cQ (r1:=.tmp 2) (r2:=.tmp 3) Z ?_ ?_) ((dG _).low E U) Th;exact aM (t:=2) WD _;exact aM (t:=3) WD _;refine I ?_;rcases qa4 ng with lp|lp;refine I ?_;refine aa (xo (a:=[45]) (b:=br a) Z Z j0 ?_);refine I ?_;refine jG (v:=.tuple #[S (([45])++(br a)),.int .i64 0]) hK (cQ (r1:=.tmp 2) (r2:=.tmp 3) Z ?_ ?_) ((dG _).low E U) Th;exact aM (t:=2) WD _;exact aM (t:=3) WD _
  refine I ?_;refine jG (v:=.tuple #[S (br a),.int .i64 0]) hK (cQ (r1:=.tmp 2) (r2:=.tmp 3) Z ?_ ?_) ((dG _).low E U) Th;exact aM (t:=2) WD _;exact aM (t:=3) WD _
end
end Go.Proofs.YtlmihmlnpjkblaaGreatDoor
