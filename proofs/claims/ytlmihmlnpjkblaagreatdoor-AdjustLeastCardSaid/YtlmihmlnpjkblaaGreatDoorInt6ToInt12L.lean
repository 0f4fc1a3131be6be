/- Part of the proof of a statement about an adjustment. -/
import Derived.Test.YtlmihmlnpjkblaaGreatDoorEngHToInt5L
import Derived.WalkSmall
import Derived.Lib.Atoi
import Derived.Lib.OthersKept
set_option linter.all false
namespace Go.Proofs.YtlmihmlnpjkblaaGreatDoor
open Go Go.Eng Go.RowKit Tryz
attribute [local irreducible] wpListIn Code.wpIn Oper.wpIn Exit.then Exit.inBlock Exit.noGoto
set_option maxHeartbeats 40000000
set_option maxRecDepth 100000 in
def Gl {g m:Nat}{lb:List Value}{pb:Nat->Bool}{w:World}(heg:Enters prog g)(hm0:m<=1000000)(hd:∀(i:Nat) (W:World),i<m->aO w W->CL g ([Value.int .i64 i]++lb).toArray W (aG W λv _=>v=.bool (pb i)))(hmon:∀i j,i<=j->j<m->pb i=true->pb j=true):
 CL 162 #[.int .i64 m,.func (.func g) #[] lb.toArray] w (aG w λv w'=>∃k:Nat,v=.int .i64 k/\k<=m/\(∀i<k,pb i=false)/\(k<m->pb k=true)):=by
 refine aC func162 Z (I ?_);have E1:=aa4 w;refine cg [(5,7),(9,24)] (λAf e W=>∃i:Nat,∃j:Nat,(j-i=Af)/\(e 5=.int .i64 i)/\(e 6=.int .i64 j)/\(i<=j)/\(j<=m)/\(∀k<i,pb k=false)/\(j<m->pb j=true)/\(aO w W)) ((m)-0) ⟨0,m,rfl,rfl,rfl,(qa7 _),(qa0 _),U,U,E1⟩ ?_;rintro _ _ _ ⟨i,j,rfl,Ab,A2,q1,A1,A0,H,E7⟩;by_cases hm:i<j;refine I ?_;refine aa (ci (a:=(i:Int)) (b:=(j:Int)) (c:=((i+j:Nat):Int)) Z Z JT U ?_);refine aa (fU (k:=.i64) (k':=.u64) (a:=((i+j:Nat):Int)) (c:=((i+j:Nat):Int)) U3 H7 Z (wrap_u64 U) ?_);refine aa (Wl (k:=.u64) (a:=((i+j:Nat):Int)) (b:=1) (c:=(((i+j)/2:Nat):Int)) Z Z dc (by show((i+j:Nat):Int)/2=_;omega) ?_);refine aa (fU (k:=.u64) (k':=.i64) (a:=(((i+j)/2:Nat):Int)) (c:=(((i+j)/2:Nat):Int)) H7 U3 Z (wrap_i64 U) ?_);refine I ?_;refine aa (lW (vs:=[.int .i64 (((i+j)/2:Nat):Int)]) (lb:=lb) heg Z Z (hd ((i+j)/2) _ U E7) ?_);rintro _ _ G rfl;have G:=G.2;have E7:=xt E7 G;refine I ?_;refine xi (q:=!(pb ((i+j)/2))) Z (λE=>?_) (λE=>?_);have O:pb ((i+j)/2)=false:=by simpa using E
 refine I ?_;refine aa (ci (a:=(((i+j)/2:Nat):Int)) (b:=1) (c:=(((i+j)/2+1:Nat):Int)) Z Z JT U ?_);refine I ?_;exact bI ⟨(i+j)/2+1,j,rfl,rfl,A2,U,A1,(λk _=>by cases hb:pb k with|false=>rfl|true=>(have:=hmon k ((i+j)/2) U U hb;rw[O]at this;cases this)),H,E7⟩;have O:pb ((i+j)/2)=true:=by simpa using E
 refine I ?_;exact bI ⟨i,(i+j)/2,rfl,Ab,rfl,U,U,A0,(λ_=>O),E7⟩;refine I ?_;exact am (t:=4) (v:=.int .i64 i) Z E7 ⟨i,rfl,by omega,A0,by rw[show j=i by omega]at H;exact H⟩ Z
set_option maxRecDepth 100000 in
def NO {A1 A2:Option Addr}{n1 c1 a1 n2 c2 a2 i lo1 lo2 B1 B2:Nat}{w:World}(h1:qc w lo1 A1 n1 c1 a1)(s1:n1<=10000)(h2:qc w lo2 A2 n2 c2 a2)(k1:ap w B1 200 #[.func (.func 160) #[.slice A1 n1 c1] #[]])(k2:ap w B2 159 #[.slice A2 n2 c2])(hi:i<9999):
 CL 161 #[.int .i64 i,pT B1,pT B2] w (aG w λv w'=>v=.bool (decide (0<aN ((a1*(i+1):Nat):Int) (a2:Int)))):=by
 obtain⟨L,_⟩:∃L,L=w.heap.size:=⟨_,rfl⟩;refine aC func161 Z (I ?_);refine bL 7 ?_;refine sf ?_;refine aA (λ_ _ _ _=>by refine aa (ci (a:=(i:Int)) (b:=1) (c:=((i+1:Nat):Int)) Z Z JT U ?_);refine I ?_;exact aH) ?_
 refine bR (λv w=>dR L (a1*(i+1)) v w) (hs:=λ_ _ _ k h=>h.ext k) (λ_ _ hR15 _=>?_) ?_;have h1:=h1.ext hR15;refine aa (D5 (vs:=[.int .i64 ((i+1:Nat):Int)]) (la:=[.slice A1 n1 c1]) DT Z Z (Ej h1 U U) ?_);rintro _ _ O ⟨Ab,G,H,rfl,E⟩;have E20:=O;have E:=E.mono (lo':=L) (by have:=bz hR15;omega);refine I ?_;exact fs ⟨E20,⟨Ab,G,H,rfl,E⟩⟩;refine sf ?_;refine aR (V:=.int .i64 (aN ((a1*(i+1):Nat):Int) (a2:Int))) (λ_ _ hR27 W=>?_) ?_;obtain⟨Ab,G,H,p29,E⟩:=(W 3 8 Z Z);have Af:G<=n1+1:=by rw[<-E.len];exact my U _ _ _ h1.le U
 have h2:=h2.ext hR27;refine clb y9 (hc:=jF E U h2) (hk:=?_) (hv:=av p29 (av Z Z));rintro _ _ A0 rfl;have E33:=A0.2;refine I ?_;exact fs ⟨E33,rfl⟩;refine sf ?_;intro _ _ hR40 _;have E42:=hR40.2;refine I ?_;exact am (t:=4) (v:=.bool (decide (0<(aN ((a1*(i+1):Nat):Int) (a2:Int))))) Z E42 Z Z
end Go.Proofs.YtlmihmlnpjkblaaGreatDoor
def iY (m:Nat)(xs:List Nat)(s:List Nat×Nat)(i:Nat):List Nat×Nat:=(s.1.set i ((s.2*10000+xs.getD i 0)/m),(s.2*10000+xs.getD i 0)%m)
def de (m:Nat)(xs:List Nat)(n:Nat)(pre:List Nat):List Nat×Nat:=pre.foldl (iY m xs) (List.replicate n 0,0)
def tM (m:Nat)(xs:List Nat)(n:Nat)(pre:List Nat)(i:Nat):de m xs n (pre++[i])=iY m xs (de m xs n pre) i:=by simp[de]
def wu (m:Nat)(xs:List Nat)(n:Nat)(pre:List Nat):(de m xs n pre).1.length=n:=by
 unfold de
 have:∀(pre:List Nat) (s:List Nat×Nat),(pre.foldl (iY m xs) s).1.length=s.1.length:=by
  intro pre
  induction pre with
  |nil=>intro s;rfl
  |cons i pre ih=>intro s;rw[List.foldl_cons,ih];simp[iY]
 rw[this];simp
def Je (m:Nat)(xs:List Nat)(n:Nat)(hm:0<m):∀pre:List Nat,(de m xs n pre).2<m:=by
 intro pre
 unfold de
 have:∀(pre:List Nat) (s:List Nat×Nat),s.2<m->(pre.foldl (iY m xs) s).2<m:=by
  intro pre
  induction pre with
  |nil=>intro s h;exact h
  |cons i pre ih=>intro s _;rw[List.foldl_cons];exact ih _ (Nat.mod_lt _ hm)
 exact this pre _ hm
def Em {m r d:Nat}(hr:r<m)(hd:d<10000):(r*10000+d)/m<10000:=by
 rw[Nat.div_lt_iff_lt_mul J]
 have:(r+1)*10000<=m*10000:=Nat.mul_le_mul_right _ hr
 omega
def zA (m:Nat)(xs:List Nat)(hm:0<m)(hx:∀x∈xs,x<10000):∀(k:Nat) (q:List Nat) (r:Nat),k<=xs.length->q.length=xs.length->r<m->
 let s:=(List.range k).reverse.foldl (iY m xs) (q,r)
 s.1.length=q.length/\s.1.drop k=q.drop k/\m*bO 10000 (s.1.take k)+s.2=r*10000^k+bO 10000 (xs.take k)/\s.2<m/\∀d∈s.1.take k,d<10000
 |0,q,r,_,_,hr=>by simp[bO,hr]
 | k +1,q,r,hk,hq,hr=>by
   simp only
   rw[List.range_succ,List.reverse_append]
   simp only[List.reverse_cons,List.reverse_nil,List.nil_append,List.cons_append,List.foldl_cons]
   have hd:=getD_lt hx k
   have h1:=Em hr hd
   obtain⟨Aq,E,A0,Ab,O⟩:=zA m xs hm hx k (iY m xs (q,r) k).1 (iY m xs (q,r) k).2 J (by simp[iY,hq]) (Nat.mod_lt _ hm)
   generalize hs:List.foldl (iY m xs) (iY m xs (q,r) k) (List.range k).reverse=s at *
   have hl:(iY m xs (q,r) k).1.length=q.length:=by simp[iY]
   have W:k<s.1.length:=J
   have G:s.1[k]=(r*10000+xs.getD k 0)/m:=by
    have h3:s.1.drop k=s.1[k]::s.1.drop (k+1):=by rw[List.getElem_cons_drop]
    have h4:(iY m xs (q,r) k).1.drop k=(iY m xs (q,r) k).1[k]'(by omega)::(iY m xs (q,r) k).1.drop (k+1):=by rw[List.getElem_cons_drop]
    rw[h3,h4]at E
    have:=(List.cons.inj E).1
    rw[this];simp[iY]
   have H:s.1.take (k+1)=s.1.take k++[s.1[k]]:=List.take_succ_eq_append_getElem W
   have A1:xs.take (k+1)=xs.take k++[xs.getD k 0]:=by
    rw[List.take_succ_eq_append_getElem J];simp[show k<xs.length by omega]
   refine⟨by omega,?_,?_,Ab,?_⟩
   · have h3:s.1.drop (k+1)=(s.1.drop k).drop 1:=by rw[List.drop_drop]
     rw[h3,E,List.drop_drop]
     exact List.drop_set_of_lt J
   · rw[H,A1,b7,b7,G]
     have A2:(s.1.take k).length=k:=by simp;omega
     have Am:(xs.take k).length=k:=by simp;omega
     rw[A2,Am]
     simp only[bO,Nat.mul_zero,Nat.add_zero,Nat.pow_succ]
     have Ap:=Nat.div_add_mod (r*10000+xs.getD k 0) m
     have Ao:m*bO 10000 (s.1.take k)+s.2=(r*10000+xs.getD k 0)%m*10000^k+bO 10000 (xs.take k):=A0
     generalize (r*10000+xs.getD k 0)/m=u at *
     generalize (r*10000+xs.getD k 0)%m=v at *
     generalize xs.getD k 0=y at *
     grind
   · rw[H]
     intro d Af
     rcases List.mem_append.1 Af with h|h
     · exact O d h
     · rw[List.mem_singleton.1 h,G];exact h1
def Jf {m a n:Nat}(hm:0<m)(hn:(ao 10000 a).length=n):
 (∀d∈(de m (ao 10000 a) n (List.range n).reverse).1,d<10000)/\bO 10000 (de m (ao 10000 a) n (List.range n).reverse).1=a/m/\(de m (ao 10000 a) n (List.range n).reverse).2=a%m:=by
 obtain⟨h1,-,h3,h4,E⟩:=zA m (ao 10000 a) hm (eH 10000 J a) n (List.replicate n 0) 0 J (by simp[hn]) hm
 change ((de m (ao 10000 a) n (List.range n).reverse).1.length=_)at h1
 change (m*bO 10000 ((de m (ao 10000 a) n (List.range n).reverse).1.take n)+(de m (ao 10000 a) n (List.range n).reverse).2=_)at h3
 change ((de m (ao 10000 a) n (List.range n).reverse).2<m)at h4
 change (∀d∈(de m (ao 10000 a) n (List.range n).reverse).1.take n,d<10000)at E
 rw[List.length_replicate]at h1
 rw[List.take_of_length_le J]at h3 E
 rw[List.take_of_length_le J,cD 10000 J,Nat.zero_mul,Nat.zero_add]at h3
 generalize (de m (ao 10000 a) n (List.range n).reverse)=z at *
 refine⟨E,?_,?_⟩
 · rw[<-h3,Nat.mul_add_div hm,Nat.div_eq_of_lt h4];omega
 · rw[<-h3,Nat.mul_add_mod,Nat.mod_eq_of_lt h4]
namespace Go.Proofs.YtlmihmlnpjkblaaGreatDoor
open Go Go.Eng Go.RowKit Tryz
variable {lo b c n1 c1 a1 lo1 n2 c2 a2 lo2:Nat}{A A1 A2:Option Addr}{w w':World}
attribute [local irreducible] wpListIn Code.wpIn Oper.wpIn Exit.then Exit.inBlock Exit.noGoto
set_option maxHeartbeats 40000000
def fg {p:Prop}(h:p:=by kernel_rfl):p:=h
def qx (m:Nat):(madeCells #[Value.int .i64 0] (m*1)).toList=ints (List.replicate m 0):=by
 simp[madeCells,ints,Nat.mod_one,List.eq_replicate_iff]
def ints_set (qs:List Nat)(x k:Nat):(ints qs).toArray.setIfInBounds x (.int .i64 k)=(ints (qs.set x k)).toArray:=by
 simp[ints,List.map_set]
def Jg {m r k:Nat}(hm:0<m)(hr:r<m*10000)(hk:k<=9999)(h1:∀i<k,decide (0<aN ((m*(i+1):Nat):Int) (r:Int))=false)(h2:k<9999->decide (0<aN ((m*(k+1):Nat):Int) (r:Int))=true):k=r/m:=by
 have e:∀i,decide (0<aN ((m*(i+1):Nat):Int) (r:Int))=decide (r<m*(i+1)):=λi=>by
  rcases Nat.lt_trichotomy (m*(i+1)) r with h|h|h
  · rw[fV U];simp;omega
  · rw[jp U];simp;omega
  · rw[eK U];simp;omega
 symm
 have G:m*k<=r:=by
  rcases Nat.eq_zero_or_pos k with h0|h0
  · subst h0;simp
  · have:=h1 (k-1) U
    rw[e,show k-1+1=k by omega]at this
    simpa using this
 have E:r<m*(k+1):=by
  by_cases hk9:k<9999
  · have:=h2 hk9
    rw[e]at this
    simpa using this
  · rw[show k+1=10000 by omega];exact hr
 rw[Nat.div_eq_iff U]
 rw[Nat.mul_add]at E
 rw[Nat.mul_comm k m]
 omega
def Gm {m r:Nat}(i j:Nat)(hij:i<=j)(h:decide (0<aN ((m*(i+1):Nat):Int) (r:Int))=true):decide (0<aN ((m*(j+1):Nat):Int) (r:Int))=true:=by
 have h3:m*(i+1)<=m*(j+1):=Nat.mul_le_mul_left _ U
 simp only[decide_eq_true_eq]at *
 rcases Nat.lt_trichotomy (m*(i+1)) r with h1|h1|h1
 · rw[fV U]at h;omega
 · rw[jp U]at h;omega
 · rw[eK U];omega
def zB (r d:Nat)(hd:d<10000):dz (d::ao 10000 r)=ao 10000 (r*10000+d):=by
 rw[mm 10000 U (d::ao 10000 r) (λx hx=>by
  rcases List.mem_cons.1 hx with rfl|hx
  · exact hd
  · exact eH 10000 U r x hx)]
 simp only[bO,cD 10000 (show 2<=10000 by omega)]
 congr 1;omega
def Rw.putU {cs:List Value}(k:eE w w' b)(hne:∀ad,A=some ad->ad.block≠b)(h:Rw w lo A cs):Rw w' lo A cs:=by
 refine⟨λj u hu=>?_,h.lo,λad e=>by rw[k.size];exact h.hi ad e⟩
 obtain⟨c,o,e,hc⟩:=h.cells j u hu
 exact⟨c,o,e,(k.cell (a:=⟨c,o+j,none⟩) (show c≠b from hne _ e)).trans hc⟩
def qc.putU {n a:Nat}(k:eE w w' b)(hne:∀ad,A=some ad->ad.block≠b)(h:qc w lo A n c a):qc w' lo A n c a:=⟨Rw.putU k hne h.row,h.len,h.cap⟩
def ac2:=@qc.putU
def zD {m v:Nat}{qs:List Nat}(hr:Rw w lo A (ints qs))(hd:∀d∈qs,d<10000)(hv:bO 10000 qs=v)(ht:dz qs=qs.take m)(hm:m<=qs.length)(hc:m<=c):qc w lo A m c v:=by
 have h1:ao 10000 v=qs.take m:=by rw[<-ht,<-hv];exact(mm 10000 U qs hd).symm
 refine⟨?_,?_,hc⟩
 · rw[h1]
   have:=hr.take m
   simpa[ints,List.map_take]using this
 · rw[h1];simp;omega
set_option maxRecDepth 100000 in
def sn (h1:qc w lo1 A1 n1 c1 a1)(s1:n1<=9000)(h2:qc w lo2 A2 n2 c2 a2)(s2:n2<=9000)(h0:0<a2):
 CL 120 #[.slice A1 n1 c1,.slice A2 n2 c2] w (aG w λv w'=>∃A n c B m d,v=.tuple #[.slice A n c,.slice B m d]/\qc w' w.heap.size A n c (a1/a2)/\qc w' w.heap.size B m d (a1%a2)):=by
 refine ra func120 Z (I ?_);refine bx (λAx WV G=>?_);have E4:=WV.2;refine al BB (λAq X0 L1=>?_);have⟨G,E4⟩:=bn X0.2 G E4;refine al BB (λA0 bd H=>?_);have⟨G,L1,E4⟩:=cj bd.2 G L1 E4;refine I ?_;refine aa (md (m:=n1) gQ k7 Z Z U RC (λ_ X2 _ Q0=>?_));have⟨G,L1,H,E4⟩:=fo X2 G L1 H E4;have hq:=D6 Q0;rw[show(Value.int IntKind.i64 0).cells=#[Value.int .i64 0]from rfl,qx]at hq;clear Q0;refine SO L1 (λVm a5 O=>?_);have⟨G,H,hq,E4,_⟩:=QW a5 G H hq E4;refine I ?_;refine cl DR (j3 (A:=A1) (n:=n1) (c:=c1)) ?_;rintro _ Lj cf ⟨rfl,W2⟩;have⟨G,O,H,hq,E4⟩:=ku cf.2 G O H hq E4;refine I ?_
 refine se (m:=n1) (enc:=λx=>[.int .i64 x,.int .i64 (((ao 10000 a1).getD x 0:Nat):Int)]) (order:=(List.range n1).reverse) (Kq:=λW=>ap W Vm.heap.size 159 #[.slice A1 n1 c1]/\Rw W lo1 A1 (ints (ao 10000 a1))) (gf:=207) (lb:=[pT Vm.heap.size]) (ps:=[15,16]) Z DU (iN W2 (h1.row.ext E4) h1.len U) (λW W' row hq Az hr=>⟨ad4 Az hr hq.1,Rw.cel Az hr hq.2⟩) (λ_=>rfl) [6,7] (λx=>[.int .i64 x,.int .i64 (((ao 10000 a1).getD x 0:Nat):Int)]) ?asn (λpre W=>∃Ar:Option Addr,∃Ao:Nat,∃Ap:Nat,(Lj.heap.size<=W.heap.size)/\(aO w W)/\(ap W w.heap.size 159 #[.slice A2 n2 c2])/\(ap W Ax.heap.size 159 #[.slice (some ⟨A0.heap.size,0,none⟩) n1 n1])/\(ap W Aq.heap.size 159 #[.slice Ar Ao Ap])/\(ap W A0.heap.size 3 (ints (de a2 (ao 10000 a1) n1 pre).1).toArray)/\(qc W Lj.heap.size Ar Ao Ap ((de a2 (ao 10000 a1) n1 pre).2))) (λ_ _ _=>False) ?hI ?hIx ?h0 ?body ?done ?stop;case asn=>
  intro l x W K hK;refine I ?_;exact hK
 case hI=>
  rintro pre W W' row ⟨Ar,Ao,Ap,No,E,G,O,H,hq,hv⟩ Az hr;exact⟨Ar,Ao,Ap,qa8 No Az.size,oS (B:=Lj.heap.size) U Az hr (bz E) E,ad4 Az hr G,ad4 Az hr O,ad4 Az hr H,ad4 Az hr hq,qc.cel Az hr hv⟩
 case hIx=>
  exact λ_ _ _ _ _ h=>h.elim
 case h0=>
  exact⟨none,0,0,qa0 _,E4,G,O,H,hq,qc.zero _ _⟩
 case body=>
  rintro l pre x W ⟨Ar,Ao,Ap,No,E,G,O,H,hq,hv⟩ d0 hx d5;have Kp:=ez.refl [Aq.heap.size,A0.heap.size] W;have zW:=bz E;have ct:=hv.hi;have hd:=getD_lt h1.lt x;have T2:=Je a2 (ao 10000 a1) n1 h0 pre;have S9:=wu a2 (ao 10000 a1) n1 pre;have d4:Ao<=n2:=by rw[<-hv.len,<-h2.len];exact ek U U
  have bp:=ae1 H;have co:=ae1 hq;have bb:((de a2 (ao 10000 a1) n1 pre).2*10000+((ao 10000 a1).getD x 0))<a2*10000:=by have:((de a2 (ao 10000 a1) n1 pre).2+1)*10000<=a2*10000:=Nat.mul_le_mul_right _ T2;omega
  refine I ?_;refine BS (λ_ C1 _ P2=>?_);have G:=be C1 G;have O:=be C1 O;have H:=be C1 H;have hq:=be C1 hq;have hv:=aa7 C1 hv;have E:=xt E C1;have Kp:=ad5 Kp C1;have cx:=bz C1;refine I ?_;refine aa (jz (v:=.slice (some ⟨W.heap.size,0,none⟩) 1 1) (k:=1) gQ k7 Z dc Z P2 Z hv.row (by rw[iX,hv.len];omega) tJ RC U U (λ_ cv VW CG _=>?_));have G:=aa3 CG RW G;have O:=aa3 CG RW O;have H:=aa3 CG RW H;have hq:=aa3 CG RW hq;have hv:=qc.gr CG (λKY e=>by have:=ct KY e;simp[Value.ownBlock];omega) hv;have Kp:=ez.gr Kp CG (λb hb=>by exact Or.inr (by simp[Value.ownBlock]at hb;omega));have E:=cL E CG (bz E) (λg ce=>by have:=(P2.lt g ce).1;omega);have d3:=CG.size;obtain⟨Aw,a0,rfl,a8,cy,-,-⟩:=eM VW;have hs:Rw cv W.heap.size Aw (ints (((ao 10000 a1).getD x 0)::ao 10000 ((de a2 (ao 10000 a1) n1 pre).2))):=aa8 VW;refine clb q6 (hc:=fF hs (by rw[List.length_cons,hv.len];omega) a8 U) (hk:=?_);rintro _ ch E0 ⟨L2,rfl,Ay,ES⟩;have G:=be E0.2 G;have O:=be E0.2 O
  have H:=be E0.2 H;have hq:=be E0.2 hq;have hv:=aa7 E0.2 hv;have E:=xt E E0.2;have Kp:=ad5 Kp E0.2;rw[zB _ _ hd]at Ay;have Af:qc ch W.heap.size Aw L2 a0 ((de a2 (ao 10000 a1) n1 pre).2*10000+((ao 10000 a1).getD x 0)):=by
   refine⟨?_,?_,by omega⟩
   rw[Ay];have:=(hs.ext E0.2).take L2;simpa[ints,List.map_take]using this;rw[Ay,List.length_take,List.length_cons,hv.len];omega
  have uhnew:=Af.hi;have d6:L2<=n2+1:=by rw[<-Af.len,a7 10000 U];have:=nU (B:=10000) U a2;rw[h2.len]at this;rw[Nat.pow_succ];omega
  refine SO H (λLk E6 As=>?_);have G:=pb E6 G;have O:=pb E6 O;have hq:=pb E6 hq;have Af:=ac4 E6 U Af;have E:=bi E6 E;have Kp:=ad7 Kp E6 Rd;have dC:=iM E6;refine I ?_;refine aa (aD (vf:=[.slice A2 n2 c2]) (vc:=[]) Z Z ?_);refine al R0 (λ_ FR a4=>?_);have G:=be FR.2 G;have O:=be FR.2 O;have As:=be FR.2 As;have hq:=be FR.2 hq;have Af:=aa7 FR.2 Af;have E:=xt E FR.2;have Kp:=ad5 Kp FR.2;refine SO a4 (λ_ E1 Av=>?_);have G:=pb E1 G;have O:=pb E1 O;have As:=pb E1 As;have hq:=pb E1 hq;have Af:=ac2 E1 (λKY e=>by have:=uhnew KY e;omega) Af;have E:=bi E1 E;have Kp:=ad7 Kp E1 Rd;have d1:=iM E1;refine I ?_;refine aa (aD (vf:=[]) (vc:=[pT Lk.heap.size,pT Aq.heap.size]) Z Z ?_);refine I ?_;refine bL 5 ?_;refine sf ?_;refine aR (V:=.int .i64 ((((de a2 (ao 10000 a1) n1 pre).2*10000+((ao 10000 a1).getD x 0))/a2:Nat):Int)) (λ_ cr hR55 _=>?_) ?_;have As:=be hR55 As
  have Af:=aa7 hR55 Af;have Av:=be hR55 Av;have an:∀(i:Nat) (V:World),i<9999->aO cr V->CL 161 (([Value.int .i64 i]:List Value)++([pT Lk.heap.size,pT Aq.heap.size]:List Value)).toArray V (aG V λv _=>v=.bool (decide (0<aN ((a2*(i+1):Nat):Int) ((((de a2 (ao 10000 a1) n1 pre).2*10000+((ao 10000 a1).getD x 0)):Nat):Int)))):=by(intro i V hi Y;exact NO (h2.ext (xt (xt E hR55) Y)) U (Af.ext Y) (Av.ext Y) (As.ext Y) hi)
  refine clb Wb (hc:=Gl (m:=9999) (lb:=[pT Lk.heap.size,pT Aq.heap.size]) V9 U an (λi j Wa _ h=>Gm i j Wa h)) (hk:=?_);rintro _ _ Ne ⟨cz,rfl,c9,cc,bW⟩;have Ne:=Ne.2;obtain rfl:=Jg h0 bb c9 cc bW;have E60:=Ne;refine I ?_;exact fs ⟨E60,rfl⟩;refine aA (λ_ _ _ _=>by refine aa (aB (A:=some ⟨A0.heap.size,0,none⟩) (bk:=A0.heap.size) (o:=0) (m:=n1) (c:=n1) (i:=x) (oo:=x) gQ iT Z Z Z hx U ?_);refine I ?_;exact aH) ?_;refine sf ?_;intro _ _ hR67 _;have G:=be hR67.2 G;have O:=be hR67.2 O;have As:=be hR67.2 As;have hq:=be hR67.2 hq;have Af:=aa7 hR67.2 Af;have Av:=be hR67.2 Av;have E:=xt E hR67.2;have Kp:=ad5 Kp hR67.2;refine aa (cC (b:=A0.heap.size) (o:=x) (v:=.int .i64 ((((de a2 (ao 10000 a1) n1 pre).2*10000+((ao 10000 a1).getD x 0))/a2:Nat):Int)) iT Z Z Z hq (by simp[ints,S9];omega) (λcT Cr W3=>?_));have G:=pb Cr G;have O:=pb Cr O;have As:=pb Cr As;have Af:=ac4 Cr U Af;have Av:=pb Cr Av;have E:=bi Cr E;have Kp:=ad7 Kp Cr Rd;have dL:=iM Cr
  have hq:=W3;rw[ints_set]at hq;refine I ?_;obtain⟨L,_⟩:∃L,L=cT.heap.size:=⟨_,rfl⟩;refine bL 8 ?_;refine sf ?_;refine aA (λ_ _ _ _=>by refine aa (aB (A:=some ⟨A0.heap.size,0,none⟩) (bk:=A0.heap.size) (o:=0) (m:=n1) (c:=n1) (i:=x) (oo:=x) gQ iT Z Z Z hx U ?_);refine I ?_;exact aH) ?_;refine aA (λ_ _ hR93 _=>by have hq:=be hR93 hq;refine aa (bB (v:=.int .i64 ((((de a2 (ao 10000 a1) n1 pre).2*10000+((ao 10000 a1).getD x 0))/a2:Nat):Int)) U3 Z Z (ab4 hq (by simp[ints,S9,hx])) ?_);refine I ?_;exact aH) ?_
  refine bR (λv w=>dR L (a2*(((de a2 (ao 10000 a1) n1 pre).2*10000+((ao 10000 a1).getD x 0))/a2)) v w) (hs:=λ_ _ _ k h=>h.ext k) (λ_ _ hR97 _=>?_) ?_;refine aa (D5 (vs:=[.int .i64 ((((de a2 (ao 10000 a1) n1 pre).2*10000+((ao 10000 a1).getD x 0))/a2:Nat):Int)]) (la:=[.slice A2 n2 c2]) DT Z Z (Ej (h2.ext (xt E hR97)) U (Em T2 hd)) ?_);rintro _ _ ad ⟨Ab,P0,T3,rfl,K3⟩;have bZ:=ad;have K3:=K3.mono (lo':=L) (by have:=bz hR97;omega);refine I ?_;exact fs ⟨bZ,⟨Ab,P0,T3,rfl,K3⟩⟩;refine bR (λv w=>dR L (((de a2 (ao 10000 a1) n1 pre).2*10000+((ao 10000 a1).getD x 0))-a2*(((de a2 (ao 10000 a1) n1 pre).2*10000+((ao 10000 a1).getD x 0))/a2)) v w) (hs:=λ_ _ _ k h=>h.ext k) (λ_ _ Rm W1=>?_) ?_;obtain⟨Ab,P0,T3,a9,K3⟩:=(W1 6 36 Z Z);have S0:a2*(((de a2 (ao 10000 a1) n1 pre).2*10000+((ao 10000 a1).getD x 0))/a2)<=((de a2 (ao 10000 a1) n1 pre).2*10000+((ao 10000 a1).getD x 0)):=Nat.mul_div_le _ _;have cp:P0<=L2:=by rw[<-K3.len,<-Af.len];exact ek U S0
  have Af:=aa7 Rm Af;refine clb DN (hc:=oX Af U K3 U S0 cp) (hk:=?_) (hv:=av Z (av a9 Z));rintro _ _ b0 ⟨Am,nm,La,rfl,CY⟩;have bv:=b0.2;have CY:=CY.mono (lo':=L) (by have:=bz Rm;omega);refine I ?_;exact fs ⟨bv,⟨Am,nm,La,rfl,CY⟩⟩;refine sf ?_;intro _ _ G0 cb;have G:=be G0.2 G;have O:=be G0.2 O;have As:=be G0.2 As;have hq:=be G0.2 hq;have Av:=be G0.2 Av;have E:=xt E G0.2;have Kp:=ad5 Kp G0.2;obtain⟨Am,nm,La,_,CY⟩:=(cb 7 37 Z Z);rw[show((de a2 (ao 10000 a1) n1 pre).2*10000+((ao 10000 a1).getD x 0))-a2*(((de a2 (ao 10000 a1) n1 pre).2*10000+((ao 10000 a1).getD x 0))/a2)=((de a2 (ao 10000 a1) n1 pre).2*10000+((ao 10000 a1).getD x 0))%a2 by have:=Nat.div_add_mod ((de a2 (ao 10000 a1) n1 pre).2*10000+((ao 10000 a1).getD x 0)) a2;omega]at CY
  refine SO As (λ_ CB cq=>?_);have G:=pb CB G;have O:=pb CB O;have hq:=pb CB hq;have Av:=pb CB Av;have CY:=ac4 CB U CY;have E:=bi CB E;have Kp:=ad7 Kp CB Rd;have cw:=iM CB;refine I ?_;exact⟨Kp.others (by simp only[List.mem_cons,List.not_mem_nil,or_false];rintro b (rfl|rfl);exact bp;exact co),λhq=>⟨Kp.blk q4 hq.1,Kp.rw (λKY e=>by have:=h1.hi KY e;simp;omega) hq.2⟩,⟨Am,nm,La,U,E,G,O,cq,(by rw[tM];exact hq),(by rw[tM];exact CY.mono U)⟩⟩
 case stop=>
  exact λ_ _ _ _ _ _ h _=>h.elim
 case done=>
  rintro D W hD ⟨Ar,Ao,Ap,No,E,G,O,H,hq,hv⟩ hK;have zW:=bz E;refine I ?_;obtain⟨od,L3,ac⟩:=Jf h0 h1.len;rw[ac]at hv;have Li:=wu a2 (ao 10000 a1) n1 (List.range n1).reverse;generalize hqs:(de a2 (ao 10000 a1) n1 ((List.range n1).reverse)).1=qs at *;refine Ng tm ?_;have B2:=ac3 W;generalize hgw:World.drew W=ao2 at B2 ⊢;clear hgw;have G:=be B2 G;have O:=be B2 O;have H:=be B2 H;have hq:=be B2 hq;have hv:=aa7 B2 hv;have hK:=li.ext B2 hK;have E:=xt E B2;refine gR (i:=0) (is:=[2]) fg ⟨?_,?_,trivial⟩;refine mp Z ?_;refine(bB (v:=.slice (some ⟨A0.heap.size,0,none⟩) n1 n1) (b:=Ax.heap.size) (o:=0) gQ Z Z (ab4 O Z) ?_);refine gR (i:=1) (is:=[2]) fg ⟨?_,?_,trivial⟩;refine mp Z ?_;refine(xJ (vs:=[.slice (some ⟨A0.heap.size,0,none⟩) n1 n1]) q6 Z (fF (ae0 hq (qa0 _)) Li (qa0 _) U) ?_);rintro _ _ EW ⟨B1,rfl,Ay,ES⟩;have G:=be EW.2 G;have O:=be EW.2 O;have H:=be EW.2 H;have hq:=be EW.2 hq;have hv:=aa7 EW.2 hv;have hK:=li.ext EW.2 hK;have E:=xt E EW.2;refine gR (i:=2) (is:=[3]) fg ⟨?_,?_,trivial⟩;refine mp Z ?_;refine(bB (v:=.slice Ar Ao Ap) (b:=Aq.heap.size) (o:=0) gQ Z Z (ab4 H Z) ?_)
  refine gR (i:=3) (is:=[]) fg ⟨?_,trivial⟩;refine mp Z ?_;refine(cC (b:=Ax.heap.size) (o:=0) (v:=.slice (some ⟨A0.heap.size,0,none⟩) B1 n1) mg Z Z Z O (qa3 Z) (λ_ Ix N0=>?_));have G:=pb Ix G;have H:=pb Ix H;have hq:=pb Ix hq;have hv:=ac4 Ix U hv;have hK:=ac7 Ix (hK.ne O) hK;have E:=bi Ix E;refine gR (i:=4) (is:=[]) fg ⟨?_,trivial⟩;refine mp Z ?_;refine(cC (b:=Aq.heap.size) (o:=0) (v:=.slice Ar Ao Ap) mg Z Z Z H (qa3 Z) (λ_ K2 bq=>?_));have G:=pb K2 G;have N0:=pb K2 N0;have hq:=pb K2 hq;have hv:=ac4 K2 U hv;have hK:=ac7 K2 (hK.ne H) hK;have E:=bi K2 E;refine D7 fg (I ?_);have E9:=hv.dfr hK;have E7:=ap.dfr hK hq;refine jD (v:=.tuple #[.slice (some ⟨A0.heap.size,0,none⟩) B1 n1,.slice Ar Ao Ap]) hK (cO (r1:=.cell 4 159) (r2:=.cell 5 159) Z ?_ ?_) ((dA _).low E U) ⟨_,_,_,_,_,_,rfl,zD (ae0 E7 U) od L3 Ay U ES,E9.mono U⟩;refine bC (b:=Ax.heap.size) (o:=0) gQ Z ?_ ?_;exact Z
  exact ab4 (N0.dfr hK) Z;refine bC (b:=Aq.heap.size) (o:=0) gQ Z ?_ ?_;exact Z;exact ab4 (bq.dfr hK) Z;refine mp Z ?_;refine(cC (b:=Ax.heap.size) (o:=0) (v:=.slice (some ⟨A0.heap.size,0,none⟩) B1 n1) mg Z Z Z O (qa3 Z) (λ_ KC L4=>?_));have G:=pb KC G;have H:=pb KC H;have hq:=pb KC hq;have hv:=ac4 KC U hv;have hK:=ac7 KC (hK.ne O) hK;have E:=bi KC E;refine gR (i:=2) (is:=[]) fg ⟨?_,trivial⟩;refine mp Z ?_;refine(bB (v:=.slice Ar Ao Ap) (b:=Aq.heap.size) (o:=0) gQ Z Z (ab4 H Z) ?_);refine gR (i:=4) (is:=[]) fg ⟨?_,trivial⟩;refine mp Z ?_;refine(cC (b:=Aq.heap.size) (o:=0) (v:=.slice Ar Ao Ap) mg Z Z Z H (qa3 Z) (λ_ KM cm=>?_));have G:=pb KM G;have L4:=pb KM L4;have hq:=pb KM hq;have hv:=ac4 KM U hv;have hK:=ac7 KM (hK.ne H) hK;have E:=bi KM E;refine D7 fg (I ?_);have E9:=hv.dfr hK;have E7:=ap.dfr hK hq;refine jD (v:=.tuple #[.slice (some ⟨A0.heap.size,0,none⟩) B1 n1,.slice Ar Ao Ap]) hK (cO (r1:=.cell 4 159) (r2:=.cell 5 159) Z ?_ ?_) ((dA _).low E U) ⟨_,_,_,_,_,_,rfl,zD (ae0 E7 U) od L3 Ay U ES,E9.mono U⟩
  refine bC (b:=Ax.heap.size) (o:=0) gQ Z ?_ ?_;exact Z;exact ab4 (L4.dfr hK) Z;refine bC (b:=Aq.heap.size) (o:=0) gQ Z ?_ ?_;exact Z;exact ab4 (cm.dfr hK) Z;refine mp Z ?_;refine(bB (v:=.slice Ar Ao Ap) (b:=Aq.heap.size) (o:=0) gQ Z Z (ab4 H Z) ?_);refine gR (i:=1) (is:=[]) fg ⟨?_,trivial⟩;refine mp Z ?_;refine(xJ (vs:=[.slice (some ⟨A0.heap.size,0,none⟩) n1 n1]) q6 Z (fF (ae0 hq (qa0 _)) Li (qa0 _) U) ?_);rintro _ _ E5 ⟨B1,rfl,Ay,ES⟩;have G:=be E5.2 G;have O:=be E5.2 O;have H:=be E5.2 H;have hq:=be E5.2 hq;have hv:=aa7 E5.2 hv;have hK:=li.ext E5.2 hK;have E:=xt E E5.2;refine gR (i:=3) (is:=[]) fg ⟨?_,trivial⟩;refine mp Z ?_;refine(cC (b:=Ax.heap.size) (o:=0) (v:=.slice (some ⟨A0.heap.size,0,none⟩) B1 n1) mg Z Z Z O (qa3 Z) (λ_ H3 P1=>?_));have G:=pb H3 G;have H:=pb H3 H;have hq:=pb H3 hq;have hv:=ac4 H3 U hv;have hK:=ac7 H3 (hK.ne O) hK;have E:=bi H3 E;refine gR (i:=4) (is:=[]) fg ⟨?_,trivial⟩;refine mp Z ?_;refine(cC (b:=Aq.heap.size) (o:=0) (v:=.slice Ar Ao Ap) mg Z Z Z H (qa3 Z) (λ_ H4 a6=>?_))
  have G:=pb H4 G;have P1:=pb H4 P1;have hq:=pb H4 hq;have hv:=ac4 H4 U hv;have hK:=ac7 H4 (hK.ne H) hK;have E:=bi H4 E;refine D7 fg (I ?_);have E9:=hv.dfr hK;have E7:=ap.dfr hK hq;refine jD (v:=.tuple #[.slice (some ⟨A0.heap.size,0,none⟩) B1 n1,.slice Ar Ao Ap]) hK (cO (r1:=.cell 4 159) (r2:=.cell 5 159) Z ?_ ?_) ((dA _).low E U) ⟨_,_,_,_,_,_,rfl,zD (ae0 E7 U) od L3 Ay U ES,E9.mono U⟩;refine bC (b:=Ax.heap.size) (o:=0) gQ Z ?_ ?_;exact Z;exact ab4 (P1.dfr hK) Z;refine bC (b:=Aq.heap.size) (o:=0) gQ Z ?_ ?_;exact Z;exact ab4 (a6.dfr hK) Z;refine mp Z ?_;refine(bB (v:=.slice Ar Ao Ap) (b:=Aq.heap.size) (o:=0) gQ Z Z (ab4 H Z) ?_);refine gR (i:=0) (is:=[]) fg ⟨?_,trivial⟩;refine mp Z ?_;refine(bB (v:=.slice (some ⟨A0.heap.size,0,none⟩) n1 n1) (b:=Ax.heap.size) (o:=0) gQ Z Z (ab4 O Z) ?_);refine gR (i:=1) (is:=[]) fg ⟨?_,trivial⟩;refine mp Z ?_;refine(xJ (vs:=[.slice (some ⟨A0.heap.size,0,none⟩) n1 n1]) q6 Z (fF (ae0 hq (qa0 _)) Li (qa0 _) U) ?_);rintro _ _ GC ⟨B1,rfl,Ay,ES⟩
  have G:=be GC.2 G;have O:=be GC.2 O;have H:=be GC.2 H;have hq:=be GC.2 hq;have hv:=aa7 GC.2 hv;have hK:=li.ext GC.2 hK;have E:=xt E GC.2;refine gR (i:=3) (is:=[]) fg ⟨?_,trivial⟩;refine mp Z ?_;refine(cC (b:=Ax.heap.size) (o:=0) (v:=.slice (some ⟨A0.heap.size,0,none⟩) B1 n1) mg Z Z Z O (qa3 Z) (λ_ ny wr=>?_));have G:=pb ny G;have H:=pb ny H;have hq:=pb ny hq;have hv:=ac4 ny U hv;have hK:=ac7 ny (hK.ne O) hK;have E:=bi ny E;refine gR (i:=4) (is:=[]) fg ⟨?_,trivial⟩;refine mp Z ?_;refine(cC (b:=Aq.heap.size) (o:=0) (v:=.slice Ar Ao Ap) mg Z Z Z H (qa3 Z) (λ_ H2 a3=>?_));have G:=pb H2 G;have wr:=pb H2 wr;have hq:=pb H2 hq;have hv:=ac4 H2 U hv;have hK:=ac7 H2 (hK.ne H) hK;have E:=bi H2 E;refine D7 fg (I ?_);have E9:=hv.dfr hK;have E7:=ap.dfr hK hq;refine jD (v:=.tuple #[.slice (some ⟨A0.heap.size,0,none⟩) B1 n1,.slice Ar Ao Ap]) hK (cO (r1:=.cell 4 159) (r2:=.cell 5 159) Z ?_ ?_) ((dA _).low E U) ⟨_,_,_,_,_,_,rfl,zD (ae0 E7 U) od L3 Ay U ES,E9.mono U⟩
  refine bC (b:=Ax.heap.size) (o:=0) gQ Z ?_ ?_;exact Z;exact ab4 (wr.dfr hK) Z;refine bC (b:=Aq.heap.size) (o:=0) gQ Z ?_ ?_;exact Z;exact ab4 (a3.dfr hK) Z
end Go.Proofs.YtlmihmlnpjkblaaGreatDoor
namespace Go.Eng
variable {l d:List UInt8}
def b8 (c:UInt8):Bool:=decide (48<=c.toNat)&&decide (c.toNat<=57)
def body:List UInt8->List UInt8
 |45::t=>t
 |l=>l
def neg:List UInt8->Bool
 |45::_=>true
 |_=>false
def ew (l:List UInt8):List Nat:=l.reverse.map λc=>c.toNat-48
def aE (l:List UInt8):Nat:=bO 10 (ew l)
def ec (d:List UInt8):Bool:=!d.isEmpty&&decide (d.length<=200)&&d.all b8&&(decide (d=[48])||decide (d.head?≠some 48))
def isInt (l:List UInt8):Bool:=ec (body l)&& !(neg l&&decide (body l=[48]))
def ah (l:List UInt8):Int:=if neg l then -(aE (body l):Int)else(aE (body l):Int)
def cK (l:List Nat):List UInt8:=l.reverse.map λd=>UInt8.ofNat (48+d)
def bo (n:Nat):List UInt8:=if n=0 then[48]else cK (ao 10 n)
def ae (n:Int):List UInt8:=if n<0 then 45::bo n.natAbs else bo n.natAbs
def fits (n:Int):Bool:=decide (n.natAbs<10^200)
def TD {c:UInt8}(h:b8 c=true):c.toNat-48<10:=by simp[b8]at h;omega
def xL (h:l.all b8=true):∀d∈ew l,d<10:=by
 intro d hd
 simp only[ew,List.mem_map,List.mem_reverse]at hd
 obtain⟨c,hc,rfl⟩:=hd
 exact TD (List.all_eq_true.1 h c hc)
def byte_of {c:UInt8}(h:b8 c=true):UInt8.ofNat (48+(c.toNat-48))=c:=by
 simp[b8]at h
 rw[show 48+(c.toNat-48)=c.toNat by omega]
 simp
def Cw (h:l.all b8=true):cK (ew l)=l:=by
 unfold cK ew
 rw[<-List.map_reverse,List.reverse_reverse,List.map_map]
 conv=>rhs;rw[<-List.map_id l]
 apply List.map_congr_left
 intro c hc
 exact byte_of (List.all_eq_true.1 h c hc)
def Cx {l:List Nat}(h:∀d∈l,d<10):ew (cK l)=l:=by
 unfold cK ew
 rw[<-List.map_reverse,List.reverse_reverse,List.map_map]
 conv=>rhs;rw[<-List.map_id l]
 apply List.map_congr_left
 intro d hd
 have:=h d hd
 simp only[Function.comp,UInt8.toNat_ofNat',id]
 omega
def Gn {l:List Nat}(h:∀d∈l,d<10):(cK l).all b8=true:=by
 rw[List.all_eq_true]
 intro c hc
 simp only[cK,List.mem_map,List.mem_reverse]at hc
 obtain⟨d,hd,rfl⟩:=hc
 have:=h d hd
 simp only[b8,UInt8.toNat_ofNat',Bool.and_eq_true,decide_eq_true_eq]
 omega
def cI (l:List Nat):(cK l).length=l.length:=by simp[cK]
def iZ (l:List UInt8):(ew l).length=l.length:=by simp[ew]
def tN (h:ec d=true)(h0:d≠[48]):Canon 10 (ew d):=by
 simp only[ec,Bool.and_eq_true,Bool.or_eq_true,decide_eq_true_eq]at h
 obtain⟨⟨⟨h1,h2⟩,h3⟩,h4⟩:=h
 refine⟨xL h3,?_⟩
 rcases h4 with h4|h4
 · exact absurd h4 h0
 · cases d with
   |nil=>simp at h1
   | cons c t=>
     have hc:b8 c=true:=by simp at h3;exact h3.1
     have E:c≠48:=by simpa using h4
     simp only[ew,List.reverse_cons,List.map_append,List.map_cons,List.map_nil,List.getLast?_concat,ne_eq,Option.some.injEq]
     intro _
     simp[b8]at hc
     have:c.toNat=48:=J
     exact E (UInt8.toNat_inj.1 (by simpa using this))
def zF (h:ec d=true)(h0:d≠[48]):ew d=ao 10 (aE d):=ml J (tN h h0)
def qy:aE [48]=0:=by decide
def oZ (h:ec d=true)(h0:d≠[48]):0<aE d:=by
 refine Canon.pos J (tN h h0) ?_
 intro e
 have:d.length=0:=by rw[<-iZ,e];rfl
 simp[ec,List.length_eq_zero_iff.1 this]at h
def jG (h:ec d=true):d.all b8=true:=by
 simp only[ec,Bool.and_eq_true]at h;exact h.1.2
def kG (h:ec d=true):0<d.length/\d.length<=200:=by
 simp only[ec,Bool.and_eq_true,decide_eq_true_eq]at h
 refine⟨?_,h.1.1.2⟩
 have:=h.1.1.1
 cases d <;>simp at this ⊢
def so (h:ec d=true):aE d<10^200:=by
 have h1:aE d<10^d.length:=by rw[<-iZ];exact lg 10 _ (xL (jG h))
 exact qb1 h1 (Nat.pow_le_pow_right J (kG h).2)
def tO (h:ec d=true):bo (aE d)=d:=by
 by_cases h0:d=[48]
 · subst h0;decide
 · unfold bo
   rw[if_neg (by have:=oZ h h0;omega),<-zF h h0,Cw (jG h)]
def nW {n:Nat}(h:n≠0):ao 10 n≠[]:=λe=>h (by have:=cD 10 J n;rw[e]at this;exact this.symm)
def gD (n:Nat):aE (bo n)=n:=by
 unfold bo
 split
 · next h=>subst h;decide
 · rw[aE,Cx (eH 10 J n),cD 10 J]
def zG {n:Nat}(h:n<10^200):ec (bo n)=true:=by
 unfold bo
 split
 · decide
 · next h0=>
   have E:=nW h0
   have hl:(ao 10 n).length<=200:=(a7 10 J n 200).2 h
   have h1:(cK (ao 10 n)).isEmpty=false:=by
    cases hh:cK (ao 10 n)with
    |nil=>exact absurd (List.length_eq_zero_iff.1 (by rw[<-cI,hh];rfl)) E
    |cons a b=>rfl
   simp only[ec,h1,Gn (eH 10 J n),cI,hl,decide_true,Bool.not_false,Bool.and_self,Bool.true_and,Bool.or_eq_true,decide_eq_true_eq]
   right
   have h2:=jX 10 J n
   have h3:=eH 10 J n
   unfold cK
   rw[List.head?_map,List.head?_reverse]
   cases hg:(ao 10 n).getLast? with
   |none=>simp
   | some x=>
     simp only[Option.map_some,ne_eq,Option.some.injEq]
     intro e
     have hx:x<10:=h3 x (List.mem_of_getLast? hg)
     have:=qb2 UInt8.toNat e
     simp at this
     have:x=0:=J
     subst this
     exact h2 hg
def tP (n:Nat):(bo n).head?≠some 45:=by
 unfold bo
 split
 · decide
 · unfold cK
   rw[List.head?_map,List.head?_reverse]
   cases hg:(ao 10 n).getLast? with
   |none=>simp
   | some x=>
     have hx:x<10:=eH 10 J n x (List.mem_of_getLast? hg)
     simp only[Option.map_some,ne_eq,Option.some.injEq]
     intro e
     have:=qb2 UInt8.toNat e
     simp at this
     omega
def Gp {a b:Nat}(h:bo a=bo b):a=b:=by rw[<-gD a,h,gD]
def xM (h:l.head?≠some 45):body l=l:=by
 unfold body;split
 · simp at h
 · rfl
def Jh (h:l.head?≠some 45):neg l=false:=by
 unfold neg;split
 · simp at h
 · rfl
def tQ (h:neg l=true):l=45::body l:=by
 unfold neg at h;split at h
 · rfl
 · cases h
def o4 (h:neg l=false):body l=l:=by
 unfold neg at h;split at h
 · cases h
 · next hh => unfold body;split
              · exact absurd Z (hh _)
              · rfl
def em (h:isInt l=true):ec (body l)=true:=by
 simp only[isInt,Bool.and_eq_true]at h;exact h.1
def nX (h:isInt l=true)(hn:neg l=true):body l≠[48]:=by
 simp only[isInt,Bool.and_eq_true,hn,Bool.true_and,Bool.not_eq_true',decide_eq_false_iff_not]at h;exact h.2
def dT (l:List UInt8):(ah l).natAbs=aE (body l):=by unfold ah;split <;>simp
def Ji (h:isInt l=true):decide (ah l<0)=neg l:=by
 unfold ah
 cases hn:neg l with
 | true=>
   have:=oZ (em h) (nX h hn)
   simp;omega
 |false=>simp
def eO (h:isInt l=true):fits (ah l)=true:=by
 simp only[fits,dT,decide_eq_true_eq];exact so (em h)
def iv (h:isInt l=true):ae (ah l)=l:=by
 have E:=Ji h
 unfold ae
 rw[dT,tO (em h)]
 cases hg:neg l with
 | true=>
   rw[hg,decide_eq_true_eq]at E
   rw[if_pos E,<-tQ hg]
 | false=>
   rw[hg,decide_eq_false_iff_not]at E
   rw[if_neg E,o4 hg]
def gE (n:Int):body (ae n)=bo n.natAbs:=by
 unfold ae
 split
 · rfl
 · exact xM (tP _)
def qA (n:Int):neg (ae n)=decide (n<0):=by
 unfold ae
 split
 · next h=>simp[neg,h]
 · next h=>rw[Jh (tP _)];simp[h]
def aI (n:Int):ah (ae n)=n:=by
 unfold ah
 rw[qA,gE,gD]
 by_cases h:n<0
 · simp[h];omega
 · simp[h];omega
def bf {n:Int}(h:fits n=true):isInt (ae n)=true:=by
 have h1:n.natAbs<10^200:=of_decide_eq_true h
 unfold isInt
 rw[gE,qA,zG h1,Bool.true_and,Bool.not_eq_true',Bool.and_eq_false_iff]
 by_cases hn:n<0
 · right
   rw[decide_eq_false_iff_not]
   intro e
   have:=Gp (a:=n.natAbs) (b:=0) (by rw[e];decide)
   omega
 · left;simp[hn]
def tR {a b:List UInt8}(ha:isInt a=true)(hb:isInt b=true)(h:ah a=ah b):a=b:=by
 rw[<-iv ha,h,iv hb]
def mQ {a b:Int}(h:ae a=ae b):a=b:=by rw[<-aI a,h,aI]
def jH:isInt [48]=true:=by decide
def kH:ah [48]=0:=by decide
def fY (h:isInt l=true):ah l=0↔l=[48]:=
 ⟨λe=>tR h jH (e.trans kH.symm),λe=>by rw[e,kH]⟩
def ba (n:Int):Option (List UInt8):=if fits n then some (ae n)else none
def xN (a b:List UInt8):Option (List UInt8):=if isInt a&&isInt b then ba (ah a+ah b)else none
def aT (a b:List UInt8):Option (List UInt8):=if isInt a&&isInt b then ba (ah a-ah b)else none
def ay (a b:List UInt8):Option (List UInt8):=if isInt a&&isInt b then ba (ah a*ah b)else none
def dk (a b:List UInt8):Option (List UInt8×List UInt8):=if isInt a&&isInt b&&decide (b≠[48])then(ba (ah a/ah b)).map λq=>(q,ae (ah a%ah b))else none
def bP (a b:List UInt8):Option (List UInt8):=if isInt a&&isInt b then ba ((Int.gcd (ah a) (ah b):Nat):Int)else none
def dH (a b:List UInt8):Int:=if isInt a&&isInt b then aN (ah a) (ah b)else 0
end Go.Eng
namespace Go.Proofs.YtlmihmlnpjkblaaGreatDoor
open Go Go.Eng Go.RowKit Go.Sort Go.Proofs Tryz
variable {cs args:Array Value}{nx ny ng:Bool}{gs X:List Nat}{l d s:List UInt8}{b a n1 c1 lo1 n2 c2 lo2 lo D g x n k i:Nat}{A1 A2:Option Addr}{p:Prop}{t:TypeId}{w w' W W' B A:World}
section
def Tb (w:World):Prop:=∃fz:Nat×Nat,w.heap[4]?=some (.cells ((Lib.pow10Tab.map λz=>Value.int .u64 z).toArray) 306 fz)
def Tb.ext (k:aO w w')(h:Tb w):Tb w':=by
 obtain⟨E,h⟩:=h
 exact⟨E,k.heap h⟩
def ab5:=@Tb.ext
def Tb.gr (k:w.grownBy w' (some b))(hb:ap w b t cs)(ht:t≠306)(h:Tb w):Tb w':=by
 obtain⟨E,h⟩:=h
 refine⟨E,(k.block 4 (Array.getElem?_eq_some_iff.1 h).1 (λe=>?_)).trans h⟩
 cases e
 unfold ap at hb
 rw[hb]at h;cases h;exact ht Z
def Tb.put (k:eE w w' b)(hb:ap w b t cs)(ht:t≠306)(h:Tb w):Tb w':=by
 obtain⟨E,h⟩:=h
 refine⟨E,(k.block 4 (λe=>?_)).trans h⟩
 subst e
 unfold ap at hb
 rw[hb]at h;cases h;exact ht Z
def Tb.tab (h : Tb w) : Lib.TabIs prog w "internal/strconv.uint64pow10" .u64 Lib.pow10Tab := by
 obtain⟨G,h⟩:=h
 unfold Lib.TabIs World.var?
 have E : prog.globalNamed "internal/strconv.uint64pow10" = some 4 := by kernel_rfl
 rw[E]
 simp only[Option.bind_some,h]
def tS {P:Program}{f:FuncId}{R:Ending->World->Prop}{Q:Value->World->Prop}(h:Calls P f args w R)(hq:∀e w',R e w'->∃v,e=.returned v/\aO w w'/\Q v w'):Calls P f args w (aG w Q):=
 h.mono (by
  intro e w' hR
  obtain⟨v,rfl,h1,h2⟩:=hq e w' hR
  exact⟨h1,h2⟩)
def Jj (w:World)(k:Nat)(os:Array Obj):aO w (grow (w.drewN k) os):=by
 refine⟨rfl,rfl,rfl,by simp[grow],λi hi=>?_⟩
 simp only[grow]
 rw[Array.getElem?_append_left (by simpa using hi)]
 rfl
def qB (l:List UInt8):(ByteArray.mk l.toArray).data.toList=l:=by simp
def tU (l:List UInt8):(ByteArray.mk l.toArray).size=l.length:=by simp[ByteArray.size]
def xO (n:Int)(w:World)(h0:-9223372036854775808<=n)(h1:n<=9223372036854775807)(ht:Tb w):CL 167 #[.int .i64 n] w (aG w λv _=>v=S (Lib.itoa n)):=
 tS (Tryz.strconv_Itoa n h0 h1 w ht.tab) (by
  rintro e w' ⟨rfl,k,os,rfl⟩
  exact⟨_,rfl,Jj w k os,rfl⟩)
def tV (w:World)(e:TypeId)(s:ByteArray):aO w (Lib.bytesWorld w e s):=by
 have h1:aO w (w.drew.alloc (.cells (Lib.bytesCells w e s) e)):=aO.trans (ac3 w) (ad9 _ _)
 have h2:w.heap.size<(w.drew.alloc (.cells (Lib.bytesCells w e s) e)).heap.size:=by simp[World.alloc,World.drew,-World.alloc_eq,-World.drew_eq]
 unfold Lib.bytesWorld World.freeze
 refine⟨h1.os,h1.tape,h1.output,by simpa using h1.size,λi hi=>?_⟩
 rw[<-h1.block i hi]
 split
 · next h=>cases h
 · show(Array.modify _ _ _)[i]? =_
   rw[Array.getElem?_modify,if_neg q4]
def NP (l:List UInt8)(n:Int)(w:World)(hl:l.length<=18)(h:Lib.atoi l=some n):CL 206 #[S l] w (aG w λv _=>v=.tuple #[.int .i64 n,.nilIface]):=
 tS (Tryz.strconv_Atoi ⟨l.toArray⟩ n (by rw[tU];exact hl) (by rw[qB];exact h) w) (by
  rintro e w' ⟨rfl,t,rfl⟩
  exact⟨_,rfl,tV w 5 t,rfl⟩)
def qC (l:List UInt8)(c:Nat)(w:World)(hc:c<=1000000)(hl:l.length<=1000000):CL 168 #[S l,.int .i64 ((c:Nat):Int)] w (aG w λv _=>v=S (Lib.repeatL l c)):=by
 refine tS (Tryz.strings_Repeat ⟨l.toArray⟩ c w J (by rw[tU];have:=qb9 hl hc;omega)) ?_
 rintro e w' ⟨rfl,k⟩
 exact⟨_,rfl,k,by rw[qB];rfl⟩
def vH (l p:List UInt8)(w:World):CL 204 #[S l,S p] w (aG w λv _=>v=S (Lib.trimPrefix l p)):=
 tS (Tryz.strings_TrimPrefix ⟨l.toArray⟩ ⟨p.toArray⟩ w) (by
  rintro e w' ⟨rfl,rfl⟩
  exact⟨_,rfl,aa4 _,by rw[qB,qB];rfl⟩)
def rI (l:List UInt8):Lib.trimPrefix l [45]=body l:=by
 unfold Lib.trimPrefix Lib.hasPrefix
 cases l with
 |nil=>rfl
 | cons c t=>
   by_cases hc:c=45
   · subst hc;simp[List.isPrefixOf,body]
   · have h1:([45]:List UInt8).isPrefixOf (c::t)=false:=by
      simp[List.isPrefixOf];exact λh=>hc h.symm
     rw[h1,xM (by simpa using hc)];rfl
def gh:List UInt8:=[48,49,50,51,52,53,54,55,56,57]
def NQ (l:List UInt8)(w:World)(hl:l.length<=9223372036854775807):CL 205 #[S l,S gh] w (aG w λv _=>v=S (Lib.trimS l gh)):=
 tS (Any.strings_Trim_laid Tryz.lays160 q0 ⟨l.toArray⟩ ⟨gh.toArray⟩ w (by rw[tU];exact hl) zd (ascii_of_all zd)) (by
  rintro e w' ⟨rfl,k⟩
  exact⟨_,rfl,k,by rw[qB,qB];rfl⟩)
end
section
attribute [local irreducible] wpListIn Code.wpIn Oper.wpIn Exit.then Exit.inBlock Exit.noGoto
set_option maxHeartbeats 40000000
def aY (h:p:=by assumption):p:=h
def xP (l:List UInt8)(w:World):CL 204 #[S l,S [45]] w (aG w λv _=>v=S (body l)):=by
 have h:=vH l [45] w
 rw[rI]at h
 exact h
def tW {b:UInt8}:gh.contains b=b8 b:=by
 have h:∀b:Fin 256,gh.contains (UInt8.ofNat b.val)=b8 (UInt8.ofNat b.val):=by decide +kernel
 have:=h ⟨b.toNat,b.toNat_lt⟩
 simpa using this
def wv (d:List UInt8):Lib.trimS d gh=[]↔d.all b8=true:=by
 have hd:∀l:List UInt8,l.dropWhile (λb=>gh.contains b)=[]↔l.all b8=true:=by
  intro l
  induction l with
  |nil=>simp
  | cons a t ih=>
    simp only[List.dropWhile_cons,List.all_cons,tW]at ih ⊢
    cases b8 a <;>simp_all
 unfold Lib.trimS Lib.trimLeftS
 rw[hd]
 unfold Lib.trimRightS
 constructor
 · intro h
   by_cases hn:(d.reverse.dropWhile (λb=>gh.contains b))=[]
   · rw[hd]at hn;simpa using hn
   · exfalso
     have h2:(d.reverse.dropWhile (λb=>gh.contains b)).head hn∉gh:=by
      have:=List.head_dropWhile_not (p:=λb=>gh.contains b) (l:=d.reverse) hn
      simpa using this
     have h3:b8 ((d.reverse.dropWhile (λb=>gh.contains b)).head hn)=true:=by
      refine List.all_eq_true.1 h _ ?_
      rw[List.mem_reverse]
      exact List.head_mem hn
     rw[<-tW]at h3
     exact h2 (by simpa using h3)
 · intro h
   have:(d.reverse.dropWhile (λb=>gh.contains b))=[]:=by rw[hd];simpa using h
   rw[this];rfl
def Jk (h:body l=[]):Value.bool false=.bool (isInt l):=by simp[isInt,ec,h]
def Jl (h:(200:Int)<(((body l).length:Nat):Int)):Value.bool false=.bool (isInt l):=by
 have:¬(body l).length<=200:=J
 simp[isInt,ec,this]
def Jm (h:¬Lib.trimS (body l) gh=[]):Value.bool false=.bool (isInt l):=by
 rw[wv]at h
 simp[isInt,ec,h]
def Jn (h:l=[48]):Value.bool true=.bool (isInt l):=by subst h;rw[jH]
def NR (h:¬l=[]):0<l.length:=List.length_pos_iff.2 h
def zH {c:UInt8}(hc:(body l)[0]?=some c)(h1:¬body l=[])(h2:¬(200:Int)<(((body l).length:Nat):Int))(h3:Lib.trimS (body l) gh=[])(h4:¬l=[48]):
 Value.bool (!decide (((c.toNat:Nat):Int)=48))=.bool (isInt l):=by
 rw[wv]at h3
 have A0:(body l).length<=200:=J
 have O:(body l).isEmpty=false:=by cases hb:body l <;>simp_all
 have H:(((c.toNat:Nat):Int)=48)↔c=48:=by
  constructor
  · intro h;exact UInt8.toNat_inj.1 (by have:(48:UInt8).toNat=48:=rfl;omega)
  · intro h;subst h;rfl
 have G:(body l).head?=some c:=by rw[List.head?_eq_getElem?];exact hc
 congr 1
 simp only[isInt,ec,h3,A0,O,G,decide_true,Bool.not_false,Bool.true_and,Option.some.injEq,H,ne_eq]
 by_cases hb:body l=[48]
 · have E:neg l=true:=by
    cases E:neg l with
    |true=>rfl
    |false=>exact absurd ((o4 E).symm.trans hb) h4
   have:c=48:=by rw[hb]at hc;simpa using hc.symm
   simp[hb,E,this]
 · simp[hb]
set_option maxRecDepth 100000 in
theorem iw (l:List UInt8)(w:World):
 CL 156 #[S l] w (aG w λv w'=>v=.bool (isInt l)):=by
 refine aC func156 rfl ?_;refine I ?_;refine cl Ih (xP l _) ?_;rintro _ _ G rfl;have E4:=G.2;refine I ?_;by_cases h5:(body l)=([]);refine I ?_;refine rH (b:=[]) ?_;refine I ?_;exact am (t:=2) (v:=.bool false) rfl E4 (by first|exact Jk aY|exact Jl aY|exact Jm aY|exact Jn aY|exact zH aY aY aY aY aY) rfl;by_cases h6:200<(((body l).length:Nat):Int);refine I ?_;refine rH (b:=[]) ?_;refine I ?_;refine aa (dv (l:=body l) U9 rfl ?_);refine I ?_;exact am (t:=2) (v:=.bool false) rfl E4 (by first|exact Jk aY|exact Jl aY|exact Jm aY|exact Jn aY|exact zH aY aY aY aY aY) rfl;refine I ?_;refine rH (b:=[]) ?_;refine I ?_;refine aa (dv (l:=body l) U9 rfl ?_);refine I ?_;refine clb Wg (hc:=NQ (body l) _ U) (hk:=?_);rintro _ _ H rfl;have E4:=xt E4 H.2;refine I ?_;refine Z3 (b:=[]) ?_;refine I ?_;by_cases h10:(Lib.trimS (body l) gh)=([]);refine I ?_;by_cases h11:l=([48]);refine I ?_;refine rH (b:=[48]) ?_;refine I ?_
 exact am (t:=2) (v:=.bool true) rfl E4 (by first|exact Jk aY|exact Jl aY|exact Jm aY|exact Jn aY|exact zH aY aY aY aY aY) rfl;refine I ?_;refine rH (b:=[48]) ?_;refine I ?_;have E:=dp (l:=body l) (i:=0) (NR aY);refine aa (im (l:=body l) (i:=0) (c:=((body l).getD 0 0)) U9 rfl rfl E ?_);refine I ?_;exact am (t:=2) (v:=.bool (!decide (((((body l).getD 0 0).toNat:Nat):Int)=48))) rfl E4 (by first|exact Jk aY|exact Jl aY|exact Jm aY|exact Jn aY|exact zH aY aY aY aY aY) rfl;refine I ?_;exact am (t:=2) (v:=.bool false) rfl E4 (by first|exact Jk aY|exact Jl aY|exact Jm aY|exact Jn aY|exact zH aY aY aY aY aY) rfl
def zI (a b:List UInt8):ew (a++b)=ew b++ew a:=by simp[ew]
def Cy (gs:List Nat)(a b:List Nat)(v:Nat)(k:Nat)(hk:gs.length=k)(ha:a.length=4*k)(h:bO 10000 gs=bO 10 a)(hv:v=bO 10 b):bO 10000 (gs++[v])=bO 10 (a++b):=by
 rw[b7,b7,h,ha,hk,hv]
 have:(10:Nat)^(4*k)=10000^k:=by rw[Nat.pow_mul]
 rw[this]
 simp[bO]
def o5:∀(l:List UInt8) (acc:Nat),l.all b8=true->Lib.decFrom acc l=some (acc*10^l.length+bO 10 (ew l))
 |[],acc,_=>by simp[Lib.decFrom,ew,bO]
 | c::t,acc,h=>by
   simp only[List.all_cons,Bool.and_eq_true]at h
   have h1:=h.1
   simp only[b8,Bool.and_eq_true,decide_eq_true_eq]at h1
   rw[Lib.decFrom,Lib.digitVal,if_pos h1]
   simp only[]
   rw[o5 t _ h.2]
   have e:ew (c::t)=ew t++[c.toNat-48]:=by simp[ew]
   rw[e,b7,iZ]
   simp only[bO,List.length_cons,Nat.pow_succ,Option.some.injEq]
   generalize 10^t.length=p
   generalize c.toNat-48=x
   rw[Nat.add_mul,Nat.mul_comm p 10,<-Nat.mul_assoc,Nat.mul_comm x p]
   simp
   omega
def Gq (h:l.all b8=true)(h0:l≠[]):Lib.atoi l=some ((bO 10 (ew l):Nat):Int):=by
 cases l with
 |nil=>exact absurd Z h0
 | cons c t=>
   have hc:b8 c=true:=by simp at h;exact h.1
   simp only[b8,Bool.and_eq_true,decide_eq_true_eq]at hc
   have h1:(c==45)=false:=by
    rw[beq_eq_false_iff_ne];intro e;subst e;exact absurd hc.1 dc
   have h2:(c==43)=false:=by
    rw[beq_eq_false_iff_ne];intro e;subst e;exact absurd hc.1 dc
   rw[Lib.atoi,h1,h2]
   simp only[Bool.false_eq_true,if_false]
   rw[Lib.decNat]
   simp only[List.isEmpty_cons,Bool.false_eq_true,if_false]
   rw[o5 _ 0 h]
   simp
def Cz (l:List UInt8)(h:l.all b8=true)(hl:l.length<=4):bO 10 (ew l)<10000:=by
 have h1:=lg 10 (ew l) (xL h)
 rw[iZ]at h1
 exact qb1 h1 (qa8 (Nat.pow_le_pow_right U hl) U)
def zJ (h:d.all b8=true)(i j:Nat):((d.take j).drop i).all b8=true:=by
 rw[List.all_eq_true]at *
 exact λx hx=>h x (List.mem_of_mem_take (List.mem_of_mem_drop hx))
structure HH (d:List UInt8)(m:Nat)(gs:List Nat):Prop where
 le:m<=d.length
 full:0<m->d.length-m=4*gs.length
 val:bO 10000 gs=bO 10 (ew (d.drop m))
 lt:∀g∈gs,g<10000
 cnt:gs.length<=d.length
def HH.start (d:List UInt8):HH d d.length []:=⟨qa0 _,λ_=>by simp,by simp[ew,bO],by simp,by simp⟩
def HH.step {m:Nat}(hd:d.all b8=true)(h:HH d m gs)(hm:0<m):HH d (m-4) (gs++[bO 10 (ew ((d.take m).drop (m-4)))]):=by
 have G:=h.le
 have hf:=h.full hm
 refine⟨by omega,λ_=>by simp;omega,?_,?_,by simp;omega⟩
 · have e:d.drop (m-4)=(d.take m).drop (m-4)++d.drop m:=by
    rw[<-List.drop_append_of_le_length q4,List.take_append_drop]
   rw[e,zI]
   exact Cy _ _ _ _ _ Z (by rw[iZ,List.length_drop];exact hf) h.val Z
 · intro g E
   rcases List.mem_append.1 E with E|E
   · exact h.lt g E
   · rw[List.mem_singleton.1 E]
     exact Cz _ (zJ hd _ _) q4
def HH.len {m:Nat}(h:HH d m gs)(hm:0<m):gs.length<=d.length:=by have:=h.full hm;have:=h.le;omega
def Sg (w:World)(lo:Nat)(ng:Bool)(a:Nat)(v:Value):Prop:=∃A n c,v=.agg #[.bool ng,.slice A n c]/\qc w lo A n c a
def NS (m:Nat):(if(0:Int)<(m:Int)-4 then(m:Int)-4 else 0)=((m-4:Nat):Int):=by split <;>omega
def CC (l:List UInt8):decide (((body l).length:Int)<((l.length:Nat):Int))=neg l:=by
 cases h:neg l with
 |true=>rw[tQ h];simp[body];omega
 |false=>rw[o4 h];simp
def TE (h:0<l.length):l≠[]:=List.length_pos_iff.1 h
def HH.all {m:Nat}(h:HH d m gs)(hm:¬0<m):bO 10000 gs=aE d:=by
 have:=h.val
 rw[show m=0 by omega,List.drop_zero]at this
 exact this
set_option maxRecDepth 100000 in
def zK (l:List UInt8)(w:World)(h:isInt l=true):
 CL 157 #[S l] w (aG w λv w'=>Sg w' w.heap.size (neg l) (aE (body l)) v):=by
 have Az:=em h;have hd:=jG Az;have FR:=kG Az;refine aC func157 Z (I ?_);refine al bG (λ_ E1 E=>?_);have E16:=E1.2;refine I ?_;refine cl Ih (xP l _) ?_;rintro _ Am Cr rfl;have⟨E,E16⟩:=bn Cr.2 E E16;refine I ?_;refine aa (dv (l:=body l) U9 Z ?_);refine I ?_;refine aa (dv (l:=l) U9 Z ?_);refine I ?_;rw[CC];refine aa (bU (vs:=[(0,.bool (neg l))]) (cells:=#[.bool (neg l),.slice none 0 0]) (pl:=[(0,1),(1,1)]) kA bG q0 Z q0 ?_);refine al bG (λ_ E6 C1=>?_);have⟨E,E16⟩:=bn E6.2 E E16;refine SA C1 (λB2 CB G=>?_);have⟨E,E16,_⟩:=kt CB E E16;refine I ?_;have E0:World.ownsRow B2 w.heap.size 3 1 (.slice none 0 0) 0 (ints []):=bK;refine cg [(3,3),(5,7),(16,38)] (λE7 e W=>∃m:Nat,∃gs:List Nat,∃H:Value,(m=E7)/\(e 3=S ((body l).take m))/\(HH (body l) m gs)/\((H).ownBlock≠some w.heap.size)/\((H).ownBlock≠some Am.heap.size)/\(aO w W)/\(ap W w.heap.size 161 #[.bool false,.slice none 0 0])/\(ap W Am.heap.size 161 #[.bool (neg l),H])/\(W.ownsRow w.heap.size 3 1 H gs.length (ints gs))) ((body l).length) ⟨(body l).length,[],.slice none 0 0,rfl,(qb2 S (by rw[List.take_length])),(HH.start _),(by simp[Value.ownBlock]),(by simp[Value.ownBlock]),E16,E,G,E0⟩ ?_
 rintro _ _ _ ⟨m,gs,H,rfl,p31,q1,n26,n27,E32,E,G,ho⟩;have G0:=bz E32;have ES:=q1.le;by_cases hm:0<m;have GC:=q1.len hm;have ES:=q1.le;refine I ?_;refine aa (j2 (l:=(body l).take m) (m:=m) U9 Z q4 ?_);refine I ?_;refine aa (j2 (l:=(body l).take m) (m:=m) U9 Z q4 ?_);refine oE ?_;refine aa (HV (a:=0) (b:=(m:Int)-4) (m:=((m-4:Nat):Int)) Z Z (NS m) ?_);refine I ?_;refine aa (mc (l:=(body l).take m) (i:=(m-4)) (j:=((body l).take m).length) U9 Z (.inr ⟨_,congrArg some Z⟩) (.inl ⟨rfl,rfl⟩) q4 Wf ?_);rw[show(((body l).take m).take (((body l).take m).length)).drop (m-4)=((body l).take m).drop (m-4)by rw[List.take_length]];refine clb Wh (hc:=NP _ _ _ q4 (Gq (zJ hd _ _) (TE q4))) (hk:=?_);rintro _ _ Af rfl;have⟨E,G⟩:=dZ Af.2 E G;have ho:=ab Af.2 ho;have E32:=xt E32 Af.2;refine I ?_;refine BS (λ_ Ap _ CY=>?_);have⟨E,G⟩:=dZ Ap E G;have ho:=ab Ap ho;have E32:=xt E32 Ap;refine AP ho (aa8 CY) (λB1 _ O Ao Ax=>?_);have n46:=aQ Ax n26 (bt E);have n47:=aQ Ax n27 (bt G);have E:=aa3 Ao (λe=>n26 e.symm) E;have G:=aa3 Ao (λe=>n27 e.symm) G;have E32:=bm ho U U E32 Ao;refine I ?_
 refine aa (cC (b:=Am.heap.size) (o:=1) (v:=B1) mg Z Z (bQ O) G (qa3 Z) (λ_ Aw E4=>?_));have E:=pb Aw E;have O:=ax Aw n47 O;have E32:=bi Aw E32;refine I ?_;refine aa (mc (l:=(body l).take m) (i:=0) (j:=(m-4)) U9 Z (.inl ⟨rfl,rfl⟩) (.inr ⟨_,qb2 some Z⟩) U q4 ?_);rw[show(((body l).take m).take (m-4)).drop 0=((body l).take m).take (m-4)from rfl];refine I ?_;exact bI ⟨m-4,gs++[bO 10 (ew (((body l).take m).drop (m-4)))],B1,rfl,(qb2 S (by rw[List.take_take];congr 1;omega)),(HH.step hd q1 hm),n46,n47,E32,E,E4,(aM O Wf (by rw[mw];rfl))⟩;obtain⟨Av,Aq,rfl,E5,-⟩:=eM ho;have EW:=q1.cnt;refine I ?_;refine aa (j2 (l:=(body l).take m) (m:=m) U9 Z q4 ?_);refine I ?_;refine clb q6 (hc:=fF (aa8 ho) Z E5 U) (hk:=?_);rintro _ _ A0 ⟨Ab,rfl,E9,H2⟩;have⟨E,G⟩:=dZ A0.2 E G;have ho:=ab A0.2 ho;have E32:=xt E32 A0.2;refine I ?_;refine SO G (λ_ Ar Ay=>?_);have E:=pb Ar E;have ho:=ax Ar n27 ho;have E32:=bi Ar E32;refine I ?_;refine SA E (λ_ As CG=>?_);have Ay:=pb As Ay;have ho:=ax As n26 ho;have E32:=bi As E32;refine I ?_
 refine aX (v:=.agg #[.bool (neg l),.slice Av Ab Aq]) (bY  rfl ?_) E32 ⟨Av,Ab,Aq,rfl,zD (aa8 ho) q1.lt (q1.all hm) E9 U U⟩;refine ak (t:=2) (cs:=[.bool (neg l),.slice Av Ab Aq]) (b:=w.heap.size) (o:=0) kA Z mh ?_ ?_;exact Z;exact aa0 CG (i:=0) Z
set_option maxRecDepth 100000
def fH (h:p:=by assumption):p:=h
def bN (ng:Bool)(a:Nat):Int:=if ng then -(a:Int)else(a:Int)
def En (h:(0:Int)<=aN (a:Int) (b:Int)):b<=a:=by
 rcases Nat.lt_or_ge a b with h1|h1
 · rw[fV U]at h;omega
 · exact h1
def zL (h:¬(0:Int)<=aN (a:Int) (b:Int)):a<=b:=by
 rcases Nat.lt_or_ge a b with h1|h1
 · omega
 · rcases Nat.eq_or_lt_of_le h1 with h2|h2
   · omega
   · rw[eK U]at h;omega
def fZ (h:(nx==ny)=true):bN nx (a+b)=bN nx a+bN ny b:=by
 have:nx=ny:=by simpa using h
 subst this
 unfold bN;split <;>omega
def ix (h:(nx==ny)=false)(hle:b<=a):bN nx (a-b)=bN nx a+bN ny b:=by
 cases nx <;>cases ny <;>simp_all [bN] <;>omega
def iy (h:(nx==ny)=false)(hle:a<=b):bN ny (b-a)=bN nx a+bN ny b:=by
 cases nx <;>cases ny <;>simp_all [bN] <;>omega
def zM (h1:qc w lo1 A1 n1 c1 a)(s1:n1<=9000)(h2:qc w lo2 A2 n2 c2 b)(s2:n2<=9000):
 CL 142 #[.agg #[.bool nx,.slice A1 n1 c1],.agg #[.bool ny,.slice A2 n2 c2]] w (aG w λv w'=>∃ng r A n c,v=.agg #[.bool ng,.slice A n c]/\qc w' w.heap.size A n c r/\bN ng r=bN nx a+bN ny b):=by
 refine aC func142 Z (I ?_);refine bx (λ_ Av H=>?_);have h1:=aa7 Av.2 h1;have h2:=aa7 Av.2 h2;have E63:=Av.2;refine bx (λAq Ay O=>?_);have h1:=aa7 Ay.2 h1;have h2:=aa7 Ay.2 h2;have⟨H,E63⟩:=bn Ay.2 H E63;refine al bG (λE5 Aw Ab=>?_);have h1:=aa7 Aw.2 h1;have h2:=aa7 Aw.2 h2;have⟨H,O,E63⟩:=cj Aw.2 H O E63;refine I ?_;refine aa (HU (a:=nx) (b:=ny) (q:=(nx==ny)) U4 Z Z Z ?_);refine I ?_;rcases qa4 (nx==ny)with h70|h70;refine I ?_;obtain⟨L,hL⟩:∃L,L=E5.heap.size:=⟨_,rfl⟩;refine bL 7 ?_;refine sf ?_;refine bR (λv w=>dR L (a+b) v w) (hs:=λ_ _ _ k h=>h.ext k) (λ_ _ hR97 _=>?_) ?_;have h1:=aa7 hR97 h1;have h2:=aa7 hR97 h2;refine clb y8 (hc:=oW h1 U h2 U) (hk:=?_);rintro _ _ CG ⟨Ar,G,E,rfl,hr⟩;have E4:=CG.2;have hr:=hr.mono (lo':=L) (by have:=bz hR97;omega);refine I ?_;exact fs ⟨E4,⟨Ar,G,E,rfl,hr⟩⟩;refine sf ?_;intro _ _ Cr EW;have⟨H,O,Ab,E63⟩:=fo Cr.2 H O Ab E63;obtain⟨Ar,G,E,CY,hr⟩:=(EW 6 17 Z Z);refine aa (bU (vs:=[(0,.bool nx),(1,.slice Ar G E)]) (cells:=#[.bool nx,.slice Ar G E]) (pl:=[(0,1),(1,1)]) kA bG q0 (cY Z (cY CY Z)) q0 ?_)
 refine SA Ab (λ_ Af H2=>?_);have⟨H,O⟩:=jU Af H O;have hr:=ac4 Af U hr;have E63:=bi Af E63;refine I ?_;refine aX (v:=.agg #[.bool nx,.slice Ar G E]) (bY  rfl ?_) E63 ⟨_,_,_,_,_,rfl,hr.mono U,by first|exact fZ fH|exact ix fH A0|exact iy fH A0⟩;refine ak (t:=4) (cs:=[.bool nx,.slice Ar G E]) (b:=Aq.heap.size) (o:=0) kA Z mh ?_ ?_;exact Z;exact aa0 H2 (i:=0) Z;refine I ?_;refine clb y9 (hc:=jF h1 U h2) (hk:=?_);rintro _ B1 Ax rfl;have h1:=aa7 Ax.2 h1;have h2:=aa7 Ax.2 h2;have⟨H,O,Ab,E63⟩:=fo Ax.2 H O Ab E63;refine I ?_;by_cases wr:0<=(aN (a:Int) (b:Int));refine I ?_;obtain⟨L,hL⟩:∃L,L=B1.heap.size:=⟨_,rfl⟩;have A0:=En fH;have As:n2<=n1:=by rw[<-h1.len,<-h2.len];exact ek U A0
 refine bL 7 ?_;refine sf ?_;refine bR (λv w=>dR L (a-b) v w) (hs:=λ_ _ _ k h=>h.ext k) (λ_ _ Az _=>?_) ?_;have h1:=aa7 Az h1;have h2:=aa7 Az h2;refine clb DN (hc:=oX h1 U h2 U A0 As) (hk:=?_);rintro _ _ E0 ⟨Ar,G,E,rfl,hr⟩;have E9:=E0.2;have hr:=hr.mono (lo':=L) (by have:=bz Az;omega);refine I ?_;exact fs ⟨E9,⟨Ar,G,E,rfl,hr⟩⟩;refine sf ?_;intro _ _ E1 B2;have⟨H,O,Ab,E63⟩:=fo E1.2 H O Ab E63;obtain⟨Ar,G,E,CB,hr⟩:=(B2 6 32 Z Z);refine aa (bU (vs:=[(0,.bool nx),(1,.slice Ar G E)]) (cells:=#[.bool nx,.slice Ar G E]) (pl:=[(0,1),(1,1)]) kA bG q0 (cY Z (cY CB Z)) q0 ?_);refine SA Ab (λ_ Ao FR=>?_);have⟨H,O⟩:=jU Ao H O;have hr:=ac4 Ao U hr;have E63:=bi Ao E63;refine I ?_;refine aX (v:=.agg #[.bool nx,.slice Ar G E]) (bY  rfl ?_) E63 ⟨_,_,_,_,_,rfl,hr.mono U,by first|exact fZ fH|exact ix fH A0|exact iy fH A0⟩;refine ak (t:=4) (cs:=[.bool nx,.slice Ar G E]) (b:=Aq.heap.size) (o:=0) kA Z mh ?_ ?_;exact Z;exact aa0 FR (i:=0) Z;refine I ?_;obtain⟨L,hL⟩:∃L,L=B1.heap.size:=⟨_,rfl⟩;have A0:=zL fH;have As:n1<=n2:=by rw[<-h1.len,<-h2.len];exact ek U A0
 refine bL 7 ?_;refine sf ?_;refine bR (λv w=>dR L (b-a) v w) (hs:=λ_ _ _ k h=>h.ext k) (λ_ _ Am _=>?_) ?_;have h1:=aa7 Am h1;have h2:=aa7 Am h2;refine clb DN (hc:=oX h2 U h1 U A0 As) (hk:=?_);rintro _ _ ES ⟨Ar,G,E,rfl,hr⟩;have G0:=ES.2;have hr:=hr.mono (lo':=L) (by have:=bz Am;omega);refine I ?_;exact fs ⟨G0,⟨Ar,G,E,rfl,hr⟩⟩;refine sf ?_;intro _ _ C1 GC;have⟨H,O,Ab,E63⟩:=fo C1.2 H O Ab E63;obtain⟨Ar,G,E,E6,hr⟩:=(GC 6 40 Z Z);refine aa (bU (vs:=[(0,.bool ny),(1,.slice Ar G E)]) (cells:=#[.bool ny,.slice Ar G E]) (pl:=[(0,1),(1,1)]) kA bG q0 (cY Z (cY E6 Z)) q0 ?_);refine SA Ab (λ_ Ap E7=>?_);have⟨H,O⟩:=jU Ap H O;have hr:=ac4 Ap U hr;have E63:=bi Ap E63;refine I ?_;refine aX (v:=.agg #[.bool ny,.slice Ar G E]) (bY  rfl ?_) E63 ⟨_,_,_,_,_,rfl,hr.mono U,by first|exact fZ fH|exact ix fH A0|exact iy fH A0⟩;refine ak (t:=4) (cs:=[.bool ny,.slice Ar G E]) (b:=Aq.heap.size) (o:=0) kA Z mh ?_ ?_;exact Z;exact aa0 E7 (i:=0) Z
def lv (a b:List UInt8)(w:World)(ha:isInt a=true)(hb:isInt b=true):
 CL 119 #[S a,S b] w (aG w λv w'=>∃A1 n1 c1 A2 n2 c2,v=.tuple #[.agg #[.bool (neg a),.slice A1 n1 c1],.agg #[.bool (neg b),.slice A2 n2 c2],.bool true]/\qc w' w.heap.size A1 n1 c1 (aE (body a))/\qc w' w.heap.size A2 n2 c2 (aE (body b))):=by
 refine aC func119 Z (I ?_);refine al bG (λAo Ar G=>?_);have E:=Ar.2;refine al bG (λ_ Am H=>?_);have⟨G,E⟩:=bn Am.2 G E;refine I ?_;refine cl wc (iw a _) ?_;rintro _ _ Av rfl;have⟨G,H,E⟩:=cj Av.2 G H E;refine I ?_;refine cl wc (iw b _) ?_;rintro _ _ Ap rfl;have⟨G,H,E⟩:=cj Ap.2 G H E;refine I ?_;refine cl QA (zK _ _ ha) ?_;rintro _ _ Aq ⟨A1,n1,c1,rfl,h1⟩;have⟨G,H,E⟩:=cj Aq.2 G H E;refine I ?_;refine cl QA (zK _ _ hb) ?_;rintro _ _ Ab ⟨A2,n2,c2,rfl,h2⟩;have⟨G,H⟩:=dZ Ab.2 G H;have h1:=aa7 Ab.2 h1;have E:=xt E Ab.2;refine SA G (λ_ O Af=>?_);have H:=pb O H;have h1:=ac4 O U h1;have h2:=ac4 O U h2;have E:=bi O E;refine SA H (λ_ A0 As=>?_);have Af:=pb A0 Af;have h1:=ac4 A0 U h1;have h2:=ac4 A0 U h2;have E:=bi A0 E;refine I ?_;refine aX (v:=.tuple #[.agg #[.bool (neg a),.slice A1 n1 c1],.agg #[.bool (neg b),.slice A2 n2 c2],.bool true]) (M2 (r1:=.cell 4 161) (r2:=.cell 5 161) (r3:=.tmp 6) Z ?_ ?_ ?_) E ⟨_,_,_,_,_,_,rfl,h1.mono U,h2.mono U⟩;refine ak (t:=4) (cs:=[.bool (neg a),.slice A1 n1 c1]) (b:=w.heap.size) (o:=0) kA Z mh ?_ ?_;exact Z;exact aa0 Af (i:=0) Z;refine ak (t:=5) (cs:=[.bool (neg b),.slice A2 n2 c2]) (b:=Ao.heap.size) (o:=0) kA Z mh ?_ ?_;exact Z
 exact aa0 As (i:=0) Z;exact aL (t:=6) GS _
def mS (a b:List UInt8)(w:World)(hno:(isInt a&&isInt b)=false):
 CL 119 #[S a,S b] w (aG w λv w'=>v=.tuple #[.agg #[.bool false,.slice none 0 0],.agg #[.bool false,.slice none 0 0],.bool false]):=by
 refine aC func119 Z (I ?_);refine al bG (λAb Aq H=>?_);have E:=Aq.2;refine al bG (λ_ nm G=>?_);have⟨H,E⟩:=bn nm.2 H E;refine I ?_;rcases qa4 (isInt a)with cw|cw;refine I ?_;refine cl wc (iw a _) ?_;rintro _ _ Ar rfl;have⟨H,G,E⟩:=cj Ar.2 H G E;refine I ?_;refine cl wc (iw b _) ?_;rintro _ _ Ax rfl;have⟨H,G,E⟩:=cj Ax.2 H G E;refine I ?_;rcases qa4 (isInt b)with np|np;exact absurd hno (by simp[*]);refine I ?_;refine SA H (λ_ Af O=>?_);have G:=pb Af G;have E:=bi Af E;refine SA G (λ_ Am As=>?_);have O:=pb Am O;have E:=bi Am E;refine I ?_;refine aX (v:=.tuple #[.agg #[.bool false,.slice none 0 0],.agg #[.bool false,.slice none 0 0],.bool false]) (M2 (r1:=.cell 4 161) (r2:=.cell 5 161) (r3:=.tmp 6) Z ?_ ?_ ?_) E Z;refine ak (t:=4) (cs:=[.bool false,.slice none 0 0]) (b:=w.heap.size) (o:=0) kA Z mh ?_ ?_;exact Z;exact aa0 O (i:=0) Z;refine ak (t:=5) (cs:=[.bool false,.slice none 0 0]) (b:=Ab.heap.size) (o:=0) kA Z mh ?_ ?_;exact Z;exact aa0 As (i:=0) Z
 exact aL (t:=6) GS _;refine I ?_;refine cl wc (iw a _) ?_;rintro _ _ Aw rfl;have⟨H,G,E⟩:=cj Aw.2 H G E;refine I ?_;refine SA H (λ_ Ao A0=>?_);have G:=pb Ao G;have E:=bi Ao E;refine SA G (λ_ Ap Av=>?_);have A0:=pb Ap A0;have E:=bi Ap E;refine I ?_;refine aX (v:=.tuple #[.agg #[.bool false,.slice none 0 0],.agg #[.bool false,.slice none 0 0],.bool false]) (M2 (r1:=.cell 4 161) (r2:=.cell 5 161) (r3:=.tmp 6) Z ?_ ?_ ?_) E Z;refine ak (t:=4) (cs:=[.bool false,.slice none 0 0]) (b:=w.heap.size) (o:=0) kA Z mh ?_ ?_;exact Z;exact aa0 A0 (i:=0) Z;refine ak (t:=5) (cs:=[.bool false,.slice none 0 0]) (b:=Ab.heap.size) (o:=0) kA Z mh ?_ ?_;exact Z;exact aa0 Av (i:=0) Z;exact aL (t:=6) GS _
def iz (l:List UInt8)(w:World):
 CL 118 #[S l] w (aG w λv w'=>v=.bool (isInt l)):=by
 refine aC func118 Z (I ?_);refine cl wc (iw l _) ?_;rintro _ _ G rfl;have E:=G.2;refine I ?_;exact am (t:=2) (v:=.bool (isInt l)) Z E Z Z
def cR (h:p:=by assumption):p:=h
def o6 (w:World)(b:Nat)(l:List UInt8):Prop:=Lib.IsBuilderF 208 5 b b (Lib.byteCells l) w
def Jo {p:Value}{bs:List Value}(hk:∀(k:Nat) (c:Array Value) (t:TypeId) (fz:Nat×Nat),w.heap[k]?=some (Obj.cells c t fz)->w'.heap[k]?=w.heap[k]?)(h:Lib.BuilderAtF 208 5 b b p bs w):Lib.BuilderAtF 208 5 b b p bs w':=by
 obtain⟨hB,v,hb,⟨hl,hv|⟨g,cap,H,fz,rfl,O,E,r⟩⟩,G⟩:=h
 · exact⟨hB,v,(hk _ _ _ _ hb).trans hb,⟨hl,.inl hv⟩,G⟩
 · exact⟨hB,_,(hk _ _ _ _ hb).trans hb,⟨hl,.inr ⟨g,cap,H,fz,rfl,O,(hk _ _ _ _ E).trans E,r⟩⟩,G⟩
def o6.of (hk:∀(k:Nat) (c:Array Value) (t:TypeId) (fz:Nat×Nat),w.heap[k]?=some (Obj.cells c t fz)->w'.heap[k]?=w.heap[k]?)(h:o6 w b l):o6 w' b l:=
 h.elim (λx=>.inl (Jo hk x)) (λx=>.inr (Jo hk x))
def o6.ext (k:aO w w')(h:o6 w b l):o6 w' b l:=o6.of (h:=h) (λi _ _ _ hi=>k.block i (Array.getElem?_eq_some_iff.1 hi).1)
def o6.cel {row:Option Nat}{B:Nat}(hg:W.grownBy W' row)(hr:∀r,row=some r->B<=r/\∃o:Obj,W.heap[r]?=some o/\o.isCells=false)(h:o6 W b l):o6 W' b l:=
 o6.of (h:=h) (λi _ _ _ hi=>grownBy_keeps_cells hg (λr e=>(hr r e).2) hi Z)
def o6.start (h:ap w b 208 #[.pointer none,.slice none 0 0]):o6 w b []:=
 .inl ⟨qa0 _,_,h,World.ownsRowF_of bK,by simp[Value.ownBlock]⟩
def o6.cells (h:o6 w b l):∃(c:Array Value) (t:TypeId) (fz:Nat×Nat),w.heap[b]?=some (Obj.cells c t fz):=by
 rcases h with h|h <;>(obtain⟨_,v,hb,_⟩:=h;exact⟨_,_,_,hb⟩)
def o6.lt (h:o6 w b l):b<w.heap.size:=by
 obtain⟨_,_,_,hb⟩:=h.cells
 exact(Array.getElem?_eq_some_iff.1 hb).1
structure KB (b:Nat)(W W':World):Prop where
 oth:Lib.OthersKept 5 (some b) W W'
 low:Below b W W'
def KB.refl (b:Nat)(W:World):KB b W W:=⟨Lib.OthersKept.refl _ _ _,Below.refl _ _⟩
def KB.ext (hb:b<=A.heap.size)(h:KB b W A)(k:aO A B):KB b W B:=
 ⟨h.oth.trans (λi o hi _ _=>(k.block i (Array.getElem?_eq_some_iff.1 hi).1).trans hi),Below.trans h.low (Below.mono k hb)⟩
def KB.wr (h:KB b W A)(k:KB b A B):KB b W B:=⟨h.oth.trans k.oth,Below.trans h.low k.low⟩
def KB.others (h:KB b W W')(hb:o6 W b l):KeepsOthers W W':=by
 refine⟨h.low.size,λk o hk ho=>h.oth k o hk ?_ ?_⟩
 · intro e
   cases e
   obtain⟨c,t,E,hc⟩:=hb.cells
   rw[hc]at hk;cases hk;cases ho
 · intro c E e;subst e;cases ho
def KB.blk {c:Nat}(h:KB b W W')(hn:c≠b)(ht:t≠5)(hb:ap W c t cs):ap W' c t cs:=
 h.oth c _ hb (λe=>hn (by cases e;rfl)) (λ_ _ e=>ht (by cases e;rfl))
def KB.rw {A:Option Addr}{cs:List Value}(h:KB b W W')(hA:∀ad,A=some ad->ad.block<b)(hr:Rw W lo A cs):Rw W' lo A cs:=by
 refine⟨λj u hu=>?_,hr.lo,λad e=>qb1 (hr.hi ad e) h.low.size⟩
 obtain⟨c,o,e,hc⟩:=hr.cells j u hu
 exact⟨c,o,e,(World.cell?_of_block (h.low.block c (hA _ e))).trans hc⟩
def KB.dfr (h:KB b W W')(hb:o6 W b l)(hD:li W D):li W' D:=
 h.oth D _ hD (λe=>by
  cases e
  obtain⟨c,t,E,hc⟩:=hb.cells
  unfold li at hD;rw[hc]at hD;cases hD) (λ_ _ e=>by cases e)
def zN (h:o6 w b l)(hl:l.length+s.length<=1000000):
 CL 169 #[pT b,S s] w (kj λv w'=>v=.tuple #[.int .i64 ((s.length:Nat):Int),.nilIface]/\o6 w' b (l++s)/\KB b w w'):=
 D8 (Any.Builder_WriteString_k {Tryz.lays105 with} Tryz.Builder_Extra_105 b b (Lib.byteCells l) ⟨s.toArray⟩ w h (by rw[Lib.byteCells_length,tU];omega) (Nat.le_of_lt h.lt)) (by
  rintro e w' ⟨rfl,h1,h2,h3⟩
  refine⟨_,rfl,by rw[tU],?_,h3,h2⟩
  have:Lib.byteCells (l++s)=Lib.byteCells l++Lib.strCells ⟨s.toArray⟩:=by simp[Lib.byteCells,Lib.strCells]
  unfold o6
  rw[this]
  exact .inr h1)
def Gs (h:o6 w b l):
 CL 170 #[pT b] w (kj λv w'=>v=S l/\o6 w' b l/\KB b w w'):=
 D8 (Tryz.Builder_String_any_k b b l w h (Nat.le_of_lt h.lt)) (by
  rintro e w' ⟨rfl,h1,h2,h3⟩
  exact⟨_,rfl,rfl,h1,h3,h2⟩)
def P4 (g:Nat):List Nat:=ao 10 g++List.replicate (4-(ao 10 g).length) 0
def D4:List Nat->List Nat
 |[]=>[]
 |[g]=>ao 10 g
 |g::rest=>P4 g++D4 rest
def Jp (g g2:Nat)(r:List Nat):D4 (g::g2::r)=P4 g++D4 (g2::r):=rfl
def TF (g:Nat){r:List Nat}(h:r≠[]):D4 (g::r)=P4 g++D4 r:=by
 cases r with
 |nil=>exact absurd Z h
 |cons a b=>rfl
def W9 (h:g<10000):(ao 10 g).length<=4:=(a7 10 U g 4).2 h
def xQ (h:g<10000):(P4 g).length=4:=by have:=W9 h;simp[P4];omega
def ww:∀k,bO 10 (List.replicate k 0)=0
 |0=>rfl
 |k+1=>by simp[List.replicate_succ,bO,ww k]
def TG (g:Nat):bO 10 (P4 g)=g:=by rw[P4,b7,ww,cD 10 U];simp
def Xa (g:Nat):∀d∈P4 g,d<10:=by
 intro d hd
 rcases List.mem_append.1 hd with h|h
 · exact eH 10 U g d h
 · rw[(List.mem_replicate.1 h).2];omega
def Q7:∀X:List Nat,∀d∈D4 X,d<10
 |[],d,h=>by simp[D4]at h
 |[g],d,h=>eH 10 U g d h
 | g::g2::r,d,h=>by
   rw[Jp]at h
   rcases List.mem_append.1 h with h|h
   · exact Xa g d h
   · exact Q7 (g2::r) d h
def Jq:∀X:List Nat,(∀g∈X,g<10000)->bO 10 (D4 X)=bO 10000 X
 |[],_=>rfl
 |[g],_=>by simp[D4,bO,cD 10 (show 2<=10 by omega)]
 | g::g2::r,h=>by
   rw[Jp,b7,TG,xQ (h g Wf),Jq (g2::r) (λx hx=>h x (by simp at hx ⊢;right;exact hx))]
   simp[bO]
def Eo:∀X:List Nat,X≠[]->X.getLast?≠some 0->(∀g∈X,g<10000)->(D4 X)≠[]/\(D4 X).getLast?≠some 0
 |[],h,_,_=>absurd Z h
 | [g],_,h,_=>by
   have hg:g≠0:=by intro e;subst e;simp at h
   exact⟨nW hg,jX 10 U g⟩
 | g::g2::r,_,h,hl=>by
   have E:=Eo (g2::r) Wf ka6 (λx hx=>hl x (by simp at hx ⊢;right;exact hx))
   rw[Jp]
   refine⟨by simp[E.1],?_⟩
   rw[List.getLast?_append]
   cases hq:(D4 (g2::r)).getLast? with
   |none=>exact absurd (List.getLast?_eq_none_iff.1 hq) E.1
   |some y=>simpa[hq]using E.2
def TH (a:Nat):D4 (ao 10000 a)=ao 10 a:=by
 by_cases h0:ao 10000 a=[]
 · have:a=0:=jo (B:=10000) U (by rw[h0];rfl)
   subst this;rfl
 · have hlt:=eH 10000 U a
   have h1:=Eo (ao 10000 a) h0 (jX 10000 U a) hlt
   have h2:Canon 10 (D4 (ao 10000 a)):=⟨Q7 _,h1.2⟩
   rw[ml U h2,Jq _ hlt,cD 10000 U]
def o7 (a b:List Nat):cK (a++b)=cK b++cK a:=by simp[cK]
def jd (u:Nat):Lib.decDigits u=bo u:=by
 induction u using Nat.strongRecOn with
 | _ u ih=>
   by_cases h:u<10
   · rw[Lib.decDigits_one h]
     unfold bo
     split
     · next h0=>subst h0;rfl
     · next h0=>
       rw[fO 10 u U U,show u/10=0 by omega,gq,Nat.mod_eq_of_lt h];rfl
   · rw[Lib.decDigits,dif_neg h,ih (u/10) U]
     unfold bo
     rw[if_neg U,if_neg U]
     conv=>rhs;rw[fO 10 u U U]
     simp[cK]
def zO (g:Nat):Lib.itoa (g:Int)=bo g:=by
 rw[Lib.itoa,if_neg U,Int.toNat_natCast,jd]
def wx (h:g<10000):0<(bo g).length/\(bo g).length<=4:=by
 unfold bo;split
 · simp
 · next h0=>
   rw[cI]
   exact⟨List.length_pos_iff.2 (nW h0),W9 h⟩
def zP (k:Nat):Lib.repeatL [48] k=cK (List.replicate k 0):=by
 induction k with
 |zero=>rfl
 |succ k ih=>rw[Lib.repeatL,ih,List.replicate_succ'];simp[cK]
def NT (h:g<10000):Lib.repeatL [48] (4-(bo g).length)++bo g=cK (P4 g):=by
 by_cases h0:g=0
 · subst h0;rfl
 · have e:bo g=cK (ao 10 g):=by unfold bo;rw[if_neg h0]
   rw[e,cI,P4,o7,zP]
def drop_at (h:x<X.length):X.drop x=X.getD x 0::X.drop (x+1):=by
 rw[List.drop_eq_getElem_cons h];simp[h]
def Gu (hn:X.length=n)(hx:x<n)(hk:x+1=k)(hlt:∀g∈X,g<10000)(h0:X.getLast?≠some 0):
 cK (D4 (X.drop k))++(if x+1<n then Lib.repeatL [48] (4-(bo (X.getD x 0)).length)++bo (X.getD x 0)else bo (X.getD x 0))=cK (D4 (X.drop x)):=by
 subst hk
 have O:X.getD x 0<10000:=getD_lt hlt x
 have G:X.drop x=X.getD x 0::X.drop (x+1):=drop_at U
 rw[G]
 by_cases hc:x+1<n
 · rw[if_pos hc,NT O]
   have:X.drop (x+1)=X.getD (x+1) 0::X.drop (x+1+1):=drop_at U
   rw[TF _ (by rw[this];simp),o7]
 · rw[if_neg hc]
   have A0:X.drop (x+1)=[]:=List.drop_eq_nil_of_le U
   rw[A0]
   have H:X.getD x 0≠0:=by
    intro e
    apply h0
    rw[List.getLast?_eq_getElem?,show X.length-1=x by omega]
    have E:X[x]?=some X[x]:=qa5 U
    rw[List.getD,E]at e
    rw[E];exact qb2 some e
   simp only[D4]
   unfold bo
   rw[if_neg H]
   simp[cK]
def rS (o:Option (List UInt8)):List UInt8:=o.getD []
def rE (o:Option (List UInt8)):Int:=if o.isSome then 0 else 30
def iA (o:Option (List UInt8)):Value:=.tuple #[S (rS o),.int .i64 (rE o)]
def jI (ng:Bool)(a:Nat):(bN ng a).natAbs=a:=by unfold bN;split <;>simp
def Ep (ng:Bool)(h:0<a):(bN ng a<0)↔ng=true:=by
 unfold bN;cases ng <;>simp;omega
def qD (ng:Bool)(h:0<a):ae (bN ng a)=if ng then 45::bo a else bo a:=by
 unfold ae
 rw[jI]
 by_cases hn:ng=true
 · rw[if_pos ((Ep ng h).2 hn),if_pos hn]
 · rw[if_neg (λhc=>hn ((Ep ng h).1 hc)),if_neg hn]
def o8 (ng:Bool)(h:0<a):fits (bN ng a)=decide ((bo a).length<=200):=by
 unfold fits
 rw[jI]
 unfold bo
 rw[if_neg U,cI,decide_eq_decide]
 exact(a7 10 U a 200).symm
def o9 (ng:Bool):Value.tuple #[S [48],.int .i64 0]=iA (ba (bN ng 0)):=by cases ng <;>rfl
def sq (ng:Bool)(h:0<a)(hl:(200:Int)<(((bo a).length:Nat):Int)):Value.tuple #[S [],.int .i64 30]=iA (ba (bN ng a)):=by
 unfold ba
 rw[o8 ng h,decide_eq_false U];rfl
def sr (h:0<a)(hl:¬(200:Int)<(((bo a).length:Nat):Int))(hn:ng=true):Value.tuple #[S ([45]++bo a),.int .i64 0]=iA (ba (bN ng a)):=by
 unfold ba
 rw[o8 ng h,decide_eq_true U,if_pos Z,qD ng h,if_pos hn];rfl
def ss (h:0<a)(hl:¬(200:Int)<(((bo a).length:Nat):Int))(hn:ng=false):Value.tuple #[S (bo a),.int .i64 0]=iA (ba (bN ng a)):=by
 unfold ba
 rw[o8 ng h,decide_eq_true U,if_pos Z,qD ng h,if_neg (by simp[hn])];rfl
def Q8 (X:List Nat)(n i:Nat):List UInt8:=if i+1<n then Lib.repeatL [48] (4-(bo (X.getD i 0)).length)++bo (X.getD i 0)else bo (X.getD i 0)
def tx (X:List Nat)(n:Nat)(pre:List Nat):List UInt8:=pre.flatMap (Q8 X n)
def Es (X:List Nat)(n:Nat)(pre:List Nat)(x:Nat):tx X n (pre++[x])=tx X n pre++Q8 X n x:=by simp[tx]
def NU (h:i+1<n):Q8 X n i=Lib.repeatL [48] (4-(bo (X.getD i 0)).length)++bo (X.getD i 0):=if_pos h
def NV (h:¬i+1<n):Q8 X n i=bo (X.getD i 0):=if_neg h
def NW (hX:∀g∈X,g<10000)(n i:Nat):(Q8 X n i).length<=4:=by
 have h1:=getD_lt hX i
 have h2:=wx h1
 unfold Q8;split
 · rw[NT h1,cI,xQ h1];omega
 · exact h2.2
def Jr {X:List Nat}(hX:∀g∈X,g<10000)(n:Nat):∀pre:List Nat,(tx X n pre).length<=4*pre.length
 |[]=>by simp[tx]
 | i::l=>by
   have ih:=Jr hX n l
   have:=NW hX n i
   simp only[tx,List.flatMap_cons,List.length_append,List.length_cons]at ih ⊢
   omega
def Js {X:List Nat}{n:Nat}(hn:X.length=n)(hlt:∀g∈X,g<10000)(h0:X.getLast?≠some 0):∀j,j<=n->cK (D4 (X.drop j))++tx X n (List.range j).reverse=cK (D4 X)
 |0,_=>by simp[tx]
 | j+1,h=>by
   have e:(List.range (j+1)).reverse=j::(List.range j).reverse:=by simp[List.range_succ]
   rw[e]
   show _++(Q8 X n j++tx X n _)=_
   rw[<-List.append_assoc]
   have:=Gu (X:=X) (x:=j) (n:=n) (k:=j+1) hn U Z hlt h0
   unfold Q8
   rw[this]
   exact Js hn hlt h0 j U
def TI (hn:(ao 10000 a).length=n)(h0:0<a):tx (ao 10000 a) n (List.range n).reverse=bo a:=by
 have h:=Js hn (eH 10000 U a) (jX 10000 U a) n (qa0 _)
 rw[List.drop_eq_nil_of_le U,TH]at h
 have h2:cK (D4 [])=[]:=rfl
 rw[h2,List.nil_append]at h
 rw[h];unfold bo;rw[if_neg U]
set_option maxRecDepth 100000 in
def fI (h1:qc w lo1 A1 n1 c1 a)(s1:n1<=9000)(ht:Tb w):
 CL 124 #[.agg #[.bool ng,.slice A1 n1 c1]] w (aG w λv w'=>v=iA (ba (bN ng a))):=by
 have CB:=h1.hi;refine ra func124 Z (I ?_);refine bx (λAm CG G=>?_);have Ab:=CG.2;refine I ?_;by_cases lq:(n1:Int)=0;have Ap:a=0:=jo (B:=10000) U (h1.len.trans U);refine I ?_;refine xA (v:=.tuple #[S [48],.int .i64 0]) (cO (r1:=.tmp 2) (r2:=.tmp 3) Z ?_ ?_) Ab Bx;exact aL (t:=2) GS _;exact aL (t:=3) GS _;have O:0<a:=mz (B:=10000) U kb4;refine I ?_;refine al R1 (λB1 E1 Ax=>?_);have⟨G,Ab⟩:=bn E1.2 G Ab;refine I ?_;refine cl DR (j3 (A:=A1) (n:=n1) (c:=c1)) ?_;rintro _ C1 Cr ⟨rfl,CY⟩;have⟨G,Ax,Ab⟩:=cj Cr.2 G Ax Ab;refine I ?_;have H:=o6.start Ax
 refine se (m:=n1) (enc:=λx=>[.int .i64 x,.int .i64 (((ao 10000 a).getD x 0:Nat):Int)]) (order:=(List.range n1).reverse) (Kq:=λW=>ap W B1.heap.size 159 #[.slice A1 n1 c1]/\Rw W lo1 A1 (ints (ao 10000 a))) (gf:=207) (lb:=[pT B1.heap.size]) (ps:=[16,17]) Z DU (iN CY (h1.row.ext Ab) h1.len U) (λW W' row hq A0 hr=>⟨ad4 A0 hr hq.1,Rw.cel A0 hr hq.2⟩) (λ_=>rfl) [5,6] (λx=>[.int .i64 x,.int .i64 (((ao 10000 a).getD x 0:Nat):Int)]) ?asn (λpre W=>(C1.heap.size<=W.heap.size)/\(aO w W)/\(ap W w.heap.size 161 #[.bool ng,.slice A1 n1 c1])/\(o6 W Am.heap.size (tx (ao 10000 a) n1 pre))) (λ_ _ _=>False) ?hI ?hIx ?h0 ?body ?done ?stop;case asn=>
  intro l x W K hK;refine I ?_;exact hK
 case hI=>
  rintro pre W W' row ⟨Ay,E,G,H⟩ A0 hr;exact⟨qa8 Ay A0.size,oS (B:=C1.heap.size) U A0 hr (bz E) E,ad4 A0 hr G,o6.cel A0 hr H⟩
 case hIx=>
  exact λ_ _ _ _ _ h=>h.elim
 case h0=>
  exact⟨qa0 _,Ab,G,H⟩
 case body=>
  rintro l pre x W ⟨Ay,E,G,H⟩ E7 hx E6;have Kp:=KB.refl Am.heap.size W;have zW:=bz E;have Ao:=getD_lt h1.lt x;have E5:=wx Ao;have B2:=H;have hbW:=H.lt;have hDl:=Jr h1.lt n1 pre;refine I ?_;refine clb If (hc:=xO _ _ U U (ht.ext E)) (hk:=?_);rintro _ _ As rfl;have G:=be As.2 G;have H:=o6.ext As.2 H;have E:=xt E As.2;have Kp:=KB.ext U Kp As.2;rw[zO];refine I ?_;refine oE (I ?_);by_cases nm:(x:Int)<((n1:Int)-1);refine I ?_;refine aa (dv (l:=bo ((ao 10000 a).getD x 0)) U9 Z ?_);refine aa (jk (a:=4) (b:=(((bo ((ao 10000 a).getD x 0)).length:Nat):Int)) (c:=((4-(bo ((ao 10000 a).getD x 0)).length:Nat):Int)) Z Z JT U ?_);refine clb Ig (hc:=qC [48] (4-(bo ((ao 10000 a).getD x 0)).length) _ U Wf) (hk:=?_);rintro _ _ Aq rfl;have G:=be Aq.2 G;have H:=o6.ext Aq.2 H;have E:=xt E Aq.2;have Kp:=KB.ext U Kp Aq.2;refine I ?_;refine aa (xh (a:=Lib.repeatL [48] (4-(bo ((ao 10000 a).getD x 0)).length)) (b:=bo ((ao 10000 a).getD x 0)) Z Z (by rw[<-List.length_append,NT Ao,cI,xQ Ao];omega) ?_);refine I ?_;have E0:((Lib.repeatL [48] (4-(bo ((ao 10000 a).getD x 0)).length))++(bo ((ao 10000 a).getD x 0))).length<=8:=by rw[NT Ao,cI,xQ Ao];omega
  refine aa (bH (vs:=[pT Am.heap.size,S ((Lib.repeatL [48] (4-(bo ((ao 10000 a).getD x 0)).length))++(bo ((ao 10000 a).getD x 0)))]) QB Z (zN H U) ?_);rintro _ _ ⟨rfl,Af,Ar⟩;have G:=KB.blk Ar U dc G;have E:=Below.trans E (Below.mono Ar.low U);have E9:=Ar.low.size;have Kp:=KB.wr Kp Ar;have H:=Af;refine I ?_;exact⟨Kp.others B2,λhq=>⟨Kp.blk U dc hq.1,Kp.rw (λAw e=>by have:=CB Aw e;omega) hq.2⟩,⟨U,E,G,(by rw[Es,NU U];exact H)⟩⟩;refine I ?_;have E0:(bo ((ao 10000 a).getD x 0)).length<=8:=J
  refine aa (bH (vs:=[pT Am.heap.size,S (bo ((ao 10000 a).getD x 0))]) QB Z (zN H U) ?_);rintro _ _ ⟨rfl,Af,Av⟩;have G:=KB.blk Av U dc G;have E:=Below.trans E (Below.mono Av.low U);have E4:=Av.low.size;have Kp:=KB.wr Kp Av;have H:=Af;refine I ?_;exact⟨Kp.others B2,λhq=>⟨Kp.blk U dc hq.1,Kp.rw (λAw e=>by have:=CB Aw e;omega) hq.2⟩,⟨U,E,G,(by rw[Es,NV U];exact H)⟩⟩
 case stop=>
  exact λ_ _ _ _ _ _ h _=>h.elim
 case done=>
  rintro D W hD ⟨Ay,E,G,H⟩ hK;have zW:=bz E;refine I ?_;rw[TI h1.len O]at H;refine aa (bH (vs:=[pT Am.heap.size]) We Z (Gs H) ?_);rintro _ _ ⟨rfl,Af,Az⟩;have G:=KB.blk Az U dc G;have hK:=KB.dfr Az H hK;have E:=Below.trans E (Below.mono Az.low U);have H:=Af;refine I ?_;refine aa (dv (l:=bo a) U9 Z ?_);refine I ?_;by_cases np:200<(((bo a).length:Nat):Int);refine I ?_;refine jD (v:=.tuple #[S [],.int .i64 30]) hK (cO (r1:=.tmp 2) (r2:=.tmp 3) Z ?_ ?_) ((dA _).low E U) Bx;exact aL (t:=2) GS _;exact aL (t:=3) GS _;refine I ?_;rcases qa4 ng with lp|lp;refine I ?_;refine aa (xh (a:=[45]) (b:=bo a) Z Z q4 ?_);refine I ?_;refine jD (v:=.tuple #[S (([45])++(bo a)),.int .i64 0]) hK (cO (r1:=.tmp 2) (r2:=.tmp 3) Z ?_ ?_) ((dA _).low E U) Bx;exact aL (t:=2) GS _;exact aL (t:=3) GS _
  refine I ?_;refine jD (v:=.tuple #[S (bo a),.int .i64 0]) hK (cO (r1:=.tmp 2) (r2:=.tmp 3) Z ?_ ?_) ((dA _).low E U) Bx;exact aL (t:=2) GS _;exact aL (t:=3) GS _
end
end Go.Proofs.YtlmihmlnpjkblaaGreatDoor
