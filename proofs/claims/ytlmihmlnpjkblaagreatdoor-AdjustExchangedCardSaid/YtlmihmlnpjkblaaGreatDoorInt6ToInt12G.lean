/- Part of the proof of a statement about an adjustment. -/
import Derived.Test.YtlmihmlnpjkblaaGreatDoorEngHToInt5G
import Derived.WalkSmall
import Derived.Lib.Atoi
import Derived.Lib.OthersKept
set_option linter.all false
namespace Go.Proofs.YtlmihmlnpjkblaaGreatDoor
open Go Go.Eng Go.RowKit Tryz
attribute [local irreducible] wpListIn Code.wpIn Oper.wpIn Exit.then Exit.inBlock Exit.noGoto
set_option maxHeartbeats 40000000
set_option maxRecDepth 100000 in
def Gz {g m:Nat}{lb:List Value}{pb:Nat->Bool}{w:World}(heg:Enters prog g)(hm0:m<=1000000)(hd:∀(i:Nat) (W:World),i<m->aN w W->CL g ([Value.int .i64 i]++lb).toArray W (aH W λv _=>v=.bool (pb i)))(hmon:∀i j,i<=j->j<m->pb i=true->pb j=true):
 CL 162 #[.int .i64 m,.func (.func g) #[] lb.toArray] w (aH w λv w'=>∃k:Nat,v=.int .i64 k/\k<=m/\(∀i<k,pb i=false)/\(k<m->pb k=true)):=by
 refine aC func162 Z (I ?_);have E1:=aa0 w;refine ck [(5,7),(9,24)] (λA1 e W=>∃i:Nat,∃j:Nat,(j-i=A1)/\(e 5=.int .i64 i)/\(e 6=.int .i64 j)/\(i<=j)/\(j<=m)/\(∀k<i,pb k=false)/\(j<m->pb j=true)/\(aN w W)) ((m)-0) ⟨0,m,rfl,rfl,rfl,(qa7 _),(qa0 _),U,U,E1⟩ ?_;rintro _ _ _ ⟨i,j,rfl,Af,A2,q1,Ab,A0,H,E7⟩;by_cases hm:i<j;refine I ?_;refine aa (cG (a:=(i:Int)) (b:=(j:Int)) (c:=((i+j:Nat):Int)) Z Z j0 U ?_);refine aa (qt (k:=.i64) (k':=.u64) (a:=((i+j:Nat):Int)) (c:=((i+j:Nat):Int)) U3 Ie Z (wrap_u64 U) ?_);refine aa (Wg (k:=.u64) (a:=((i+j:Nat):Int)) (b:=1) (c:=(((i+j)/2:Nat):Int)) Z Z dc (by show((i+j:Nat):Int)/2=_;omega) ?_);refine aa (qt (k:=.u64) (k':=.i64) (a:=(((i+j)/2:Nat):Int)) (c:=(((i+j)/2:Nat):Int)) Ie U3 Z (wrap_i64 U) ?_);refine I ?_;refine aa (l5 (vs:=[.int .i64 (((i+j)/2:Nat):Int)]) (lb:=lb) heg Z Z (hd ((i+j)/2) _ U E7) ?_);rintro _ _ E rfl;have E:=E.2;have E7:=xt E7 E;refine I ?_;refine xi (q:=!(pb ((i+j)/2))) Z (λO=>?_) (λO=>?_);have G:pb ((i+j)/2)=false:=by simpa using O
 refine I ?_;refine aa (cG (a:=(((i+j)/2:Nat):Int)) (b:=1) (c:=(((i+j)/2+1:Nat):Int)) Z Z j0 U ?_);refine I ?_;exact bJ ⟨(i+j)/2+1,j,rfl,rfl,A2,U,Ab,(λk _=>by cases hb:pb k with|false=>rfl|true=>(have:=hmon k ((i+j)/2) U U hb;rw[G]at this;cases this)),H,E7⟩;have G:pb ((i+j)/2)=true:=by simpa using O
 refine I ?_;exact bJ ⟨i,(i+j)/2,rfl,Af,rfl,U,U,A0,(λ_=>G),E7⟩;refine I ?_;exact am (t:=4) (v:=.int .i64 i) Z E7 ⟨i,rfl,by omega,A0,by rw[show j=i by omega]at H;exact H⟩ Z
set_option maxRecDepth 100000 in
def NW {A1 A2:Option Addr}{n1 c1 a1 n2 c2 a2 i lo1 lo2 B1 B2:Nat}{w:World}(h1:en w lo1 A1 n1 c1 a1)(s1:n1<=10000)(h2:en w lo2 A2 n2 c2 a2)(k1:ar w B1 200 #[.func (.func 160) #[.slice A1 n1 c1] #[]])(k2:ar w B2 159 #[.slice A2 n2 c2])(hi:i<9999):
 CL 161 #[.int .i64 i,pT B1,pT B2] w (aH w λv w'=>v=.bool (decide (0<aQ ((a1*(i+1):Nat):Int) (a2:Int)))):=by
 obtain⟨L,_⟩:∃L,L=w.heap.size:=⟨_,rfl⟩;refine aC func161 Z (I ?_);refine bP 7 ?_;refine sf ?_;refine aB (λ_ _ _ _=>by refine aa (cG (a:=(i:Int)) (b:=1) (c:=((i+1:Nat):Int)) Z Z j0 U ?_);refine I ?_;exact aK) ?_
 refine b8 (λv w=>qc L (a1*(i+1)) v w) (hs:=λ_ _ _ k h=>h.ext k) (λ_ _ hR15 _=>?_) ?_;have h1:=h1.ext hR15;refine aa (Eg (vs:=[.int .i64 ((i+1:Nat):Int)]) (la:=[.slice A1 n1 c1]) D8 Z Z (Ex h1 U U) ?_);rintro _ _ O ⟨Ab,G,H,rfl,E⟩;have E20:=O;have E:=E.mono (lo':=L) (by have:=bz hR15;omega);refine I ?_;exact fs ⟨E20,⟨Ab,G,H,rfl,E⟩⟩;refine sf ?_;refine a7 (V:=.int .i64 (aQ ((a1*(i+1):Nat):Int) (a2:Int))) (λ_ _ hR27 A0=>?_) ?_;obtain⟨Ab,G,H,p29,E⟩:=(A0 3 8 Z Z);have Af:G<=n1+1:=by rw[<-E.len];exact mC U _ _ _ h1.le U
 have h2:=h2.ext hR27;refine clb zn (hc:=jN E U h2) (hk:=?_) (hv:=aw p29 (aw Z Z));rintro _ _ W rfl;have E33:=W.2;refine I ?_;exact fs ⟨E33,rfl⟩;refine sf ?_;intro _ _ hR40 _;have E42:=hR40.2;refine I ?_;exact am (t:=4) (v:=.bool (decide (0<(aQ ((a1*(i+1):Nat):Int) (a2:Int))))) Z E42 Z Z
end Go.Proofs.YtlmihmlnpjkblaaGreatDoor
def iZ (m:Nat)(xs:List Nat)(s:List Nat×Nat)(i:Nat):List Nat×Nat:=(s.1.set i ((s.2*10000+xs.getD i 0)/m),(s.2*10000+xs.getD i 0)%m)
def dl (m:Nat)(xs:List Nat)(n:Nat)(pre:List Nat):List Nat×Nat:=pre.foldl (iZ m xs) (List.replicate n 0,0)
def tO (m:Nat)(xs:List Nat)(n:Nat)(pre:List Nat)(i:Nat):dl m xs n (pre++[i])=iZ m xs (dl m xs n pre) i:=by simp[dl]
def wu (m:Nat)(xs:List Nat)(n:Nat)(pre:List Nat):(dl m xs n pre).1.length=n:=by
 unfold dl
 have:∀(pre:List Nat) (s:List Nat×Nat),(pre.foldl (iZ m xs) s).1.length=s.1.length:=by
  intro pre
  induction pre with
  |nil=>intro s;rfl
  |cons i pre ih=>intro s;rw[List.foldl_cons,ih];simp[iZ]
 rw[this];simp
def Je (m:Nat)(xs:List Nat)(n:Nat)(hm:0<m):∀pre:List Nat,(dl m xs n pre).2<m:=by
 intro pre
 unfold dl
 have:∀(pre:List Nat) (s:List Nat×Nat),s.2<m->(pre.foldl (iZ m xs) s).2<m:=by
  intro pre
  induction pre with
  |nil=>intro s h;exact h
  |cons i pre ih=>intro s _;rw[List.foldl_cons];exact ih _ (Nat.mod_lt _ hm)
 exact this pre _ hm
def Ez {m r d:Nat}(hr:r<m)(hd:d<10000):(r*10000+d)/m<10000:=by
 rw[Nat.div_lt_iff_lt_mul J]
 have:(r+1)*10000<=m*10000:=Nat.mul_le_mul_right _ hr
 omega
def zM (m:Nat)(xs:List Nat)(hm:0<m)(hx:∀x∈xs,x<10000):∀(k:Nat) (q:List Nat) (r:Nat),k<=xs.length->q.length=xs.length->r<m->
 let s:=(List.range k).reverse.foldl (iZ m xs) (q,r)
 s.1.length=q.length/\s.1.drop k=q.drop k/\m*bS 10000 (s.1.take k)+s.2=r*10000^k+bS 10000 (xs.take k)/\s.2<m/\∀d∈s.1.take k,d<10000
 |0,q,r,_,_,hr=>by simp[bS,hr]
 | k +1,q,r,hk,hq,hr=>by
   simp only
   rw[List.range_succ,List.reverse_append]
   simp only[List.reverse_cons,List.reverse_nil,List.nil_append,List.cons_append,List.foldl_cons]
   have hd:=getD_lt hx k
   have h1:=Ez hr hd
   obtain⟨Aq,E,Ab,W,O⟩:=zM m xs hm hx k (iZ m xs (q,r) k).1 (iZ m xs (q,r) k).2 J (by simp[iZ,hq]) (Nat.mod_lt _ hm)
   generalize hs:List.foldl (iZ m xs) (iZ m xs (q,r) k) (List.range k).reverse=s at *
   have hl:(iZ m xs (q,r) k).1.length=q.length:=by simp[iZ]
   have A2:k<s.1.length:=J
   have H:s.1[k]=(r*10000+xs.getD k 0)/m:=by
    have h3:s.1.drop k=s.1[k]::s.1.drop (k+1):=by rw[List.getElem_cons_drop]
    have h4:(iZ m xs (q,r) k).1.drop k=(iZ m xs (q,r) k).1[k]'(by omega)::(iZ m xs (q,r) k).1.drop (k+1):=by rw[List.getElem_cons_drop]
    rw[h3,h4]at E
    have:=(List.cons.inj E).1
    rw[this];simp[iZ]
   have G:s.1.take (k+1)=s.1.take k++[s.1[k]]:=List.take_succ_eq_append_getElem A2
   have A0:xs.take (k+1)=xs.take k++[xs.getD k 0]:=by
    rw[List.take_succ_eq_append_getElem J];simp[show k<xs.length by omega]
   refine⟨by omega,?_,?_,W,?_⟩
   · have h3:s.1.drop (k+1)=(s.1.drop k).drop 1:=by rw[List.drop_drop]
     rw[h3,E,List.drop_drop]
     exact List.drop_set_of_lt J
   · rw[G,A0,cj,cj,H]
     have A1:(s.1.take k).length=k:=by simp;omega
     have Am:(xs.take k).length=k:=by simp;omega
     rw[A1,Am]
     simp only[bS,Nat.mul_zero,Nat.add_zero,Nat.pow_succ]
     have Ao:=Nat.div_add_mod (r*10000+xs.getD k 0) m
     have Ap:m*bS 10000 (s.1.take k)+s.2=(r*10000+xs.getD k 0)%m*10000^k+bS 10000 (xs.take k):=Ab
     generalize (r*10000+xs.getD k 0)/m=u at *
     generalize (r*10000+xs.getD k 0)%m=v at *
     generalize xs.getD k 0=y at *
     grind
   · rw[G]
     intro d Af
     rcases List.mem_append.1 Af with h|h
     · exact O d h
     · rw[List.mem_singleton.1 h,H];exact h1
def Jf {m a n:Nat}(hm:0<m)(hn:(au 10000 a).length=n):
 (∀d∈(dl m (au 10000 a) n (List.range n).reverse).1,d<10000)/\bS 10000 (dl m (au 10000 a) n (List.range n).reverse).1=a/m/\(dl m (au 10000 a) n (List.range n).reverse).2=a%m:=by
 obtain⟨h1,-,h3,h4,E⟩:=zM m (au 10000 a) hm (eM 10000 J a) n (List.replicate n 0) 0 J (by simp[hn]) hm
 change ((dl m (au 10000 a) n (List.range n).reverse).1.length=_)at h1
 change (m*bS 10000 ((dl m (au 10000 a) n (List.range n).reverse).1.take n)+(dl m (au 10000 a) n (List.range n).reverse).2=_)at h3
 change ((dl m (au 10000 a) n (List.range n).reverse).2<m)at h4
 change (∀d∈(dl m (au 10000 a) n (List.range n).reverse).1.take n,d<10000)at E
 rw[List.length_replicate]at h1
 rw[List.take_of_length_le J]at h3 E
 rw[List.take_of_length_le J,cJ 10000 J,Nat.zero_mul,Nat.zero_add]at h3
 generalize (dl m (au 10000 a) n (List.range n).reverse)=z at *
 refine⟨E,?_,?_⟩
 · rw[<-h3,Nat.mul_add_div hm,Nat.div_eq_of_lt h4];omega
 · rw[<-h3,Nat.mul_add_mod,Nat.mod_eq_of_lt h4]
namespace Go.Proofs.YtlmihmlnpjkblaaGreatDoor
open Go Go.Eng Go.RowKit Tryz
variable {lo b c n1 c1 a1 lo1 n2 c2 a2 lo2:Nat}{A A1 A2:Option Addr}{w w':World}
attribute [local irreducible] wpListIn Code.wpIn Oper.wpIn Exit.then Exit.inBlock Exit.noGoto
set_option maxHeartbeats 40000000
def fp {p:Prop}(h:p:=by kernel_rfl):p:=h
def qG (m:Nat):(madeCells #[Value.int .i64 0] (m*1)).toList=ints (List.replicate m 0):=by
 simp[madeCells,ints,Nat.mod_one,List.eq_replicate_iff]
def ints_set (qs:List Nat)(x k:Nat):(ints qs).toArray.setIfInBounds x (.int .i64 k)=(ints (qs.set x k)).toArray:=by
 simp[ints,List.map_set]
def Jg {m r k:Nat}(hm:0<m)(hr:r<m*10000)(hk:k<=9999)(h1:∀i<k,decide (0<aQ ((m*(i+1):Nat):Int) (r:Int))=false)(h2:k<9999->decide (0<aQ ((m*(k+1):Nat):Int) (r:Int))=true):k=r/m:=by
 have e:∀i,decide (0<aQ ((m*(i+1):Nat):Int) (r:Int))=decide (r<m*(i+1)):=λi=>by
  rcases Nat.lt_trichotomy (m*(i+1)) r with h|h|h
  · rw[gd U];simp;omega
  · rw[jy U];simp;omega
  · rw[eT U];simp;omega
 symm
 have G:m*k<=r:=by
  rcases Nat.eq_zero_or_pos k with h0|h0
  · subst h0;simp
  · have:=h1 (k-1) U
    rw[e,show k-1+1=k by omega]at this
    simpa using this
 have E:r<m*(k+1):=by
  by_cases hk9:k<9999
  · have:=h2 hk9
    rw[e]at this
    simpa using this
  · rw[show k+1=10000 by omega];exact hr
 rw[Nat.div_eq_iff U]
 rw[Nat.mul_add]at E
 rw[Nat.mul_comm k m]
 omega
def GA {m r:Nat}(i j:Nat)(hij:i<=j)(h:decide (0<aQ ((m*(i+1):Nat):Int) (r:Int))=true):decide (0<aQ ((m*(j+1):Nat):Int) (r:Int))=true:=by
 have h3:m*(i+1)<=m*(j+1):=Nat.mul_le_mul_left _ U
 simp only[decide_eq_true_eq]at *
 rcases Nat.lt_trichotomy (m*(i+1)) r with h1|h1|h1
 · rw[gd U]at h;omega
 · rw[jy U]at h;omega
 · rw[eT U];omega
def zN (r d:Nat)(hd:d<10000):dH (d::au 10000 r)=au 10000 (r*10000+d):=by
 rw[mw 10000 U (d::au 10000 r) (λx hx=>by
  rcases List.mem_cons.1 hx with rfl|hx
  · exact hd
  · exact eM 10000 U r x hx)]
 simp only[bS,cJ 10000 (show 2<=10000 by omega)]
 congr 1;omega
def Rw.putU {cs:List Value}(k:dP w w' b)(hne:∀ad,A=some ad->ad.block≠b)(h:Rw w lo A cs):Rw w' lo A cs:=by
 refine⟨λj u hu=>?_,h.lo,λad e=>by rw[k.size];exact h.hi ad e⟩
 obtain⟨c,o,e,hc⟩:=h.cells j u hu
 exact⟨c,o,e,(k.cell (a:=⟨c,o+j,none⟩) (show c≠b from hne _ e)).trans hc⟩
def en.putU {n a:Nat}(k:dP w w' b)(hne:∀ad,A=some ad->ad.block≠b)(h:en w lo A n c a):en w' lo A n c a:=⟨Rw.putU k hne h.row,h.len,h.cap⟩
def ac2:=@en.putU
def zO {m v:Nat}{qs:List Nat}(hr:Rw w lo A (ints qs))(hd:∀d∈qs,d<10000)(hv:bS 10000 qs=v)(ht:dH qs=qs.take m)(hm:m<=qs.length)(hc:m<=c):en w lo A m c v:=by
 have h1:au 10000 v=qs.take m:=by rw[<-ht,<-hv];exact(mw 10000 U qs hd).symm
 refine⟨?_,?_,hc⟩
 · rw[h1]
   have:=hr.take m
   simpa[ints,List.map_take]using this
 · rw[h1];simp;omega
set_option maxRecDepth 100000 in
def su (h1:en w lo1 A1 n1 c1 a1)(s1:n1<=9000)(h2:en w lo2 A2 n2 c2 a2)(s2:n2<=9000)(h0:0<a2):
 CL 120 #[.slice A1 n1 c1,.slice A2 n2 c2] w (aH w λv w'=>∃A n c B m d,v=.tuple #[.slice A n c,.slice B m d]/\en w' w.heap.size A n c (a1/a2)/\en w' w.heap.size B m d (a1%a2)):=by
 refine rt func120 Z (I ?_);refine bx (λAv ad G=>?_);have E4:=ad.2;refine al BQ (λAq a6 K3=>?_);have⟨G,E4⟩:=bw a6.2 G E4;refine al BQ (λA0 Wa H=>?_);have⟨G,K3,E4⟩:=cD Wa.2 G K3 E4;refine I ?_;refine aa (mf (m:=n1) gX lf Z Z U Rd (λ_ ch _ P1=>?_));have⟨G,K3,H,E4⟩:=fE ch G K3 H E4;have hq:=Eh P1;rw[show(Value.int IntKind.i64 0).cells=#[Value.int .i64 0]from rfl,qG]at hq;clear P1;refine SO K3 (λP0 Vm O=>?_);have⟨G,H,hq,E4,_⟩:=QR Vm G H hq E4;refine I ?_;refine cl D7 (kb (A:=A1) (n:=n1) (c:=c1)) ?_;rintro _ N0 ce ⟨rfl,cc⟩;have⟨G,O,H,hq,E4⟩:=ka ce.2 G O H hq E4;refine I ?_
 refine so (m:=n1) (enc:=λx=>[.int .i64 x,.int .i64 (((au 10000 a1).getD x 0:Nat):Int)]) (order:=(List.range n1).reverse) (Kq:=λW=>ar W P0.heap.size 159 #[.slice A1 n1 c1]/\Rw W lo1 A1 (ints (au 10000 a1))) (gf:=207) (lb:=[pT P0.heap.size]) (ps:=[15,16]) Z D9 (iN cc (h1.row.ext E4) h1.len U) (λW W' row hq Ay hr=>⟨ad6 Ay hr hq.1,Rw.cel Ay hr hq.2⟩) (λ_=>rfl) [6,7] (λx=>[.int .i64 x,.int .i64 (((au 10000 a1).getD x 0:Nat):Int)]) ?asn (λpre W=>∃Ar:Option Addr,∃Ao:Nat,∃Ap:Nat,(N0.heap.size<=W.heap.size)/\(aN w W)/\(ar W w.heap.size 159 #[.slice A2 n2 c2])/\(ar W Av.heap.size 159 #[.slice (some ⟨A0.heap.size,0,none⟩) n1 n1])/\(ar W Aq.heap.size 159 #[.slice Ar Ao Ap])/\(ar W A0.heap.size 3 (ints (dl a2 (au 10000 a1) n1 pre).1).toArray)/\(en W N0.heap.size Ar Ao Ap ((dl a2 (au 10000 a1) n1 pre).2))) (λ_ _ _=>False) ?hI ?hIx ?h0 ?body ?done ?stop;case asn=>
  intro l x W K hK;refine I ?_;exact hK
 case hI=>
  rintro pre W W' row ⟨Ar,Ao,Ap,Lk,E,G,O,H,hq,hv⟩ Ay hr;exact⟨Ar,Ao,Ap,qa8 Lk Ay.size,oT (B:=N0.heap.size) U Ay hr (bz E) E,ad6 Ay hr G,ad6 Ay hr O,ad6 Ay hr H,ad6 Ay hr hq,en.cel Ay hr hv⟩
 case hIx=>
  exact λ_ _ _ _ _ h=>h.elim
 case h0=>
  exact⟨none,0,0,qa0 _,E4,G,O,H,hq,en.zero _ _⟩
 case body=>
  rintro l pre x W ⟨Ar,Ao,Ap,Lk,E,G,O,H,hq,hv⟩ cq hx cr;have Kp:=eK.refl [Aq.heap.size,A0.heap.size] W;have zW:=bz E;have cV:=hv.hi;have hd:=getD_lt h1.lt x;have Rm:=Je a2 (au 10000 a1) n1 h0 pre;have S9:=wu a2 (au 10000 a1) n1 pre;have ct:Ao<=n2:=by rw[<-hv.len,<-h2.len];exact ey U U
  have b0:=ae3 H;have bY:=ae3 hq;have bZ:((dl a2 (au 10000 a1) n1 pre).2*10000+((au 10000 a1).getD x 0))<a2*10000:=by have:((dl a2 (au 10000 a1) n1 pre).2+1)*10000<=a2*10000:=Nat.mul_le_mul_right _ Rm;omega
  refine I ?_;refine BS (λ_ Cr _ S0=>?_);have G:=be Cr G;have O:=be Cr O;have H:=be Cr H;have hq:=be Cr hq;have hv:=aa9 Cr hv;have E:=xt E Cr;have Kp:=ad8 Kp Cr;have cm:=bz Cr;refine I ?_;refine aa (jI (v:=.slice (some ⟨W.heap.size,0,none⟩) 1 1) (k:=1) gX lf Z dc Z S0 Z hv.row (by rw[iY,hv.len];omega) tL Rd U U (λ_ bW No B2 _=>?_));have G:=aa3 B2 RM G;have O:=aa3 B2 RM O;have H:=aa3 B2 RM H;have hq:=aa3 B2 RM hq;have hv:=en.gr B2 (λKC e=>by have:=cV KC e;simp[Value.ownBlock];omega) hv;have Kp:=eK.gr Kp B2 (λb hb=>by exact Or.inr (by simp[Value.ownBlock]at hb;omega));have E:=cR E B2 (bz E) (λg W2=>by have:=(S0.lt g W2).1;omega);have cz:=B2.size;obtain⟨Aw,bp,rfl,a3,cy,-,-⟩:=e8 No;have hs:Rw bW W.heap.size Aw (ints (((au 10000 a1).getD x 0)::au 10000 ((dl a2 (au 10000 a1) n1 pre).2))):=ab0 No;refine clb rk (hc:=fL hs (by rw[List.length_cons,hv.len];omega) a3 U) (hk:=?_);rintro _ X0 CG ⟨KY,rfl,B0,E9⟩;have G:=be CG.2 G;have O:=be CG.2 O
  have H:=be CG.2 H;have hq:=be CG.2 hq;have hv:=aa9 CG.2 hv;have E:=xt E CG.2;have Kp:=ad8 Kp CG.2;rw[zN _ _ hd]at B0;have Af:en X0 W.heap.size Aw KY bp ((dl a2 (au 10000 a1) n1 pre).2*10000+((au 10000 a1).getD x 0)):=by
   refine⟨?_,?_,by omega⟩
   rw[B0];have:=(hs.ext CG.2).take KY;simpa[ints,List.map_take]using this;rw[B0,List.length_take,List.length_cons,hv.len];omega
  have uhnew:=Af.hi;have d0:KY<=n2+1:=by rw[<-Af.len,bi 10000 U];have:=nZ (B:=10000) U a2;rw[h2.len]at this;rw[Nat.pow_succ];omega
  refine SO H (λLa E1 As=>?_);have G:=pb E1 G;have O:=pb E1 O;have hq:=pb E1 hq;have Af:=ac7 E1 U Af;have E:=bA E1 E;have Kp:=ae0 Kp E1 L7;have cx:=ij E1;refine I ?_;refine aa (aE (vf:=[.slice A2 n2 c2]) (vc:=[]) Z Z ?_);refine al RR (λ_ E6 WV=>?_);have G:=be E6.2 G;have O:=be E6.2 O;have As:=be E6.2 As;have hq:=be E6.2 hq;have Af:=aa9 E6.2 Af;have E:=xt E E6.2;have Kp:=ad8 Kp E6.2;refine SO WV (λ_ B1 Ax=>?_);have G:=pb B1 G;have O:=pb B1 O;have As:=pb B1 As;have hq:=pb B1 hq;have Af:=ac2 B1 (λKC e=>by have:=uhnew KC e;omega) Af;have E:=bA B1 E;have Kp:=ae0 Kp B1 L7;have co:=ij B1;refine I ?_;refine aa (aE (vf:=[]) (vc:=[pT La.heap.size,pT Aq.heap.size]) Z Z ?_);refine I ?_;refine bP 5 ?_;refine sf ?_;refine a7 (V:=.int .i64 ((((dl a2 (au 10000 a1) n1 pre).2*10000+((au 10000 a1).getD x 0))/a2:Nat):Int)) (λ_ cb hR55 _=>?_) ?_;have As:=be hR55 As
  have Af:=aa9 hR55 Af;have Ax:=be hR55 Ax;have a8:∀(i:Nat) (V:World),i<9999->aN cb V->CL 161 (([Value.int .i64 i]:List Value)++([pT La.heap.size,pT Aq.heap.size]:List Value)).toArray V (aH V λv _=>v=.bool (decide (0<aQ ((a2*(i+1):Nat):Int) ((((dl a2 (au 10000 a1) n1 pre).2*10000+((au 10000 a1).getD x 0)):Nat):Int)))):=by(intro i V hi Y;exact NW (h2.ext (xt (xt E hR55) Y)) U (Af.ext Y) (Ax.ext Y) (As.ext Y) hi)
  refine clb V5 (hc:=Gz (m:=9999) (lb:=[pT La.heap.size,pT Aq.heap.size]) V4 U a8 (λi j cf _ h=>GA i j cf h)) (hk:=?_);rintro _ _ L1 ⟨cv,rfl,a4,V0,W0⟩;have L1:=L1.2;obtain rfl:=Jg h0 bZ a4 V0 W0;have E60:=L1;refine I ?_;exact fs ⟨E60,rfl⟩;refine aB (λ_ _ _ _=>by refine aa (aA (A:=some ⟨A0.heap.size,0,none⟩) (bk:=A0.heap.size) (o:=0) (m:=n1) (c:=n1) (i:=x) (oo:=x) gX ji Z Z Z hx U ?_);refine I ?_;exact aK) ?_;refine sf ?_;intro _ _ hR67 _;have G:=be hR67.2 G;have O:=be hR67.2 O;have As:=be hR67.2 As;have hq:=be hR67.2 hq;have Af:=aa9 hR67.2 Af;have Ax:=be hR67.2 Ax;have E:=xt E hR67.2;have Kp:=ad8 Kp hR67.2;refine aa (cI (b:=A0.heap.size) (o:=x) (v:=.int .i64 ((((dl a2 (au 10000 a1) n1 pre).2*10000+((au 10000 a1).getD x 0))/a2:Nat):Int)) ji Z Z Z hq (by simp[ints,S9];omega) (λbb CB a5=>?_));have G:=pb CB G;have O:=pb CB O;have As:=pb CB As;have Af:=ac7 CB U Af;have Ax:=pb CB Ax;have E:=bA CB E;have Kp:=ae0 Kp CB L7;have cp:=ij CB
  have hq:=a5;rw[ints_set]at hq;refine I ?_;obtain⟨L,_⟩:∃L,L=bb.heap.size:=⟨_,rfl⟩;refine bP 8 ?_;refine sf ?_;refine aB (λ_ _ _ _=>by refine aa (aA (A:=some ⟨A0.heap.size,0,none⟩) (bk:=A0.heap.size) (o:=0) (m:=n1) (c:=n1) (i:=x) (oo:=x) gX ji Z Z Z hx U ?_);refine I ?_;exact aK) ?_;refine aB (λ_ _ hR93 _=>by have hq:=be hR93 hq;refine aa (bn (v:=.int .i64 ((((dl a2 (au 10000 a1) n1 pre).2*10000+((au 10000 a1).getD x 0))/a2:Nat):Int)) U3 Z Z (ab4 hq (by simp[ints,S9,hx])) ?_);refine I ?_;exact aK) ?_
  refine b8 (λv w=>qc L (a2*(((dl a2 (au 10000 a1) n1 pre).2*10000+((au 10000 a1).getD x 0))/a2)) v w) (hs:=λ_ _ _ k h=>h.ext k) (λ_ _ hR97 _=>?_) ?_;refine aa (Eg (vs:=[.int .i64 ((((dl a2 (au 10000 a1) n1 pre).2*10000+((au 10000 a1).getD x 0))/a2:Nat):Int)]) (la:=[.slice A2 n2 c2]) D8 Z Z (Ex (h2.ext (xt E hR97)) U (Ez Rm hd)) ?_);rintro _ _ an ⟨Ab,Lj,P2,rfl,H2⟩;have W1:=an;have H2:=H2.mono (lo':=L) (by have:=bz hR97;omega);refine I ?_;exact fs ⟨W1,⟨Ab,Lj,P2,rfl,H2⟩⟩;refine b8 (λv w=>qc L (((dl a2 (au 10000 a1) n1 pre).2*10000+((au 10000 a1).getD x 0))-a2*(((dl a2 (au 10000 a1) n1 pre).2*10000+((au 10000 a1).getD x 0))/a2)) v w) (hs:=λ_ _ _ k h=>h.ext k) (λ_ _ T2 a0=>?_) ?_;obtain⟨Ab,Lj,P2,X2,H2⟩:=(a0 6 36 Z Z);have Q0:a2*(((dl a2 (au 10000 a1) n1 pre).2*10000+((au 10000 a1).getD x 0))/a2)<=((dl a2 (au 10000 a1) n1 pre).2*10000+((au 10000 a1).getD x 0)):=Nat.mul_div_le _ _;have cT:Lj<=KY:=by rw[<-H2.len,<-Af.len];exact ey U Q0
  have Af:=aa9 T2 Af;refine clb D5 (hc:=oZ Af U H2 U Q0 cT) (hk:=?_) (hv:=aw Z (aw X2 Z));rintro _ _ W3 ⟨Am,nm,L4,rfl,D1⟩;have ac:=W3.2;have D1:=D1.mono (lo':=L) (by have:=bz T2;omega);refine I ?_;exact fs ⟨ac,⟨Am,nm,L4,rfl,D1⟩⟩;refine sf ?_;intro _ _ E7 bd;have G:=be E7.2 G;have O:=be E7.2 O;have As:=be E7.2 As;have hq:=be E7.2 hq;have Ax:=be E7.2 Ax;have E:=xt E E7.2;have Kp:=ad8 Kp E7.2;obtain⟨Am,nm,L4,_,D1⟩:=(bd 7 37 Z Z);rw[show((dl a2 (au 10000 a1) n1 pre).2*10000+((au 10000 a1).getD x 0))-a2*(((dl a2 (au 10000 a1) n1 pre).2*10000+((au 10000 a1).getD x 0))/a2)=((dl a2 (au 10000 a1) n1 pre).2*10000+((au 10000 a1).getD x 0))%a2 by have:=Nat.div_add_mod ((dl a2 (au 10000 a1) n1 pre).2*10000+((au 10000 a1).getD x 0)) a2;omega]at D1
  refine SO As (λ_ C0 T3=>?_);have G:=pb C0 G;have O:=pb C0 O;have hq:=pb C0 hq;have Ax:=pb C0 Ax;have D1:=ac7 C0 U D1;have E:=bA C0 E;have Kp:=ae0 Kp C0 L7;have cw:=ij C0;refine I ?_;exact⟨Kp.others (by simp only[List.mem_cons,List.not_mem_nil,or_false];rintro b (rfl|rfl);exact b0;exact bY),λhq=>⟨Kp.blk q4 hq.1,Kp.rw (λKC e=>by have:=h1.hi KC e;simp;omega) hq.2⟩,⟨Am,nm,L4,U,E,G,O,T3,(by rw[tO];exact hq),(by rw[tO];exact D1.mono U)⟩⟩
 case stop=>
  exact λ_ _ _ _ _ _ h _=>h.elim
 case done=>
  rintro D W hD ⟨Ar,Ao,Ap,Lk,E,G,O,H,hq,hv⟩ hK;have zW:=bz E;refine I ?_;obtain⟨od,KM,c9⟩:=Jf h0 h1.len;rw[c9]at hv;have Li:=wu a2 (au 10000 a1) n1 (List.range n1).reverse;generalize hqs:(dl a2 (au 10000 a1) n1 ((List.range n1).reverse)).1=qs at *;refine Np li ?_;have CY:=ac3 W;generalize hgw:World.drew W=ao2 at CY ⊢;clear hgw;have G:=be CY G;have O:=be CY O;have H:=be CY H;have hq:=be CY hq;have hv:=aa9 CY hv;have hK:=ll.ext CY hK;have E:=xt E CY;refine gY (i:=0) (is:=[2]) fp ⟨?_,?_,trivial⟩;refine my Z ?_;refine(bn (v:=.slice (some ⟨A0.heap.size,0,none⟩) n1 n1) (b:=Av.heap.size) (o:=0) gX Z Z (ab4 O Z) ?_);refine gY (i:=1) (is:=[2]) fp ⟨?_,?_,trivial⟩;refine my Z ?_;refine(xL (vs:=[.slice (some ⟨A0.heap.size,0,none⟩) n1 n1]) rk Z (fL (ae2 hq (qa0 _)) Li (qa0 _) U) ?_);rintro _ _ ES ⟨Az,rfl,B0,E9⟩;have G:=be ES.2 G;have O:=be ES.2 O;have H:=be ES.2 H;have hq:=be ES.2 hq;have hv:=aa9 ES.2 hv;have hK:=ll.ext ES.2 hK;have E:=xt E ES.2;refine gY (i:=2) (is:=[3]) fp ⟨?_,?_,trivial⟩;refine my Z ?_;refine(bn (v:=.slice Ar Ao Ap) (b:=Aq.heap.size) (o:=0) gX Z Z (ab4 H Z) ?_)
  refine gY (i:=3) (is:=[]) fp ⟨?_,trivial⟩;refine my Z ?_;refine(cI (b:=Av.heap.size) (o:=0) (v:=.slice (some ⟨A0.heap.size,0,none⟩) Az n1) mj Z Z Z O (qa3 Z) (λ_ FR L3=>?_));have G:=pb FR G;have H:=pb FR H;have hq:=pb FR hq;have hv:=ac7 FR U hv;have hK:=ad3 FR (hK.ne O) hK;have E:=bA FR E;refine gY (i:=4) (is:=[]) fp ⟨?_,trivial⟩;refine my Z ?_;refine(cI (b:=Aq.heap.size) (o:=0) (v:=.slice Ar Ao Ap) mj Z Z Z H (qa3 Z) (λ_ K2 bq=>?_));have G:=pb K2 G;have L3:=pb K2 L3;have hq:=pb K2 hq;have hv:=ac7 K2 U hv;have hK:=ad3 K2 (hK.ne H) hK;have E:=bA K2 E;refine Ei fp (I ?_);have E5:=hv.dfr hK;have E0:=ar.dfr hK hq;refine jM (v:=.tuple #[.slice (some ⟨A0.heap.size,0,none⟩) Az n1,.slice Ar Ao Ap]) hK (de (r1:=.cell 4 159) (r2:=.cell 5 159) Z ?_ ?_) ((dK _).low E U) ⟨_,_,_,_,_,_,rfl,zO (ae2 E0 U) od KM B0 U E9,E5.mono U⟩;refine bI (b:=Av.heap.size) (o:=0) gX Z ?_ ?_;exact Z
  exact ab4 (L3.dfr hK) Z;refine bI (b:=Aq.heap.size) (o:=0) gX Z ?_ ?_;exact Z;exact ab4 (bq.dfr hK) Z;refine my Z ?_;refine(cI (b:=Av.heap.size) (o:=0) (v:=.slice (some ⟨A0.heap.size,0,none⟩) Az n1) mj Z Z Z O (qa3 Z) (λ_ H4 L2=>?_));have G:=pb H4 G;have H:=pb H4 H;have hq:=pb H4 hq;have hv:=ac7 H4 U hv;have hK:=ad3 H4 (hK.ne O) hK;have E:=bA H4 E;refine gY (i:=2) (is:=[]) fp ⟨?_,trivial⟩;refine my Z ?_;refine(bn (v:=.slice Ar Ao Ap) (b:=Aq.heap.size) (o:=0) gX Z Z (ab4 H Z) ?_);refine gY (i:=4) (is:=[]) fp ⟨?_,trivial⟩;refine my Z ?_;refine(cI (b:=Aq.heap.size) (o:=0) (v:=.slice Ar Ao Ap) mj Z Z Z H (qa3 Z) (λ_ G0 a9=>?_));have G:=pb G0 G;have L2:=pb G0 L2;have hq:=pb G0 hq;have hv:=ac7 G0 U hv;have hK:=ad3 G0 (hK.ne H) hK;have E:=bA G0 E;refine Ei fp (I ?_);have E5:=hv.dfr hK;have E0:=ar.dfr hK hq;refine jM (v:=.tuple #[.slice (some ⟨A0.heap.size,0,none⟩) Az n1,.slice Ar Ao Ap]) hK (de (r1:=.cell 4 159) (r2:=.cell 5 159) Z ?_ ?_) ((dK _).low E U) ⟨_,_,_,_,_,_,rfl,zO (ae2 E0 U) od KM B0 U E9,E5.mono U⟩
  refine bI (b:=Av.heap.size) (o:=0) gX Z ?_ ?_;exact Z;exact ab4 (L2.dfr hK) Z;refine bI (b:=Aq.heap.size) (o:=0) gX Z ?_ ?_;exact Z;exact ab4 (a9.dfr hK) Z;refine my Z ?_;refine(bn (v:=.slice Ar Ao Ap) (b:=Aq.heap.size) (o:=0) gX Z Z (ab4 H Z) ?_);refine gY (i:=1) (is:=[]) fp ⟨?_,trivial⟩;refine my Z ?_;refine(xL (vs:=[.slice (some ⟨A0.heap.size,0,none⟩) n1 n1]) rk Z (fL (ae2 hq (qa0 _)) Li (qa0 _) U) ?_);rintro _ _ EW ⟨Az,rfl,B0,E9⟩;have G:=be EW.2 G;have O:=be EW.2 O;have H:=be EW.2 H;have hq:=be EW.2 hq;have hv:=aa9 EW.2 hv;have hK:=ll.ext EW.2 hK;have E:=xt E EW.2;refine gY (i:=3) (is:=[]) fp ⟨?_,trivial⟩;refine my Z ?_;refine(cI (b:=Av.heap.size) (o:=0) (v:=.slice (some ⟨A0.heap.size,0,none⟩) Az n1) mj Z Z Z O (qa3 Z) (λ_ Ix Ne=>?_));have G:=pb Ix G;have H:=pb Ix H;have hq:=pb Ix hq;have hv:=ac7 Ix U hv;have hK:=ad3 Ix (hK.ne O) hK;have E:=bA Ix E;refine gY (i:=4) (is:=[]) fp ⟨?_,trivial⟩;refine my Z ?_;refine(cI (b:=Aq.heap.size) (o:=0) (v:=.slice Ar Ao Ap) mj Z Z Z H (qa3 Z) (λ_ H3 VW=>?_))
  have G:=pb H3 G;have Ne:=pb H3 Ne;have hq:=pb H3 hq;have hv:=ac7 H3 U hv;have hK:=ad3 H3 (hK.ne H) hK;have E:=bA H3 E;refine Ei fp (I ?_);have E5:=hv.dfr hK;have E0:=ar.dfr hK hq;refine jM (v:=.tuple #[.slice (some ⟨A0.heap.size,0,none⟩) Az n1,.slice Ar Ao Ap]) hK (de (r1:=.cell 4 159) (r2:=.cell 5 159) Z ?_ ?_) ((dK _).low E U) ⟨_,_,_,_,_,_,rfl,zO (ae2 E0 U) od KM B0 U E9,E5.mono U⟩;refine bI (b:=Av.heap.size) (o:=0) gX Z ?_ ?_;exact Z;exact ab4 (Ne.dfr hK) Z;refine bI (b:=Aq.heap.size) (o:=0) gX Z ?_ ?_;exact Z;exact ab4 (VW.dfr hK) Z;refine my Z ?_;refine(bn (v:=.slice Ar Ao Ap) (b:=Aq.heap.size) (o:=0) gX Z Z (ab4 H Z) ?_);refine gY (i:=0) (is:=[]) fp ⟨?_,trivial⟩;refine my Z ?_;refine(bn (v:=.slice (some ⟨A0.heap.size,0,none⟩) n1 n1) (b:=Av.heap.size) (o:=0) gX Z Z (ab4 O Z) ?_);refine gY (i:=1) (is:=[]) fp ⟨?_,trivial⟩;refine my Z ?_;refine(xL (vs:=[.slice (some ⟨A0.heap.size,0,none⟩) n1 n1]) rk Z (fL (ae2 hq (qa0 _)) Li (qa0 _) U) ?_);rintro _ _ D2 ⟨Az,rfl,B0,E9⟩
  have G:=be D2.2 G;have O:=be D2.2 O;have H:=be D2.2 H;have hq:=be D2.2 hq;have hv:=aa9 D2.2 hv;have hK:=ll.ext D2.2 hK;have E:=xt E D2.2;refine gY (i:=3) (is:=[]) fp ⟨?_,trivial⟩;refine my Z ?_;refine(cI (b:=Av.heap.size) (o:=0) (v:=.slice (some ⟨A0.heap.size,0,none⟩) Az n1) mj Z Z Z O (qa3 Z) (λ_ ny wr=>?_));have G:=pb ny G;have H:=pb ny H;have hq:=pb ny hq;have hv:=ac7 ny U hv;have hK:=ad3 ny (hK.ne O) hK;have E:=bA ny E;refine gY (i:=4) (is:=[]) fp ⟨?_,trivial⟩;refine my Z ?_;refine(cI (b:=Aq.heap.size) (o:=0) (v:=.slice Ar Ao Ap) mj Z Z Z H (qa3 Z) (λ_ GC bv=>?_));have G:=pb GC G;have wr:=pb GC wr;have hq:=pb GC hq;have hv:=ac7 GC U hv;have hK:=ad3 GC (hK.ne H) hK;have E:=bA GC E;refine Ei fp (I ?_);have E5:=hv.dfr hK;have E0:=ar.dfr hK hq;refine jM (v:=.tuple #[.slice (some ⟨A0.heap.size,0,none⟩) Az n1,.slice Ar Ao Ap]) hK (de (r1:=.cell 4 159) (r2:=.cell 5 159) Z ?_ ?_) ((dK _).low E U) ⟨_,_,_,_,_,_,rfl,zO (ae2 E0 U) od KM B0 U E9,E5.mono U⟩
  refine bI (b:=Av.heap.size) (o:=0) gX Z ?_ ?_;exact Z;exact ab4 (wr.dfr hK) Z;refine bI (b:=Aq.heap.size) (o:=0) gX Z ?_ ?_;exact Z;exact ab4 (bv.dfr hK) Z
end Go.Proofs.YtlmihmlnpjkblaaGreatDoor
namespace Go.Eng
variable {l d:List UInt8}
def cu (c:UInt8):Bool:=decide (48<=c.toNat)&&decide (c.toNat<=57)
def body:List UInt8->List UInt8
 |45::t=>t
 |l=>l
def neg:List UInt8->Bool
 |45::_=>true
 |_=>false
def eJ (l:List UInt8):List Nat:=l.reverse.map λc=>c.toNat-48
def aD (l:List UInt8):Nat:=bS 10 (eJ l)
def eo (d:List UInt8):Bool:=!d.isEmpty&&decide (d.length<=200)&&d.all cu&&(decide (d=[48])||decide (d.head?≠some 48))
def isInt (l:List UInt8):Bool:=eo (body l)&& !(neg l&&decide (body l=[48]))
def ai (l:List UInt8):Int:=if neg l then -(aD (body l):Int)else(aD (body l):Int)
def cQ (l:List Nat):List UInt8:=l.reverse.map λd=>UInt8.ofNat (48+d)
def bC (n:Nat):List UInt8:=if n=0 then[48]else cQ (au 10 n)
def ae (n:Int):List UInt8:=if n<0 then 45::bC n.natAbs else bC n.natAbs
def fits (n:Int):Bool:=decide (n.natAbs<10^200)
def Tz {c:UInt8}(h:cu c=true):c.toNat-48<10:=by simp[cu]at h;omega
def xN (h:l.all cu=true):∀d∈eJ l,d<10:=by
 intro d hd
 simp only[eJ,List.mem_map,List.mem_reverse]at hd
 obtain⟨c,hc,rfl⟩:=hd
 exact Tz (List.all_eq_true.1 h c hc)
def byte_of {c:UInt8}(h:cu c=true):UInt8.ofNat (48+(c.toNat-48))=c:=by
 simp[cu]at h
 rw[show 48+(c.toNat-48)=c.toNat by omega]
 simp
def CQ (h:l.all cu=true):cQ (eJ l)=l:=by
 unfold cQ eJ
 rw[<-List.map_reverse,List.reverse_reverse,List.map_map]
 conv=>rhs;rw[<-List.map_id l]
 apply List.map_congr_left
 intro c hc
 exact byte_of (List.all_eq_true.1 h c hc)
def CS {l:List Nat}(h:∀d∈l,d<10):eJ (cQ l)=l:=by
 unfold cQ eJ
 rw[<-List.map_reverse,List.reverse_reverse,List.map_map]
 conv=>rhs;rw[<-List.map_id l]
 apply List.map_congr_left
 intro d hd
 have:=h d hd
 simp only[Function.comp,UInt8.toNat_ofNat',id]
 omega
def GB {l:List Nat}(h:∀d∈l,d<10):(cQ l).all cu=true:=by
 rw[List.all_eq_true]
 intro c hc
 simp only[cQ,List.mem_map,List.mem_reverse]at hc
 obtain⟨d,hd,rfl⟩:=hc
 have:=h d hd
 simp only[cu,UInt8.toNat_ofNat',Bool.and_eq_true,decide_eq_true_eq]
 omega
def cN (l:List Nat):(cQ l).length=l.length:=by simp[cQ]
def i6 (l:List UInt8):(eJ l).length=l.length:=by simp[eJ]
def tP (h:eo d=true)(h0:d≠[48]):Canon 10 (eJ d):=by
 simp only[eo,Bool.and_eq_true,Bool.or_eq_true,decide_eq_true_eq]at h
 obtain⟨⟨⟨h1,h2⟩,h3⟩,h4⟩:=h
 refine⟨xN h3,?_⟩
 rcases h4 with h4|h4
 · exact absurd h4 h0
 · cases d with
   |nil=>simp at h1
   | cons c t=>
     have hc:cu c=true:=by simp at h3;exact h3.1
     have E:c≠48:=by simpa using h4
     simp only[eJ,List.reverse_cons,List.map_append,List.map_cons,List.map_nil,List.getLast?_concat,ne_eq,Option.some.injEq]
     intro _
     simp[cu]at hc
     have:c.toNat=48:=J
     exact E (UInt8.toNat_inj.1 (by simpa using this))
def zP (h:eo d=true)(h0:d≠[48]):eJ d=au 10 (aD d):=mu J (tP h h0)
def qH:aD [48]=0:=by decide
def o4 (h:eo d=true)(h0:d≠[48]):0<aD d:=by
 refine Canon.pos J (tP h h0) ?_
 intro e
 have:d.length=0:=by rw[<-i6,e];rfl
 simp[eo,List.length_eq_zero_iff.1 this]at h
def jO (h:eo d=true):d.all cu=true:=by
 simp only[eo,Bool.and_eq_true]at h;exact h.1.2
def kN (h:eo d=true):0<d.length/\d.length<=200:=by
 simp only[eo,Bool.and_eq_true,decide_eq_true_eq]at h
 refine⟨?_,h.1.1.2⟩
 have:=h.1.1.1
 cases d <;>simp at this ⊢
def sy (h:eo d=true):aD d<10^200:=by
 have h1:aD d<10^d.length:=by rw[<-i6];exact lj 10 _ (xN (jO h))
 exact qb1 h1 (Nat.pow_le_pow_right J (kN h).2)
def tQ (h:eo d=true):bC (aD d)=d:=by
 by_cases h0:d=[48]
 · subst h0;decide
 · unfold bC
   rw[if_neg (by have:=o4 h h0;omega),<-zP h h0,CQ (jO h)]
def oe {n:Nat}(h:n≠0):au 10 n≠[]:=λe=>h (by have:=cJ 10 J n;rw[e]at this;exact this.symm)
def gJ (n:Nat):aD (bC n)=n:=by
 unfold bC
 split
 · next h=>subst h;decide
 · rw[aD,CS (eM 10 J n),cJ 10 J]
def zQ {n:Nat}(h:n<10^200):eo (bC n)=true:=by
 unfold bC
 split
 · decide
 · next h0=>
   have E:=oe h0
   have hl:(au 10 n).length<=200:=(bi 10 J n 200).2 h
   have h1:(cQ (au 10 n)).isEmpty=false:=by
    cases hh:cQ (au 10 n)with
    |nil=>exact absurd (List.length_eq_zero_iff.1 (by rw[<-cN,hh];rfl)) E
    |cons a b=>rfl
   simp only[eo,h1,GB (eM 10 J n),cN,hl,decide_true,Bool.not_false,Bool.and_self,Bool.true_and,Bool.or_eq_true,decide_eq_true_eq]
   right
   have h2:=j6 10 J n
   have h3:=eM 10 J n
   unfold cQ
   rw[List.head?_map,List.head?_reverse]
   cases hg:(au 10 n).getLast? with
   |none=>simp
   | some x=>
     simp only[Option.map_some,ne_eq,Option.some.injEq]
     intro e
     have hx:x<10:=h3 x (List.mem_of_getLast? hg)
     have:=qb2 UInt8.toNat e
     simp at this
     have:x=0:=J
     subst this
     exact h2 hg
def tR (n:Nat):(bC n).head?≠some 45:=by
 unfold bC
 split
 · decide
 · unfold cQ
   rw[List.head?_map,List.head?_reverse]
   cases hg:(au 10 n).getLast? with
   |none=>simp
   | some x=>
     have hx:x<10:=eM 10 J n x (List.mem_of_getLast? hg)
     simp only[Option.map_some,ne_eq,Option.some.injEq]
     intro e
     have:=qb2 UInt8.toNat e
     simp at this
     omega
def GD {a b:Nat}(h:bC a=bC b):a=b:=by rw[<-gJ a,h,gJ]
def xO (h:l.head?≠some 45):body l=l:=by
 unfold body;split
 · simp at h
 · rfl
def Jh (h:l.head?≠some 45):neg l=false:=by
 unfold neg;split
 · simp at h
 · rfl
def tS (h:neg l=true):l=45::body l:=by
 unfold neg at h;split at h
 · rfl
 · cases h
def o5 (h:neg l=false):body l=l:=by
 unfold neg at h;split at h
 · cases h
 · next hh => unfold body;split
              · exact absurd Z (hh _)
              · rfl
def ez (h:isInt l=true):eo (body l)=true:=by
 simp only[isInt,Bool.and_eq_true]at h;exact h.1
def og (h:isInt l=true)(hn:neg l=true):body l≠[48]:=by
 simp only[isInt,Bool.and_eq_true,hn,Bool.true_and,Bool.not_eq_true',decide_eq_false_iff_not]at h;exact h.2
def ec (l:List UInt8):(ai l).natAbs=aD (body l):=by unfold ai;split <;>simp
def Ji (h:isInt l=true):decide (ai l<0)=neg l:=by
 unfold ai
 cases hn:neg l with
 | true=>
   have:=o4 (ez h) (og h hn)
   simp;omega
 |false=>simp
def e9 (h:isInt l=true):fits (ai l)=true:=by
 simp only[fits,ec,decide_eq_true_eq];exact sy (ez h)
def tU (h:isInt l=true):ae (ai l)=l:=by
 have E:=Ji h
 unfold ae
 rw[ec,tQ (ez h)]
 cases hg:neg l with
 | true=>
   rw[hg,decide_eq_true_eq]at E
   rw[if_pos E,<-tS hg]
 | false=>
   rw[hg,decide_eq_false_iff_not]at E
   rw[if_neg E,o5 hg]
def gK (n:Int):body (ae n)=bC n.natAbs:=by
 unfold ae
 split
 · rfl
 · exact xO (tR _)
def qI (n:Int):neg (ae n)=decide (n<0):=by
 unfold ae
 split
 · next h=>simp[neg,h]
 · next h=>rw[Jh (tR _)];simp[h]
def aG (n:Int):ai (ae n)=n:=by
 unfold ai
 rw[qI,gK,gJ]
 by_cases h:n<0
 · simp[h];omega
 · simp[h];omega
def bu {n:Int}(h:fits n=true):isInt (ae n)=true:=by
 have h1:n.natAbs<10^200:=of_decide_eq_true h
 unfold isInt
 rw[gK,qI,zQ h1,Bool.true_and,Bool.not_eq_true',Bool.and_eq_false_iff]
 by_cases hn:n<0
 · right
   rw[decide_eq_false_iff_not]
   intro e
   have:=GD (a:=n.natAbs) (b:=0) (by rw[e];decide)
   omega
 · left;simp[hn]
def tV {a b:List UInt8}(ha:isInt a=true)(hb:isInt b=true)(h:ai a=ai b):a=b:=by
 rw[<-tU ha,h,tU hb]
def mU {a b:Int}(h:ae a=ae b):a=b:=by rw[<-aG a,h,aG]
def jP:isInt [48]=true:=by decide
def kO:ai [48]=0:=by decide
def ge (h:isInt l=true):ai l=0↔l=[48]:=
 ⟨λe=>tV h jP (e.trans kO.symm),λe=>by rw[e,kO]⟩
def bj (n:Int):Option (List UInt8):=if fits n then some (ae n)else none
def xP (a b:List UInt8):Option (List UInt8):=if isInt a&&isInt b then bj (ai a+ai b)else none
def aW (a b:List UInt8):Option (List UInt8):=if isInt a&&isInt b then bj (ai a-ai b)else none
def az (a b:List UInt8):Option (List UInt8):=if isInt a&&isInt b then bj (ai a*ai b)else none
def dt (a b:List UInt8):Option (List UInt8×List UInt8):=if isInt a&&isInt b&&decide (b≠[48])then(bj (ai a/ai b)).map λq=>(q,ae (ai a%ai b))else none
def bT (a b:List UInt8):Option (List UInt8):=if isInt a&&isInt b then bj ((Int.gcd (ai a) (ai b):Nat):Int)else none
def dR (a b:List UInt8):Int:=if isInt a&&isInt b then aQ (ai a) (ai b)else 0
end Go.Eng
namespace Go.Proofs.YtlmihmlnpjkblaaGreatDoor
open Go Go.Eng Go.RowKit Go.Sort Go.Proofs Tryz
variable {cs args:Array Value}{nx ny ng:Bool}{gs X:List Nat}{l d s:List UInt8}{b a n1 c1 lo1 n2 c2 lo2 lo D g n i:Nat}{A1 A2:Option Addr}{p:Prop}{t:TypeId}{w w' W W' B A:World}
section
def Tb (w:World):Prop:=∃fz:Nat×Nat,w.heap[4]?=some (.cells ((Lib.pow10Tab.map λz=>Value.int .u64 z).toArray) 306 fz)
def Tb.ext (k:aN w w')(h:Tb w):Tb w':=by
 obtain⟨E,h⟩:=h
 exact⟨E,k.heap h⟩
def ab7:=@Tb.ext
def Tb.gr (k:w.grownBy w' (some b))(hb:ar w b t cs)(ht:t≠306)(h:Tb w):Tb w':=by
 obtain⟨E,h⟩:=h
 refine⟨E,(k.block 4 (Array.getElem?_eq_some_iff.1 h).1 (λe=>?_)).trans h⟩
 cases e
 unfold ar at hb
 rw[hb]at h;cases h;exact ht Z
def Tb.put (k:dP w w' b)(hb:ar w b t cs)(ht:t≠306)(h:Tb w):Tb w':=by
 obtain⟨E,h⟩:=h
 refine⟨E,(k.block 4 (λe=>?_)).trans h⟩
 subst e
 unfold ar at hb
 rw[hb]at h;cases h;exact ht Z
def Tb.tab (h : Tb w) : Lib.TabIs prog w "internal/strconv.uint64pow10" .u64 Lib.pow10Tab := by
 obtain⟨G,h⟩:=h
 unfold Lib.TabIs World.var?
 have E : prog.globalNamed "internal/strconv.uint64pow10" = some 4 := by kernel_rfl
 rw[E]
 simp only[Option.bind_some,h]
def tW {P:Program}{f:FuncId}{R:Ending->World->Prop}{Q:Value->World->Prop}(h:Calls P f args w R)(hq:∀e w',R e w'->∃v,e=.returned v/\aN w w'/\Q v w'):Calls P f args w (aH w Q):=
 h.mono (by
  intro e w' hR
  obtain⟨v,rfl,h1,h2⟩:=hq e w' hR
  exact⟨h1,h2⟩)
def Jj (w:World)(k:Nat)(os:Array Obj):aN w (grow (w.drewN k) os):=by
 refine⟨rfl,rfl,rfl,by simp[grow],λi hi=>?_⟩
 simp only[grow]
 rw[Array.getElem?_append_left (by simpa using hi)]
 rfl
def qJ (l:List UInt8):(ByteArray.mk l.toArray).data.toList=l:=by simp
def tX (l:List UInt8):(ByteArray.mk l.toArray).size=l.length:=by simp[ByteArray.size]
def xQ (n:Int)(w:World)(h0:-9223372036854775808<=n)(h1:n<=9223372036854775807)(ht:Tb w):CL 167 #[.int .i64 n] w (aH w λv _=>v=S (Lib.itoa n)):=
 tW (Tryz.strconv_Itoa n h0 h1 w ht.tab) (by
  rintro e w' ⟨rfl,k,os,rfl⟩
  exact⟨_,rfl,Jj w k os,rfl⟩)
def tY (w:World)(e:TypeId)(s:ByteArray):aN w (Lib.bytesWorld w e s):=by
 have h1:aN w (w.drew.alloc (.cells (Lib.bytesCells w e s) e)):=aN.trans (ac3 w) (ae1 _ _)
 have h2:w.heap.size<(w.drew.alloc (.cells (Lib.bytesCells w e s) e)).heap.size:=by simp[World.alloc,World.drew,-World.alloc_eq,-World.drew_eq]
 unfold Lib.bytesWorld World.freeze
 refine⟨h1.os,h1.tape,h1.output,by simpa using h1.size,λi hi=>?_⟩
 rw[<-h1.block i hi]
 split
 · next h=>cases h
 · show(Array.modify _ _ _)[i]? =_
   rw[Array.getElem?_modify,if_neg q4]
def NX (l:List UInt8)(n:Int)(w:World)(hl:l.length<=18)(h:Lib.atoi l=some n):CL 206 #[S l] w (aH w λv _=>v=.tuple #[.int .i64 n,.nilIface]):=
 tW (Tryz.strconv_Atoi ⟨l.toArray⟩ n (by rw[tX];exact hl) (by rw[qJ];exact h) w) (by
  rintro e w' ⟨rfl,t,rfl⟩
  exact⟨_,rfl,tY w 5 t,rfl⟩)
def qK (l:List UInt8)(c:Nat)(w:World)(hc:c<=1000000)(hl:l.length<=1000000):CL 168 #[S l,.int .i64 ((c:Nat):Int)] w (aH w λv _=>v=S (Lib.repeatL l c)):=by
 refine tW (Tryz.strings_Repeat ⟨l.toArray⟩ c w J (by rw[tX];have:=qb9 hl hc;omega)) ?_
 rintro e w' ⟨rfl,k⟩
 exact⟨_,rfl,k,by rw[qJ];rfl⟩
def vK (l p:List UInt8)(w:World):CL 204 #[S l,S p] w (aH w λv _=>v=S (Lib.trimPrefix l p)):=
 tW (Tryz.strings_TrimPrefix ⟨l.toArray⟩ ⟨p.toArray⟩ w) (by
  rintro e w' ⟨rfl,rfl⟩
  exact⟨_,rfl,aa0 _,by rw[qJ,qJ];rfl⟩)
def rZ (l:List UInt8):Lib.trimPrefix l [45]=body l:=by
 unfold Lib.trimPrefix Lib.hasPrefix
 cases l with
 |nil=>rfl
 | cons c t=>
   by_cases hc:c=45
   · subst hc;simp[List.isPrefixOf,body]
   · have h1:([45]:List UInt8).isPrefixOf (c::t)=false:=by
      simp[List.isPrefixOf];exact λh=>hc h.symm
     rw[h1,xO (by simpa using hc)];rfl
def gq:List UInt8:=[48,49,50,51,52,53,54,55,56,57]
def NY (l:List UInt8)(w:World)(hl:l.length<=9223372036854775807):CL 205 #[S l,S gq] w (aH w λv _=>v=S (Lib.trimS l gq)):=
 tW (Any.strings_Trim_laid Tryz.lays160 q0 ⟨l.toArray⟩ ⟨gq.toArray⟩ w (by rw[tX];exact hl) Vc (ascii_of_all Vc)) (by
  rintro e w' ⟨rfl,k⟩
  exact⟨_,rfl,k,by rw[qJ,qJ];rfl⟩)
end
section
attribute [local irreducible] wpListIn Code.wpIn Oper.wpIn Exit.then Exit.inBlock Exit.noGoto
set_option maxHeartbeats 40000000
def bf (h:p:=by assumption):p:=h
def xR (l:List UInt8)(w:World):CL 204 #[S l,S [45]] w (aH w λv _=>v=S (body l)):=by
 have h:=vK l [45] w
 rw[rZ]at h
 exact h
def tZ {b:UInt8}:gq.contains b=cu b:=by
 have h:∀b:Fin 256,gq.contains (UInt8.ofNat b.val)=cu (UInt8.ofNat b.val):=by decide +kernel
 have:=h ⟨b.toNat,b.toNat_lt⟩
 simpa using this
def wv (d:List UInt8):Lib.trimS d gq=[]↔d.all cu=true:=by
 have hd:∀l:List UInt8,l.dropWhile (λb=>gq.contains b)=[]↔l.all cu=true:=by
  intro l
  induction l with
  |nil=>simp
  | cons a t ih=>
    simp only[List.dropWhile_cons,List.all_cons,tZ]at ih ⊢
    cases cu a <;>simp_all
 unfold Lib.trimS Lib.trimLeftS
 rw[hd]
 unfold Lib.trimRightS
 constructor
 · intro h
   by_cases hn:(d.reverse.dropWhile (λb=>gq.contains b))=[]
   · rw[hd]at hn;simpa using hn
   · exfalso
     have h2:(d.reverse.dropWhile (λb=>gq.contains b)).head hn∉gq:=by
      have:=List.head_dropWhile_not (p:=λb=>gq.contains b) (l:=d.reverse) hn
      simpa using this
     have h3:cu ((d.reverse.dropWhile (λb=>gq.contains b)).head hn)=true:=by
      refine List.all_eq_true.1 h _ ?_
      rw[List.mem_reverse]
      exact List.head_mem hn
     rw[<-tZ]at h3
     exact h2 (by simpa using h3)
 · intro h
   have:(d.reverse.dropWhile (λb=>gq.contains b))=[]:=by rw[hd];simpa using h
   rw[this];rfl
def Jk (h:body l=[]):Value.bool false=.bool (isInt l):=by simp[isInt,eo,h]
def Jl (h:(200:Int)<(((body l).length:Nat):Int)):Value.bool false=.bool (isInt l):=by
 have:¬(body l).length<=200:=J
 simp[isInt,eo,this]
def Jm (h:¬Lib.trimS (body l) gq=[]):Value.bool false=.bool (isInt l):=by
 rw[wv]at h
 simp[isInt,eo,h]
def Jn (h:l=[48]):Value.bool true=.bool (isInt l):=by subst h;rw[jP]
def NZ (h:¬l=[]):0<l.length:=List.length_pos_iff.2 h
def zR {c:UInt8}(hc:(body l)[0]?=some c)(h1:¬body l=[])(h2:¬(200:Int)<(((body l).length:Nat):Int))(h3:Lib.trimS (body l) gq=[])(h4:¬l=[48]):
 Value.bool (!decide (((c.toNat:Nat):Int)=48))=.bool (isInt l):=by
 rw[wv]at h3
 have G:(body l).length<=200:=J
 have H:(body l).isEmpty=false:=by cases hb:body l <;>simp_all
 have A0:(((c.toNat:Nat):Int)=48)↔c=48:=by
  constructor
  · intro h;exact UInt8.toNat_inj.1 (by have:(48:UInt8).toNat=48:=rfl;omega)
  · intro h;subst h;rfl
 have O:(body l).head?=some c:=by rw[List.head?_eq_getElem?];exact hc
 congr 1
 simp only[isInt,eo,h3,G,H,O,decide_true,Bool.not_false,Bool.true_and,Option.some.injEq,A0,ne_eq]
 by_cases hb:body l=[48]
 · have E:neg l=true:=by
    cases E:neg l with
    |true=>rfl
    |false=>exact absurd ((o5 E).symm.trans hb) h4
   have:c=48:=by rw[hb]at hc;simpa using hc.symm
   simp[hb,E,this]
 · simp[hb]
set_option maxRecDepth 100000 in
theorem iy (l:List UInt8)(w:World):
 CL 156 #[S l] w (aH w λv w'=>v=.bool (isInt l)):=by
 refine aC func156 rfl ?_;refine I ?_;refine cl Im (xR l _) ?_;rintro _ _ E rfl;have E4:=E.2;refine I ?_;by_cases h5:(body l)=([]);refine I ?_;refine rU (b:=[]) ?_;refine I ?_;exact am (t:=2) (v:=.bool false) rfl E4 (by first|exact Jk bf|exact Jl bf|exact Jm bf|exact Jn bf|exact zR bf bf bf bf bf) rfl;by_cases h6:200<(((body l).length:Nat):Int);refine I ?_;refine rU (b:=[]) ?_;refine I ?_;refine aa (dz (l:=body l) U9 rfl ?_);refine I ?_;exact am (t:=2) (v:=.bool false) rfl E4 (by first|exact Jk bf|exact Jl bf|exact Jm bf|exact Jn bf|exact zR bf bf bf bf bf) rfl;refine I ?_;refine rU (b:=[]) ?_;refine I ?_;refine aa (dz (l:=body l) U9 rfl ?_);refine I ?_;refine clb V9 (hc:=NY (body l) _ U) (hk:=?_);rintro _ _ G rfl;have E4:=xt E4 G.2;refine I ?_;refine ZY (b:=[]) ?_;refine I ?_;by_cases h10:(Lib.trimS (body l) gq)=([]);refine I ?_;by_cases h11:l=([48]);refine I ?_;refine rU (b:=[48]) ?_;refine I ?_
 exact am (t:=2) (v:=.bool true) rfl E4 (by first|exact Jk bf|exact Jl bf|exact Jm bf|exact Jn bf|exact zR bf bf bf bf bf) rfl;refine I ?_;refine rU (b:=[48]) ?_;refine I ?_;have H:=dx (l:=body l) (i:=0) (NZ bf);refine aa (ir (l:=body l) (i:=0) (c:=((body l).getD 0 0)) U9 rfl rfl H ?_);refine I ?_;exact am (t:=2) (v:=.bool (!decide (((((body l).getD 0 0).toNat:Nat):Int)=48))) rfl E4 (by first|exact Jk bf|exact Jl bf|exact Jm bf|exact Jn bf|exact zR bf bf bf bf bf) rfl;refine I ?_;exact am (t:=2) (v:=.bool false) rfl E4 (by first|exact Jk bf|exact Jl bf|exact Jm bf|exact Jn bf|exact zR bf bf bf bf bf) rfl
def zS (a b:List UInt8):eJ (a++b)=eJ b++eJ a:=by simp[eJ]
def CU (gs:List Nat)(a b:List Nat)(v:Nat)(k:Nat)(hk:gs.length=k)(ha:a.length=4*k)(h:bS 10000 gs=bS 10 a)(hv:v=bS 10 b):bS 10000 (gs++[v])=bS 10 (a++b):=by
 rw[cj,cj,h,ha,hk,hv]
 have:(10:Nat)^(4*k)=10000^k:=by rw[Nat.pow_mul]
 rw[this]
 simp[bS]
def o6:∀(l:List UInt8) (acc:Nat),l.all cu=true->Lib.decFrom acc l=some (acc*10^l.length+bS 10 (eJ l))
 |[],acc,_=>by simp[Lib.decFrom,eJ,bS]
 | c::t,acc,h=>by
   simp only[List.all_cons,Bool.and_eq_true]at h
   have h1:=h.1
   simp only[cu,Bool.and_eq_true,decide_eq_true_eq]at h1
   rw[Lib.decFrom,Lib.digitVal,if_pos h1]
   simp only[]
   rw[o6 t _ h.2]
   have e:eJ (c::t)=eJ t++[c.toNat-48]:=by simp[eJ]
   rw[e,cj,i6]
   simp only[bS,List.length_cons,Nat.pow_succ,Option.some.injEq]
   generalize 10^t.length=p
   generalize c.toNat-48=x
   rw[Nat.add_mul,Nat.mul_comm p 10,<-Nat.mul_assoc,Nat.mul_comm x p]
   simp
   omega
def GE (h:l.all cu=true)(h0:l≠[]):Lib.atoi l=some ((bS 10 (eJ l):Nat):Int):=by
 cases l with
 |nil=>exact absurd Z h0
 | cons c t=>
   have hc:cu c=true:=by simp at h;exact h.1
   simp only[cu,Bool.and_eq_true,decide_eq_true_eq]at hc
   have h1:(c==45)=false:=by
    rw[beq_eq_false_iff_ne];intro e;subst e;exact absurd hc.1 dc
   have h2:(c==43)=false:=by
    rw[beq_eq_false_iff_ne];intro e;subst e;exact absurd hc.1 dc
   rw[Lib.atoi,h1,h2]
   simp only[Bool.false_eq_true,if_false]
   rw[Lib.decNat]
   simp only[List.isEmpty_cons,Bool.false_eq_true,if_false]
   rw[o6 _ 0 h]
   simp
def CV (l:List UInt8)(h:l.all cu=true)(hl:l.length<=4):bS 10 (eJ l)<10000:=by
 have h1:=lj 10 (eJ l) (xN h)
 rw[i6]at h1
 exact qb1 h1 (qa8 (Nat.pow_le_pow_right U hl) U)
def zT (h:d.all cu=true)(i j:Nat):((d.take j).drop i).all cu=true:=by
 rw[List.all_eq_true]at *
 exact λx hx=>h x (List.mem_of_mem_take (List.mem_of_mem_drop hx))
structure HP (d:List UInt8)(m:Nat)(gs:List Nat):Prop where
 le:m<=d.length
 full:0<m->d.length-m=4*gs.length
 val:bS 10000 gs=bS 10 (eJ (d.drop m))
 lt:∀g∈gs,g<10000
 cnt:gs.length<=d.length
def HP.start (d:List UInt8):HP d d.length []:=⟨qa0 _,λ_=>by simp,by simp[eJ,bS],by simp,by simp⟩
def HP.step {m:Nat}(hd:d.all cu=true)(h:HP d m gs)(hm:0<m):HP d (m-4) (gs++[bS 10 (eJ ((d.take m).drop (m-4)))]):=by
 have G:=h.le
 have hf:=h.full hm
 refine⟨by omega,λ_=>by simp;omega,?_,?_,by simp;omega⟩
 · have e:d.drop (m-4)=(d.take m).drop (m-4)++d.drop m:=by
    rw[<-List.drop_append_of_le_length q4,List.take_append_drop]
   rw[e,zS]
   exact CU _ _ _ _ _ Z (by rw[i6,List.length_drop];exact hf) h.val Z
 · intro g E
   rcases List.mem_append.1 E with E|E
   · exact h.lt g E
   · rw[List.mem_singleton.1 E]
     exact CV _ (zT hd _ _) q4
def HP.len {m:Nat}(h:HP d m gs)(hm:0<m):gs.length<=d.length:=by have:=h.full hm;have:=h.le;omega
def Sg (w:World)(lo:Nat)(ng:Bool)(a:Nat)(v:Value):Prop:=∃A n c,v=.agg #[.bool ng,.slice A n c]/\en w lo A n c a
def N3 (m:Nat):(if(0:Int)<(m:Int)-4 then(m:Int)-4 else 0)=((m-4:Nat):Int):=by split <;>omega
def CW (l:List UInt8):decide (((body l).length:Int)<((l.length:Nat):Int))=neg l:=by
 cases h:neg l with
 |true=>rw[tS h];simp[body];omega
 |false=>rw[o5 h];simp
def TA (h:0<l.length):l≠[]:=List.length_pos_iff.1 h
def HP.all {m:Nat}(h:HP d m gs)(hm:¬0<m):bS 10000 gs=aD d:=by
 have:=h.val
 rw[show m=0 by omega,List.drop_zero]at this
 exact this
set_option maxRecDepth 100000 in
def zU (l:List UInt8)(w:World)(h:isInt l=true):
 CL 157 #[S l] w (aH w λv w'=>Sg w' w.heap.size (neg l) (aD (body l)) v):=by
 have Az:=ez h;have hd:=jO Az;have E7:=kN Az;refine aC func157 Z (I ?_);refine al bH (λ_ C0 E=>?_);have E16:=C0.2;refine I ?_;refine cl Im (xR l _) ?_;rintro _ As E5 rfl;have⟨E,E16⟩:=bw E5.2 E E16;refine I ?_;refine aa (dz (l:=body l) U9 Z ?_);refine I ?_;refine aa (dz (l:=l) U9 Z ?_);refine I ?_;rw[CW];refine aa (b7 (vs:=[(0,.bool (neg l))]) (cells:=#[.bool (neg l),.slice none 0 0]) (pl:=[(0,1),(1,1)]) kH bH q0 Z q0 ?_);refine al bH (λ_ E0 Cr=>?_);have⟨E,E16⟩:=bw E0.2 E E16;refine SA Cr (λE6 E1 G=>?_);have⟨E,E16,_⟩:=kC E1 E E16;refine I ?_;have B2:World.ownsRow E6 w.heap.size 3 1 (.slice none 0 0) 0 (ints []):=bO;refine ck [(3,3),(5,7),(16,38)] (λCB e W=>∃m:Nat,∃gs:List Nat,∃H:Value,(m=CB)/\(e 3=S ((body l).take m))/\(HP (body l) m gs)/\((H).ownBlock≠some w.heap.size)/\((H).ownBlock≠some As.heap.size)/\(aN w W)/\(ar W w.heap.size 161 #[.bool false,.slice none 0 0])/\(ar W As.heap.size 161 #[.bool (neg l),H])/\(W.ownsRow w.heap.size 3 1 H gs.length (ints gs))) ((body l).length) ⟨(body l).length,[],.slice none 0 0,rfl,(qb2 S (by rw[List.take_length])),(HP.start _),(by simp[Value.ownBlock]),(by simp[Value.ownBlock]),E16,E,G,B2⟩ ?_
 rintro _ _ _ ⟨m,gs,H,rfl,p31,q1,n26,n27,E32,E,G,ho⟩;have EW:=bz E32;have E4:=q1.le;by_cases hm:0<m;have FR:=q1.len hm;have E4:=q1.le;refine I ?_;refine aa (j9 (l:=(body l).take m) (m:=m) U9 Z q4 ?_);refine I ?_;refine aa (j9 (l:=(body l).take m) (m:=m) U9 Z q4 ?_);refine qF ?_;refine aa (H1 (a:=0) (b:=(m:Int)-4) (m:=((m-4:Nat):Int)) Z Z (N3 m) ?_);refine I ?_;refine aa (me (l:=(body l).take m) (i:=(m-4)) (j:=((body l).take m).length) U9 Z (.inr ⟨_,congrArg some Z⟩) (.inl ⟨rfl,rfl⟩) q4 zd ?_);rw[show(((body l).take m).take (((body l).take m).length)).drop (m-4)=((body l).take m).drop (m-4)by rw[List.take_length]];refine clb Wb (hc:=NX _ _ _ q4 (GE (zT hd _ _) (TA q4))) (hk:=?_);rintro _ _ Ap rfl;have⟨E,G⟩:=gu Ap.2 E G;have ho:=ab Ap.2 ho;have E32:=xt E32 Ap.2;refine I ?_;refine BS (λ_ Aw _ D1=>?_);have⟨E,G⟩:=gu Aw E G;have ho:=ab Aw ho;have E32:=xt E32 Aw;refine AP ho (ab0 D1) (λAx _ O Aq B0=>?_);have n46:=aS B0 n26 (bt E);have n47:=aS B0 n27 (bt G);have E:=aa3 Aq (λe=>n26 e.symm) E;have G:=aa3 Aq (λe=>n27 e.symm) G;have E32:=bB ho U U E32 Aq;refine I ?_
 refine aa (cI (b:=As.heap.size) (o:=1) (v:=Ax) mj Z Z (bV O) G (qa3 Z) (λ_ Ar B1=>?_));have E:=pb Ar E;have O:=av Ar n47 O;have E32:=bA Ar E32;refine I ?_;refine aa (me (l:=(body l).take m) (i:=0) (j:=(m-4)) U9 Z (.inl ⟨rfl,rfl⟩) (.inr ⟨_,qb2 some Z⟩) U q4 ?_);rw[show(((body l).take m).take (m-4)).drop 0=((body l).take m).take (m-4)from rfl];refine I ?_;exact bJ ⟨m-4,gs++[bS 10 (eJ (((body l).take m).drop (m-4)))],Ax,rfl,(qb2 S (by rw[List.take_take];congr 1;omega)),(HP.step hd q1 hm),n46,n47,E32,E,B1,(aP O zd (by rw[mA];rfl))⟩;obtain⟨Av,A0,rfl,D2,-⟩:=e8 ho;have E9:=q1.cnt;refine I ?_;refine aa (j9 (l:=(body l).take m) (m:=m) U9 Z q4 ?_);refine I ?_;refine clb rk (hc:=fL (ab0 ho) Z D2 U) (hk:=?_);rintro _ _ Ab ⟨Am,rfl,CG,ES⟩;have⟨E,G⟩:=gu Ab.2 E G;have ho:=ab Ab.2 ho;have E32:=xt E32 Ab.2;refine I ?_;refine SO G (λ_ Af Ay=>?_);have E:=pb Af E;have ho:=av Af n27 ho;have E32:=bA Af E32;refine I ?_;refine SA E (λ_ Ao CY=>?_);have Ay:=pb Ao Ay;have ho:=av Ao n26 ho;have E32:=bA Ao E32;refine I ?_
 refine ba (v:=.agg #[.bool (neg l),.slice Av Am A0]) (cC  rfl ?_) E32 ⟨Av,Am,A0,rfl,zO (ab0 ho) q1.lt (q1.all hm) CG U U⟩;refine ak (t:=2) (cs:=[.bool (neg l),.slice Av Am A0]) (b:=w.heap.size) (o:=0) kH Z ml ?_ ?_;exact Z;exact aa1 CY (i:=0) Z
set_option maxRecDepth 100000
def fM (h:p:=by assumption):p:=h
def bR (ng:Bool)(a:Nat):Int:=if ng then -(a:Int)else(a:Int)
def EA (h:(0:Int)<=aQ (a:Int) (b:Int)):b<=a:=by
 rcases Nat.lt_or_ge a b with h1|h1
 · rw[gd U]at h;omega
 · exact h1
def zV (h:¬(0:Int)<=aQ (a:Int) (b:Int)):a<=b:=by
 rcases Nat.lt_or_ge a b with h1|h1
 · omega
 · rcases Nat.eq_or_lt_of_le h1 with h2|h2
   · omega
   · rw[eT U]at h;omega
def gg (h:(nx==ny)=true):bR nx (a+b)=bR nx a+bR ny b:=by
 have:nx=ny:=by simpa using h
 subst this
 unfold bR;split <;>omega
def iz (h:(nx==ny)=false)(hle:b<=a):bR nx (a-b)=bR nx a+bR ny b:=by
 cases nx <;>cases ny <;>simp_all [bR] <;>omega
def iA (h:(nx==ny)=false)(hle:a<=b):bR ny (b-a)=bR nx a+bR ny b:=by
 cases nx <;>cases ny <;>simp_all [bR] <;>omega
def zX (h1:en w lo1 A1 n1 c1 a)(s1:n1<=9000)(h2:en w lo2 A2 n2 c2 b)(s2:n2<=9000):
 CL 142 #[.agg #[.bool nx,.slice A1 n1 c1],.agg #[.bool ny,.slice A2 n2 c2]] w (aH w λv w'=>∃ng r A n c,v=.agg #[.bool ng,.slice A n c]/\en w' w.heap.size A n c r/\bR ng r=bR nx a+bR ny b):=by
 refine aC func142 Z (I ?_);refine bx (λ_ Az H=>?_);have h1:=aa9 Az.2 h1;have h2:=aa9 Az.2 h2;have E63:=Az.2;refine bx (λAx Aq O=>?_);have h1:=aa9 Aq.2 h1;have h2:=aa9 Aq.2 h2;have⟨H,E63⟩:=bw Aq.2 H E63;refine al bH (λE4 Ay A0=>?_);have h1:=aa9 Ay.2 h1;have h2:=aa9 Ay.2 h2;have⟨H,O,E63⟩:=cD Ay.2 H O E63;refine I ?_;refine aa (H0 (a:=nx) (b:=ny) (q:=(nx==ny)) U4 Z Z Z ?_);refine I ?_;rcases qa4 (nx==ny)with h70|h70;refine I ?_;obtain⟨L,hL⟩:∃L,L=E4.heap.size:=⟨_,rfl⟩;refine bP 7 ?_;refine sf ?_;refine b8 (λv w=>qc L (a+b) v w) (hs:=λ_ _ _ k h=>h.ext k) (λ_ _ hR97 _=>?_) ?_;have h1:=aa9 hR97 h1;have h2:=aa9 hR97 h2;refine clb zm (hc:=oX h1 U h2 U) (hk:=?_);rintro _ _ ES ⟨Ar,E,G,rfl,hr⟩;have D2:=ES.2;have hr:=hr.mono (lo':=L) (by have:=bz hR97;omega);refine I ?_;exact fs ⟨D2,⟨Ar,E,G,rfl,hr⟩⟩;refine sf ?_;intro _ _ D1 EW;have⟨H,O,A0,E63⟩:=fE D1.2 H O A0 E63;obtain⟨Ar,E,G,E0,hr⟩:=(EW 6 17 Z Z);refine aa (b7 (vs:=[(0,.bool nx),(1,.slice Ar E G)]) (cells:=#[.bool nx,.slice Ar E G]) (pl:=[(0,1),(1,1)]) kH bH q0 (db Z (db E0 Z)) q0 ?_)
 refine SA A0 (λ_ Aw E9=>?_);have⟨H,O⟩:=lw Aw H O;have hr:=ac7 Aw U hr;have E63:=bA Aw E63;refine I ?_;refine ba (v:=.agg #[.bool nx,.slice Ar E G]) (cC  rfl ?_) E63 ⟨_,_,_,_,_,rfl,hr.mono U,by first|exact gg fM|exact iz fM Ab|exact iA fM Ab⟩;refine ak (t:=4) (cs:=[.bool nx,.slice Ar E G]) (b:=Ax.heap.size) (o:=0) kH Z ml ?_ ?_;exact Z;exact aa1 E9 (i:=0) Z;refine I ?_;refine clb zn (hc:=jN h1 U h2) (hk:=?_);rintro _ B0 As rfl;have h1:=aa9 As.2 h1;have h2:=aa9 As.2 h2;have⟨H,O,A0,E63⟩:=fE As.2 H O A0 E63;refine I ?_;by_cases wr:0<=(aQ (a:Int) (b:Int));refine I ?_;obtain⟨L,hL⟩:∃L,L=B0.heap.size:=⟨_,rfl⟩;have Ab:=EA fM;have Ao:n2<=n1:=by rw[<-h1.len,<-h2.len];exact ey U Ab
 refine bP 7 ?_;refine sf ?_;refine b8 (λv w=>qc L (a-b) v w) (hs:=λ_ _ _ k h=>h.ext k) (λ_ _ Av _=>?_) ?_;have h1:=aa9 Av h1;have h2:=aa9 Av h2;refine clb D5 (hc:=oZ h1 U h2 U Ab Ao) (hk:=?_);rintro _ _ E6 ⟨Ar,E,G,rfl,hr⟩;have Cr:=E6.2;have hr:=hr.mono (lo':=L) (by have:=bz Av;omega);refine I ?_;exact fs ⟨Cr,⟨Ar,E,G,rfl,hr⟩⟩;refine sf ?_;intro _ _ E5 CG;have⟨H,O,A0,E63⟩:=fE E5.2 H O A0 E63;obtain⟨Ar,E,G,E7,hr⟩:=(CG 6 32 Z Z);refine aa (b7 (vs:=[(0,.bool nx),(1,.slice Ar E G)]) (cells:=#[.bool nx,.slice Ar E G]) (pl:=[(0,1),(1,1)]) kH bH q0 (db Z (db E7 Z)) q0 ?_);refine SA A0 (λ_ Am FR=>?_);have⟨H,O⟩:=lw Am H O;have hr:=ac7 Am U hr;have E63:=bA Am E63;refine I ?_;refine ba (v:=.agg #[.bool nx,.slice Ar E G]) (cC  rfl ?_) E63 ⟨_,_,_,_,_,rfl,hr.mono U,by first|exact gg fM|exact iz fM Ab|exact iA fM Ab⟩;refine ak (t:=4) (cs:=[.bool nx,.slice Ar E G]) (b:=Ax.heap.size) (o:=0) kH Z ml ?_ ?_;exact Z;exact aa1 FR (i:=0) Z;refine I ?_;obtain⟨L,hL⟩:∃L,L=B0.heap.size:=⟨_,rfl⟩;have Ab:=zV fM;have Ao:n1<=n2:=by rw[<-h1.len,<-h2.len];exact ey U Ab
 refine bP 7 ?_;refine sf ?_;refine b8 (λv w=>qc L (b-a) v w) (hs:=λ_ _ _ k h=>h.ext k) (λ_ _ Ap _=>?_) ?_;have h1:=aa9 Ap h1;have h2:=aa9 Ap h2;refine clb D5 (hc:=oZ h2 U h1 U Ab Ao) (hk:=?_);rintro _ _ E1 ⟨Ar,E,G,rfl,hr⟩;have B2:=E1.2;have hr:=hr.mono (lo':=L) (by have:=bz Ap;omega);refine I ?_;exact fs ⟨B2,⟨Ar,E,G,rfl,hr⟩⟩;refine sf ?_;intro _ _ CY B1;have⟨H,O,A0,E63⟩:=fE CY.2 H O A0 E63;obtain⟨Ar,E,G,C0,hr⟩:=(B1 6 40 Z Z);refine aa (b7 (vs:=[(0,.bool ny),(1,.slice Ar E G)]) (cells:=#[.bool ny,.slice Ar E G]) (pl:=[(0,1),(1,1)]) kH bH q0 (db Z (db C0 Z)) q0 ?_);refine SA A0 (λ_ Af CB=>?_);have⟨H,O⟩:=lw Af H O;have hr:=ac7 Af U hr;have E63:=bA Af E63;refine I ?_;refine ba (v:=.agg #[.bool ny,.slice Ar E G]) (cC  rfl ?_) E63 ⟨_,_,_,_,_,rfl,hr.mono U,by first|exact gg fM|exact iz fM Ab|exact iA fM Ab⟩;refine ak (t:=4) (cs:=[.bool ny,.slice Ar E G]) (b:=Ax.heap.size) (o:=0) kH Z ml ?_ ?_;exact Z;exact aa1 CB (i:=0) Z
def lA (a b:List UInt8)(w:World)(ha:isInt a=true)(hb:isInt b=true):
 CL 119 #[S a,S b] w (aH w λv w'=>∃A1 n1 c1 A2 n2 c2,v=.tuple #[.agg #[.bool (neg a),.slice A1 n1 c1],.agg #[.bool (neg b),.slice A2 n2 c2],.bool true]/\en w' w.heap.size A1 n1 c1 (aD (body a))/\en w' w.heap.size A2 n2 c2 (aD (body b))):=by
 refine aC func119 Z (I ?_);refine al bH (λAv Am H=>?_);have E:=Am.2;refine al bH (λ_ Aq G=>?_);have⟨H,E⟩:=bw Aq.2 H E;refine I ?_;refine cl we (iy a _) ?_;rintro _ _ Ao rfl;have⟨H,G,E⟩:=cD Ao.2 H G E;refine I ?_;refine cl we (iy b _) ?_;rintro _ _ Ar rfl;have⟨H,G,E⟩:=cD Ar.2 H G E;refine I ?_;refine cl Qw (zU _ _ ha) ?_;rintro _ _ Ap ⟨A1,n1,c1,rfl,h1⟩;have⟨H,G,E⟩:=cD Ap.2 H G E;refine I ?_;refine cl Qw (zU _ _ hb) ?_;rintro _ _ Af ⟨A2,n2,c2,rfl,h2⟩;have⟨H,G⟩:=gu Af.2 H G;have h1:=aa9 Af.2 h1;have E:=xt E Af.2;refine SA H (λ_ A0 Ab=>?_);have G:=pb A0 G;have h1:=ac7 A0 U h1;have h2:=ac7 A0 U h2;have E:=bA A0 E;refine SA G (λ_ O As=>?_);have Ab:=pb O Ab;have h1:=ac7 O U h1;have h2:=ac7 O U h2;have E:=bA O E;refine I ?_;refine ba (v:=.tuple #[.agg #[.bool (neg a),.slice A1 n1 c1],.agg #[.bool (neg b),.slice A2 n2 c2],.bool true]) (Na (r1:=.cell 4 161) (r2:=.cell 5 161) (r3:=.tmp 6) Z ?_ ?_ ?_) E ⟨_,_,_,_,_,_,rfl,h1.mono U,h2.mono U⟩;refine ak (t:=4) (cs:=[.bool (neg a),.slice A1 n1 c1]) (b:=w.heap.size) (o:=0) kH Z ml ?_ ?_;exact Z;exact aa1 Ab (i:=0) Z;refine ak (t:=5) (cs:=[.bool (neg b),.slice A2 n2 c2]) (b:=Av.heap.size) (o:=0) kH Z ml ?_ ?_;exact Z
 exact aa1 As (i:=0) Z;exact aL (t:=6) Wf _
def mV (a b:List UInt8)(w:World)(hno:(isInt a&&isInt b)=false):
 CL 119 #[S a,S b] w (aH w λv w'=>v=.tuple #[.agg #[.bool false,.slice none 0 0],.agg #[.bool false,.slice none 0 0],.bool false]):=by
 refine aC func119 Z (I ?_);refine al bH (λAb Aq H=>?_);have E:=Aq.2;refine al bH (λ_ nm G=>?_);have⟨H,E⟩:=bw nm.2 H E;refine I ?_;rcases qa4 (isInt a)with cw|cw;refine I ?_;refine cl we (iy a _) ?_;rintro _ _ Aw rfl;have⟨H,G,E⟩:=cD Aw.2 H G E;refine I ?_;refine cl we (iy b _) ?_;rintro _ _ Ax rfl;have⟨H,G,E⟩:=cD Ax.2 H G E;refine I ?_;rcases qa4 (isInt b)with np|np;exact absurd hno (by simp[*]);refine I ?_;refine SA H (λ_ Af A0=>?_);have G:=pb Af G;have E:=bA Af E;refine SA G (λ_ Am As=>?_);have A0:=pb Am A0;have E:=bA Am E;refine I ?_;refine ba (v:=.tuple #[.agg #[.bool false,.slice none 0 0],.agg #[.bool false,.slice none 0 0],.bool false]) (Na (r1:=.cell 4 161) (r2:=.cell 5 161) (r3:=.tmp 6) Z ?_ ?_ ?_) E Z;refine ak (t:=4) (cs:=[.bool false,.slice none 0 0]) (b:=w.heap.size) (o:=0) kH Z ml ?_ ?_;exact Z;exact aa1 A0 (i:=0) Z;refine ak (t:=5) (cs:=[.bool false,.slice none 0 0]) (b:=Ab.heap.size) (o:=0) kH Z ml ?_ ?_;exact Z;exact aa1 As (i:=0) Z
 exact aL (t:=6) Wf _;refine I ?_;refine cl we (iy a _) ?_;rintro _ _ Av rfl;have⟨H,G,E⟩:=cD Av.2 H G E;refine I ?_;refine SA H (λ_ Ap O=>?_);have G:=pb Ap G;have E:=bA Ap E;refine SA G (λ_ Ao Ar=>?_);have O:=pb Ao O;have E:=bA Ao E;refine I ?_;refine ba (v:=.tuple #[.agg #[.bool false,.slice none 0 0],.agg #[.bool false,.slice none 0 0],.bool false]) (Na (r1:=.cell 4 161) (r2:=.cell 5 161) (r3:=.tmp 6) Z ?_ ?_ ?_) E Z;refine ak (t:=4) (cs:=[.bool false,.slice none 0 0]) (b:=w.heap.size) (o:=0) kH Z ml ?_ ?_;exact Z;exact aa1 O (i:=0) Z;refine ak (t:=5) (cs:=[.bool false,.slice none 0 0]) (b:=Ab.heap.size) (o:=0) kH Z ml ?_ ?_;exact Z;exact aa1 Ar (i:=0) Z;exact aL (t:=6) Wf _
def iB (l:List UInt8)(w:World):
 CL 118 #[S l] w (aH w λv w'=>v=.bool (isInt l)):=by
 refine aC func118 Z (I ?_);refine cl we (iy l _) ?_;rintro _ _ E rfl;have G:=E.2;refine I ?_;exact am (t:=2) (v:=.bool (isInt l)) Z G Z Z
def cZ (h:p:=by assumption):p:=h
def o7 (w:World)(b:Nat)(l:List UInt8):Prop:=Lib.IsBuilderF 208 5 b b (Lib.byteCells l) w
def Jo {p:Value}{bs:List Value}(hk:∀(k:Nat) (c:Array Value) (t:TypeId) (fz:Nat×Nat),w.heap[k]?=some (Obj.cells c t fz)->w'.heap[k]?=w.heap[k]?)(h:Lib.BuilderAtF 208 5 b b p bs w):Lib.BuilderAtF 208 5 b b p bs w':=by
 obtain⟨hB,v,hb,⟨hl,hv|⟨g,cap,O,fz,rfl,H,G,r⟩⟩,E⟩:=h
 · exact⟨hB,v,(hk _ _ _ _ hb).trans hb,⟨hl,.inl hv⟩,E⟩
 · exact⟨hB,_,(hk _ _ _ _ hb).trans hb,⟨hl,.inr ⟨g,cap,O,fz,rfl,H,(hk _ _ _ _ G).trans G,r⟩⟩,E⟩
def o7.of (hk:∀(k:Nat) (c:Array Value) (t:TypeId) (fz:Nat×Nat),w.heap[k]?=some (Obj.cells c t fz)->w'.heap[k]?=w.heap[k]?)(h:o7 w b l):o7 w' b l:=
 h.elim (λx=>.inl (Jo hk x)) (λx=>.inr (Jo hk x))
def o7.ext (k:aN w w')(h:o7 w b l):o7 w' b l:=o7.of (h:=h) (λi _ _ _ hi=>k.block i (Array.getElem?_eq_some_iff.1 hi).1)
def o7.cel {row:Option Nat}{B:Nat}(hg:W.grownBy W' row)(hr:∀r,row=some r->B<=r/\∃o:Obj,W.heap[r]?=some o/\o.isCells=false)(h:o7 W b l):o7 W' b l:=
 o7.of (h:=h) (λi _ _ _ hi=>grownBy_keeps_cells hg (λr e=>(hr r e).2) hi Z)
def o7.start (h:ar w b 208 #[.pointer none,.slice none 0 0]):o7 w b []:=
 .inl ⟨qa0 _,_,h,World.ownsRowF_of bO,by simp[Value.ownBlock]⟩
def o7.cells (h:o7 w b l):∃(c:Array Value) (t:TypeId) (fz:Nat×Nat),w.heap[b]?=some (Obj.cells c t fz):=by
 rcases h with h|h <;>(obtain⟨_,v,hb,_⟩:=h;exact⟨_,_,_,hb⟩)
def o7.lt (h:o7 w b l):b<w.heap.size:=by
 obtain⟨_,_,_,hb⟩:=h.cells
 exact(Array.getElem?_eq_some_iff.1 hb).1
structure KB (b:Nat)(W W':World):Prop where
 oth:Lib.OthersKept 5 (some b) W W'
 low:Below b W W'
def KB.refl (b:Nat)(W:World):KB b W W:=⟨Lib.OthersKept.refl _ _ _,Below.refl _ _⟩
def KB.ext (hb:b<=A.heap.size)(h:KB b W A)(k:aN A B):KB b W B:=
 ⟨h.oth.trans (λi o hi _ _=>(k.block i (Array.getElem?_eq_some_iff.1 hi).1).trans hi),Below.trans h.low (Below.mono k hb)⟩
def KB.wr (h:KB b W A)(k:KB b A B):KB b W B:=⟨h.oth.trans k.oth,Below.trans h.low k.low⟩
def KB.others (h:KB b W W')(hb:o7 W b l):KeepsOthers W W':=by
 refine⟨h.low.size,λk o hk ho=>h.oth k o hk ?_ ?_⟩
 · intro e
   cases e
   obtain⟨c,t,E,hc⟩:=hb.cells
   rw[hc]at hk;cases hk;cases ho
 · intro c E e;subst e;cases ho
def KB.blk {c:Nat}(h:KB b W W')(hn:c≠b)(ht:t≠5)(hb:ar W c t cs):ar W' c t cs:=
 h.oth c _ hb (λe=>hn (by cases e;rfl)) (λ_ _ e=>ht (by cases e;rfl))
def KB.rw {A:Option Addr}{cs:List Value}(h:KB b W W')(hA:∀ad,A=some ad->ad.block<b)(hr:Rw W lo A cs):Rw W' lo A cs:=by
 refine⟨λj u hu=>?_,hr.lo,λad e=>qb1 (hr.hi ad e) h.low.size⟩
 obtain⟨c,o,e,hc⟩:=hr.cells j u hu
 exact⟨c,o,e,(World.cell?_of_block (h.low.block c (hA _ e))).trans hc⟩
def KB.dfr (h:KB b W W')(hb:o7 W b l)(hD:ll W D):ll W' D:=
 h.oth D _ hD (λe=>by
  cases e
  obtain⟨c,t,E,hc⟩:=hb.cells
  unfold ll at hD;rw[hc]at hD;cases hD) (λ_ _ e=>by cases e)
def zY (h:o7 w b l)(hl:l.length+s.length<=1000000):
 CL 169 #[pT b,S s] w (kv λv w'=>v=.tuple #[.int .i64 ((s.length:Nat):Int),.nilIface]/\o7 w' b (l++s)/\KB b w w'):=
 Ej (Any.Builder_WriteString_k {Tryz.lays105 with} Tryz.Builder_Extra_105 b b (Lib.byteCells l) ⟨s.toArray⟩ w h (by rw[Lib.byteCells_length,tX];omega) (Nat.le_of_lt h.lt)) (by
  rintro e w' ⟨rfl,h1,h2,h3⟩
  refine⟨_,rfl,by rw[tX],?_,h3,h2⟩
  have:Lib.byteCells (l++s)=Lib.byteCells l++Lib.strCells ⟨s.toArray⟩:=by simp[Lib.byteCells,Lib.strCells]
  unfold o7
  rw[this]
  exact .inr h1)
def GF (h:o7 w b l):
 CL 170 #[pT b] w (kv λv w'=>v=S l/\o7 w' b l/\KB b w w'):=
 Ej (Tryz.Builder_String_any_k b b l w h (Nat.le_of_lt h.lt)) (by
  rintro e w' ⟨rfl,h1,h2,h3⟩
  exact⟨_,rfl,rfl,h1,h3,h2⟩)
def P4 (g:Nat):List Nat:=au 10 g++List.replicate (4-(au 10 g).length) 0
def D4:List Nat->List Nat
 |[]=>[]
 |[g]=>au 10 g
 |g::rest=>P4 g++D4 rest
def Jp (g g2:Nat)(r:List Nat):D4 (g::g2::r)=P4 g++D4 (g2::r):=rfl
def TB (g:Nat){r:List Nat}(h:r≠[]):D4 (g::r)=P4 g++D4 r:=by
 cases r with
 |nil=>exact absurd Z h
 |cons a b=>rfl
def W6 (h:g<10000):(au 10 g).length<=4:=(bi 10 U g 4).2 h
def xS (h:g<10000):(P4 g).length=4:=by have:=W6 h;simp[P4];omega
def ww:∀k,bS 10 (List.replicate k 0)=0
 |0=>rfl
 |k+1=>by simp[List.replicate_succ,bS,ww k]
def TC (g:Nat):bS 10 (P4 g)=g:=by rw[P4,cj,ww,cJ 10 U];simp
def W7 (g:Nat):∀d∈P4 g,d<10:=by
 intro d hd
 rcases List.mem_append.1 hd with h|h
 · exact eM 10 U g d h
 · rw[(List.mem_replicate.1 h).2];omega
def QZ:∀X:List Nat,∀d∈D4 X,d<10
 |[],d,h=>by simp[D4]at h
 |[g],d,h=>eM 10 U g d h
 | g::g2::r,d,h=>by
   rw[Jp]at h
   rcases List.mem_append.1 h with h|h
   · exact W7 g d h
   · exact QZ (g2::r) d h
def Jq:∀X:List Nat,(∀g∈X,g<10000)->bS 10 (D4 X)=bS 10000 X
 |[],_=>rfl
 |[g],_=>by simp[D4,bS,cJ 10 (show 2<=10 by omega)]
 | g::g2::r,h=>by
   rw[Jp,cj,TC,xS (h g zd),Jq (g2::r) (λx hx=>h x (by simp at hx ⊢;right;exact hx))]
   simp[bS]
def EB:∀X:List Nat,X≠[]->X.getLast?≠some 0->(∀g∈X,g<10000)->(D4 X)≠[]/\(D4 X).getLast?≠some 0
 |[],h,_,_=>absurd Z h
 | [g],_,h,_=>by
   have hg:g≠0:=by intro e;subst e;simp at h
   exact⟨oe hg,j6 10 U g⟩
 | g::g2::r,_,h,hl=>by
   have E:=EB (g2::r) zd ka5 (λx hx=>hl x (by simp at hx ⊢;right;exact hx))
   rw[Jp]
   refine⟨by simp[E.1],?_⟩
   rw[List.getLast?_append]
   cases hq:(D4 (g2::r)).getLast? with
   |none=>exact absurd (List.getLast?_eq_none_iff.1 hq) E.1
   |some y=>simpa[hq]using E.2
def TD (a:Nat):D4 (au 10000 a)=au 10 a:=by
 by_cases h0:au 10000 a=[]
 · have:a=0:=jw (B:=10000) U (by rw[h0];rfl)
   subst this;rfl
 · have hlt:=eM 10000 U a
   have h1:=EB (au 10000 a) h0 (j6 10000 U a) hlt
   have h2:Canon 10 (D4 (au 10000 a)):=⟨QZ _,h1.2⟩
   rw[mu U h2,Jq _ hlt,cJ 10000 U]
def o8 (a b:List Nat):cQ (a++b)=cQ b++cQ a:=by simp[cQ]
def jk (u:Nat):Lib.decDigits u=bC u:=by
 induction u using Nat.strongRecOn with
 | _ u ih=>
   by_cases h:u<10
   · rw[Lib.decDigits_one h]
     unfold bC
     split
     · next h0=>subst h0;rfl
     · next h0=>
       rw[qr 10 u U U,show u/10=0 by omega,gy,Nat.mod_eq_of_lt h];rfl
   · rw[Lib.decDigits,dif_neg h,ih (u/10) U]
     unfold bC
     rw[if_neg U,if_neg U]
     conv=>rhs;rw[qr 10 u U U]
     simp[cQ]
def zZ (g:Nat):Lib.itoa (g:Int)=bC g:=by
 rw[Lib.itoa,if_neg U,Int.toNat_natCast,jk]
def wx (h:g<10000):0<(bC g).length/\(bC g).length<=4:=by
 unfold bC;split
 · simp
 · next h0=>
   rw[cN]
   exact⟨List.length_pos_iff.2 (oe h0),W6 h⟩
def z6 (k:Nat):Lib.repeatL [48] k=cQ (List.replicate k 0):=by
 induction k with
 |zero=>rfl
 |succ k ih=>rw[Lib.repeatL,ih,List.replicate_succ'];simp[cQ]
def N4 (h:g<10000):Lib.repeatL [48] (4-(bC g).length)++bC g=cQ (P4 g):=by
 by_cases h0:g=0
 · subst h0;rfl
 · have e:bC g=cQ (au 10 g):=by unfold bC;rw[if_neg h0]
   rw[e,cN,P4,o8,z6]
def drop_at {x:Nat}(h:x<X.length):X.drop x=X.getD x 0::X.drop (x+1):=by
 rw[List.drop_eq_getElem_cons h];simp[h]
def GG {x k:Nat}(hn:X.length=n)(hx:x<n)(hk:x+1=k)(hlt:∀g∈X,g<10000)(h0:X.getLast?≠some 0):
 cQ (D4 (X.drop k))++(if x+1<n then Lib.repeatL [48] (4-(bC (X.getD x 0)).length)++bC (X.getD x 0)else bC (X.getD x 0))=cQ (D4 (X.drop x)):=by
 subst hk
 have G:X.getD x 0<10000:=getD_lt hlt x
 have O:X.drop x=X.getD x 0::X.drop (x+1):=drop_at U
 rw[O]
 by_cases hc:x+1<n
 · rw[if_pos hc,N4 G]
   have:X.drop (x+1)=X.getD (x+1) 0::X.drop (x+1+1):=drop_at U
   rw[TB _ (by rw[this];simp),o8]
 · rw[if_neg hc]
   have A0:X.drop (x+1)=[]:=List.drop_eq_nil_of_le U
   rw[A0]
   have H:X.getD x 0≠0:=by
    intro e
    apply h0
    rw[List.getLast?_eq_getElem?,show X.length-1=x by omega]
    have E:X[x]?=some X[x]:=qa5 U
    rw[List.getD,E]at e
    rw[E];exact qb2 some e
   simp only[D4]
   unfold bC
   rw[if_neg H]
   simp[cQ]
def rS (o:Option (List UInt8)):List UInt8:=o.getD []
def rE (o:Option (List UInt8)):Int:=if o.isSome then 0 else 30
def iC (o:Option (List UInt8)):Value:=.tuple #[S (rS o),.int .i64 (rE o)]
def jQ (ng:Bool)(a:Nat):(bR ng a).natAbs=a:=by unfold bR;split <;>simp
def EC (ng:Bool)(h:0<a):(bR ng a<0)↔ng=true:=by
 unfold bR;cases ng <;>simp;omega
def qL (ng:Bool)(h:0<a):ae (bR ng a)=if ng then 45::bC a else bC a:=by
 unfold ae
 rw[jQ]
 by_cases hn:ng=true
 · rw[if_pos ((EC ng h).2 hn),if_pos hn]
 · rw[if_neg (λhc=>hn ((EC ng h).1 hc)),if_neg hn]
def o9 (ng:Bool)(h:0<a):fits (bR ng a)=decide ((bC a).length<=200):=by
 unfold fits
 rw[jQ]
 unfold bC
 rw[if_neg U,cN,decide_eq_decide]
 exact(bi 10 U a 200).symm
def pc (ng:Bool):Value.tuple #[S [48],.int .i64 0]=iC (bj (bR ng 0)):=by cases ng <;>rfl
def sB (ng:Bool)(h:0<a)(hl:(200:Int)<(((bC a).length:Nat):Int)):Value.tuple #[S [],.int .i64 30]=iC (bj (bR ng a)):=by
 unfold bj
 rw[o9 ng h,decide_eq_false U];rfl
def sD (h:0<a)(hl:¬(200:Int)<(((bC a).length:Nat):Int))(hn:ng=true):Value.tuple #[S ([45]++bC a),.int .i64 0]=iC (bj (bR ng a)):=by
 unfold bj
 rw[o9 ng h,decide_eq_true U,if_pos Z,qL ng h,if_pos hn];rfl
def sE (h:0<a)(hl:¬(200:Int)<(((bC a).length:Nat):Int))(hn:ng=false):Value.tuple #[S (bC a),.int .i64 0]=iC (bj (bR ng a)):=by
 unfold bj
 rw[o9 ng h,decide_eq_true U,if_pos Z,qL ng h,if_neg (by simp[hn])];rfl
def Q1 (X:List Nat)(n i:Nat):List UInt8:=if i+1<n then Lib.repeatL [48] (4-(bC (X.getD i 0)).length)++bC (X.getD i 0)else bC (X.getD i 0)
def tx (X:List Nat)(n:Nat)(pre:List Nat):List UInt8:=pre.flatMap (Q1 X n)
def ED (X:List Nat)(n:Nat)(pre:List Nat)(x:Nat):tx X n (pre++[x])=tx X n pre++Q1 X n x:=by simp[tx]
def N5 (h:i+1<n):Q1 X n i=Lib.repeatL [48] (4-(bC (X.getD i 0)).length)++bC (X.getD i 0):=if_pos h
def N6 (h:¬i+1<n):Q1 X n i=bC (X.getD i 0):=if_neg h
def N7 (hX:∀g∈X,g<10000)(n i:Nat):(Q1 X n i).length<=4:=by
 have h1:=getD_lt hX i
 have h2:=wx h1
 unfold Q1;split
 · rw[N4 h1,cN,xS h1];omega
 · exact h2.2
def Jr {X:List Nat}(hX:∀g∈X,g<10000)(n:Nat):∀pre:List Nat,(tx X n pre).length<=4*pre.length
 |[]=>by simp[tx]
 | i::l=>by
   have ih:=Jr hX n l
   have:=N7 hX n i
   simp only[tx,List.flatMap_cons,List.length_append,List.length_cons]at ih ⊢
   omega
def Js {X:List Nat}{n:Nat}(hn:X.length=n)(hlt:∀g∈X,g<10000)(h0:X.getLast?≠some 0):∀j,j<=n->cQ (D4 (X.drop j))++tx X n (List.range j).reverse=cQ (D4 X)
 |0,_=>by simp[tx]
 | j+1,h=>by
   have e:(List.range (j+1)).reverse=j::(List.range j).reverse:=by simp[List.range_succ]
   rw[e]
   show _++(Q1 X n j++tx X n _)=_
   rw[<-List.append_assoc]
   have:=GG (X:=X) (x:=j) (n:=n) (k:=j+1) hn U Z hlt h0
   unfold Q1
   rw[this]
   exact Js hn hlt h0 j U
def TE (hn:(au 10000 a).length=n)(h0:0<a):tx (au 10000 a) n (List.range n).reverse=bC a:=by
 have h:=Js hn (eM 10000 U a) (j6 10000 U a) n (qa0 _)
 rw[List.drop_eq_nil_of_le U,TD]at h
 have h2:cQ (D4 [])=[]:=rfl
 rw[h2,List.nil_append]at h
 rw[h];unfold bC;rw[if_neg U]
set_option maxRecDepth 100000 in
def fO (h1:en w lo1 A1 n1 c1 a)(s1:n1<=9000)(ht:Tb w):
 CL 124 #[.agg #[.bool ng,.slice A1 n1 c1]] w (aH w λv w'=>v=iC (bj (bR ng a))):=by
 have B2:=h1.hi;refine rt func124 Z (I ?_);refine bx (λAo D1 H=>?_);have A0:=D1.2;refine I ?_;by_cases lq:(n1:Int)=0;have Aq:a=0:=jw (B:=10000) U (h1.len.trans U);refine I ?_;refine xC (v:=.tuple #[S [48],.int .i64 0]) (de (r1:=.tmp 2) (r2:=.tmp 3) Z ?_ ?_) A0 RW;exact aL (t:=2) Wf _;exact aL (t:=3) Wf _;have O:0<a:=mD (B:=10000) U kb4;refine I ?_;refine al RS (λB0 CY Ay=>?_);have⟨H,A0⟩:=bw CY.2 H A0;refine I ?_;refine cl D7 (kb (A:=A1) (n:=n1) (c:=c1)) ?_;rintro _ C0 Cr ⟨rfl,CB⟩;have⟨H,Ay,A0⟩:=cD Cr.2 H Ay A0;refine I ?_;have G:=o7.start Ay
 refine so (m:=n1) (enc:=λx=>[.int .i64 x,.int .i64 (((au 10000 a).getD x 0:Nat):Int)]) (order:=(List.range n1).reverse) (Kq:=λW=>ar W B0.heap.size 159 #[.slice A1 n1 c1]/\Rw W lo1 A1 (ints (au 10000 a))) (gf:=207) (lb:=[pT B0.heap.size]) (ps:=[16,17]) Z D9 (iN CB (h1.row.ext A0) h1.len U) (λW W' row hq Ab hr=>⟨ad6 Ab hr hq.1,Rw.cel Ab hr hq.2⟩) (λ_=>rfl) [5,6] (λx=>[.int .i64 x,.int .i64 (((au 10000 a).getD x 0:Nat):Int)]) ?asn (λpre W=>(C0.heap.size<=W.heap.size)/\(aN w W)/\(ar W w.heap.size 161 #[.bool ng,.slice A1 n1 c1])/\(o7 W Ao.heap.size (tx (au 10000 a) n1 pre))) (λ_ _ _=>False) ?hI ?hIx ?h0 ?body ?done ?stop;case asn=>
  intro l x W K hK;refine I ?_;exact hK
 case hI=>
  rintro pre W W' row ⟨Aw,E,H,G⟩ Ab hr;exact⟨qa8 Aw Ab.size,oT (B:=C0.heap.size) U Ab hr (bz E) E,ad6 Ab hr H,o7.cel Ab hr G⟩
 case hIx=>
  exact λ_ _ _ _ _ h=>h.elim
 case h0=>
  exact⟨qa0 _,A0,H,G⟩
 case body=>
  rintro l pre x W ⟨Aw,E,H,G⟩ E4 hx D2;have Kp:=KB.refl Ao.heap.size W;have zW:=bz E;have Af:=getD_lt h1.lt x;have E1:=wx Af;have B1:=G;have hbW:=G.lt;have hDl:=Jr h1.lt n1 pre;refine I ?_;refine clb Ik (hc:=xQ _ _ U U (ht.ext E)) (hk:=?_);rintro _ _ Ap rfl;have H:=be Ap.2 H;have G:=o7.ext Ap.2 G;have E:=xt E Ap.2;have Kp:=KB.ext U Kp Ap.2;rw[zZ];refine I ?_;refine qF (I ?_);by_cases nm:(x:Int)<((n1:Int)-1);refine I ?_;refine aa (dz (l:=bC ((au 10000 a).getD x 0)) U9 Z ?_);refine aa (jq (a:=4) (b:=(((bC ((au 10000 a).getD x 0)).length:Nat):Int)) (c:=((4-(bC ((au 10000 a).getD x 0)).length:Nat):Int)) Z Z j0 U ?_);refine clb Il (hc:=qK [48] (4-(bC ((au 10000 a).getD x 0)).length) _ U zd) (hk:=?_);rintro _ _ Av rfl;have H:=be Av.2 H;have G:=o7.ext Av.2 G;have E:=xt E Av.2;have Kp:=KB.ext U Kp Av.2;refine I ?_;refine aa (xh (a:=Lib.repeatL [48] (4-(bC ((au 10000 a).getD x 0)).length)) (b:=bC ((au 10000 a).getD x 0)) Z Z (by rw[<-List.length_append,N4 Af,cN,xS Af];omega) ?_);refine I ?_;have CG:((Lib.repeatL [48] (4-(bC ((au 10000 a).getD x 0)).length))++(bC ((au 10000 a).getD x 0))).length<=8:=by rw[N4 Af,cN,xS Af];omega
  refine aa (bK (vs:=[pT Ao.heap.size,S ((Lib.repeatL [48] (4-(bC ((au 10000 a).getD x 0)).length))++(bC ((au 10000 a).getD x 0)))]) Qx Z (zY G U) ?_);rintro _ _ ⟨rfl,Am,Ar⟩;have H:=KB.blk Ar U dc H;have E:=Below.trans E (Below.mono Ar.low U);have E5:=Ar.low.size;have Kp:=KB.wr Kp Ar;have G:=Am;refine I ?_;exact⟨Kp.others B1,λhq=>⟨Kp.blk U dc hq.1,Kp.rw (λAz e=>by have:=B2 Az e;omega) hq.2⟩,⟨U,E,H,(by rw[ED,N5 U];exact G)⟩⟩;refine I ?_;have CG:(bC ((au 10000 a).getD x 0)).length<=8:=J
  refine aa (bK (vs:=[pT Ao.heap.size,S (bC ((au 10000 a).getD x 0))]) Qx Z (zY G U) ?_);rintro _ _ ⟨rfl,Am,As⟩;have H:=KB.blk As U dc H;have E:=Below.trans E (Below.mono As.low U);have E0:=As.low.size;have Kp:=KB.wr Kp As;have G:=Am;refine I ?_;exact⟨Kp.others B1,λhq=>⟨Kp.blk U dc hq.1,Kp.rw (λAz e=>by have:=B2 Az e;omega) hq.2⟩,⟨U,E,H,(by rw[ED,N6 U];exact G)⟩⟩
 case stop=>
  exact λ_ _ _ _ _ _ h _=>h.elim
 case done=>
  rintro D W hD ⟨Aw,E,H,G⟩ hK;have zW:=bz E;refine I ?_;rw[TE h1.len O]at G;refine aa (bK (vs:=[pT Ao.heap.size]) V8 Z (GF G) ?_);rintro _ _ ⟨rfl,Am,Ax⟩;have H:=KB.blk Ax U dc H;have hK:=KB.dfr Ax G hK;have E:=Below.trans E (Below.mono Ax.low U);have G:=Am;refine I ?_;refine aa (dz (l:=bC a) U9 Z ?_);refine I ?_;by_cases np:200<(((bC a).length:Nat):Int);refine I ?_;refine jM (v:=.tuple #[S [],.int .i64 30]) hK (de (r1:=.tmp 2) (r2:=.tmp 3) Z ?_ ?_) ((dK _).low E U) RW;exact aL (t:=2) Wf _;exact aL (t:=3) Wf _;refine I ?_;rcases qa4 ng with lp|lp;refine I ?_;refine aa (xh (a:=[45]) (b:=bC a) Z Z q4 ?_);refine I ?_;refine jM (v:=.tuple #[S (([45])++(bC a)),.int .i64 0]) hK (de (r1:=.tmp 2) (r2:=.tmp 3) Z ?_ ?_) ((dK _).low E U) RW;exact aL (t:=2) Wf _;exact aL (t:=3) Wf _
  refine I ?_;refine jM (v:=.tuple #[S (bC a),.int .i64 0]) hK (de (r1:=.tmp 2) (r2:=.tmp 3) Z ?_ ?_) ((dK _).low E U) RW;exact aL (t:=2) Wf _;exact aL (t:=3) Wf _
end
end Go.Proofs.YtlmihmlnpjkblaaGreatDoor
