/- Part of the proof of a statement about an adjustment. -/
import Derived.Test.YtlmihmlnpjkblaaGreatDoorAj23ToEnc2L
set_option linter.all false
namespace Go.Proofs.YtlmihmlnpjkblaaGreatDoor
variable {a b t c d la ha hb f T lb0 er f1 c1 f2 c2:Int}{l l1 m1 l2 m2 l3 m3 l4 m4:List UInt8}{lb:List Value}{pl b1 b2 n sO k g C CY CB:Nat}{A Y B:Option Addr}{w W:World}
section
set_option maxRecDepth 100000
open Go Go.Eng Go.RowKit Proofs.Tryz
attribute [local irreducible] wpListIn Code.wpIn Oper.wpIn Exit.then Exit.inBlock Exit.noGoto
set_option maxHeartbeats 40000000
def yT (a b t:Int):Int:=a*t/b
def yX (a b t:Int):Int:=if a*t%b=0 then a*t/b else a*t/b+1
def sZ (hb:0<b):k8 a b*t/df a b=a*t/b/\(k8 a b*t%df a b=0↔a*t%b=0):=by
 have h1:=AV (n:=a) hb
 have h2:=yB (n:=a) hb
 have E:=lJ (n:=a) hb
 generalize k8 a b=p at *
 generalize df a b=q at *
 generalize ((Int.gcd a b:Nat):Int)=g at *
 subst h1 h2
 rw[show p*g*t=p*t*g by grind]
 refine⟨(Int.mul_ediv_mul_of_pos_left _ _ E).symm,?_⟩
 rw[Int.mul_comm (p*t) g,Int.mul_comm q g,Int.mul_emod_mul_of_pos _ _ E]
 constructor
 · intro h;rw[h,Int.mul_zero]
 · intro h;rcases Int.mul_eq_zero.1 h with h|h;omega;exact h
def Yn (hb:0<b):u3 (k8 a b) (df a b) t false=yT a b t:=by
 unfold u3 yT;rw[if_neg (λe=>absurd e.1 dc),(sZ hb).1]
def Yo (hb:0<b):u3 (k8 a b) (df a b) t true=yX a b t:=by
 unfold u3 yX
 rw[(sZ hb).1]
 by_cases h:a*t%b=0
 · rw[if_pos h,if_neg (λe=>e.2 (dJ.2 ((sZ hb).2.2 h)))]
 · rw[if_neg h,if_pos ⟨rfl,λe=>h ((sZ hb).2.1 (dJ.1 e))⟩]
def aJ (pl:Nat):Int:=((10^pl:Nat):Int)
def lM (pl:Nat):0<aJ pl:=by unfold aJ;have:=Nat.pow_pos (n:=pl) (show 0<10 by decide);omega
def Vi (h:pl<=30):aJ pl<=10^30:=by
 unfold aJ
 have h1:(10:Nat)^pl<=10^30:=Nat.pow_le_pow_right dc h
 have h2:(((10:Nat)^30:Nat):Int)=(10:Int)^30:=by decide
 omega
def Bt (h:Q9 a b)(hp:pl<=30):(k8 a b*aJ pl).natAbs<10^199:=by
 have h1:=h.red.1
 have h2:(aJ pl).natAbs<=10^30:=by have:=Vi hp;have:=lM pl;omega
 rw[Int.natAbs_mul]
 have h3:(k8 a b).natAbs*(aJ pl).natAbs<=10^90*10^30:=qb9 U h2
 have h4:10^90*10^30<10^199:=by decide
 omega
def vn {m:List UInt8}(e:(l,m)=qR a b)(h:Q9 a b)(hp:pl<=30)(ht:Tb w):CL 100 #[.agg #[S l,S m],.int .i64 pl] w (aG w λv _=>v=Qv (yT a b (aJ pl)) (aJ pl)):=by
 rw[show l=(qR a b).1 from congrArg Prod.fst e,show m=(qR a b).2 from congrArg Prod.snd e]
 exact nc (LF h.ok (AW h.2.1 h.fz.1) (AX h.2.1 h.fz.2) hp (Bt h hp) ht) (qb2 (λz=>Qv z (aJ pl)) (Yn h.2.1))
def DC {m:List UInt8}(e:(l,m)=qR a b)(h:Q9 a b)(hp:pl<=30)(ht:Tb w):CL 101 #[.agg #[S l,S m],.int .i64 pl] w (aG w λv _=>v=Qv (yX a b (aJ pl)) (aJ pl)):=by
 rw[show l=(qR a b).1 from congrArg Prod.fst e,show m=(qR a b).2 from congrArg Prod.snd e]
 exact nc (UL h.ok (AW h.2.1 h.fz.1) (AX h.2.1 h.fz.2) hp (Bt h hp) ht) (qb2 (λz=>Qv z (aJ pl)) (Yo h.2.1))
def HC {x:R×R}(e1:x.1=qR a b)(e2:x.2=qR c d)(q1:Q9 a b)(q2:Q9 c d)(hb1:ap w b1 144 #[S x.1.1,S x.1.2,S x.2.1,S x.2.2])(hb2:ap w b2 3 #[.int .i64 pl])(hp:pl<=30)(ht:Tb w):
 CL 230 #[pT b1,pT b2] w (aG w λv w'=>v=IV (yT a b (aJ pl)) (aJ pl) (yX c d (aJ pl)) (aJ pl)):=by
 have Aw:=bt hb1;have Av:=bt hb2;refine aC func230 Z (I ?_);refine al dQ (λ_ O G=>?_);have⟨hb1,hb2⟩:=dZ O.2 hb1 hb2;have E:=O.2;refine I ?_;refine bL 13 ?_;refine sf ?_;refine aR (V:=.tuple #[QV (yT a b (aJ pl)) (aJ pl),.int .i64 0]) (λ_ _ Ab _=>?_) ?_;refine cl BM (vn e1 q1 hp (ht.ext (xt E Ab))) ?_;rintro _ _ A0 rfl;have Am:=A0.2;refine I ?_;exact fs ⟨Am,rfl⟩;refine sf ?_;refine aR (V:=QV (yT a b (aJ pl)) (aJ pl)) (λ_ _ _ _=>?_) ?_;refine cl BL yS ?_;rintro _ _ Af rfl;have A2:=Af.2;refine I ?_;exact fs ⟨A2,rfl⟩;refine sf ?_;refine aR (V:=.tuple #[QV (yX c d (aJ pl)) (aJ pl),.int .i64 0]) (λ_ _ Ao _=>?_) ?_;refine cl BN (DC e2 q2 hp (ht.ext (xt E Ao))) ?_;rintro _ _ Ar rfl;have A1:=Ar.2;refine I ?_;exact fs ⟨A1,rfl⟩;refine sf ?_;intro _ _ As _;have⟨hb1,hb2,G,E⟩:=fo As.2 hb1 hb2 G E;refine cl BL yS ?_;rintro _ _ Ap rfl;have⟨hb1,hb2,G,E⟩:=fo Ap.2 hb1 hb2 G E;refine aa (bU (vs:=[(0,QV (yT a b (aJ pl)) (aJ pl)),(1,QV (yX c d (aJ pl)) (aJ pl))]) (cells:=#[S ((qR (yT a b (aJ pl)) (aJ pl)).1),S ((qR (yT a b (aJ pl)) (aJ pl)).2),S ((qR (yX c d (aJ pl)) (aJ pl)).1),S ((qR (yX c d (aJ pl)) (aJ pl)).2)]) (pl:=[(0,2),(2,2)]) fA dQ q0 Z q0 ?_);refine SA G (λ_ H Aq=>?_)
 have⟨hb1,hb2⟩:=jU H hb1 hb2;have E:=bi H E;refine I ?_;refine aX (v:=IV (yT a b (aJ pl)) (aJ pl) (yX c d (aJ pl)) (aJ pl)) (bY  rfl ?_) E Z;refine ak (t:=2) (cs:=[S ((qR (yT a b (aJ pl)) (aJ pl)).1),S ((qR (yT a b (aJ pl)) (aJ pl)).2),S ((qR (yX c d (aJ pl)) (aJ pl)).1),S ((qR (yX c d (aJ pl)) (aJ pl)).2)]) (b:=w.heap.size) (o:=0) fA Z dY ?_ ?_;exact Z;exact aa0 Aq (i:=0) Z
def vq {x:R×R}(e1:x.1=qR a b)(e2:x.2=qR c d)(q1:Q9 a b)(q2:Q9 c d)(hle:a*d<=c*b)(hp:pl<=30)(ht:Tb w):
 CL 200 #[.agg #[S x.1.1,S x.1.2,S x.2.1,S x.2.2],.int .i64 pl] w (aG w λv w'=>v=.tuple #[IV (yT a b (aJ pl)) (aJ pl) (yX c d (aJ pl)) (aJ pl),.int .i64 0]):=by
 refine aC func200 Z (I ?_);refine bx (λAf A1 G=>?_);have E:=A1.2;refine bx (λAm Ap H=>?_);have⟨G,E⟩:=bn Ap.2 G E;refine al dQ (λ_ Ar O=>?_);have⟨G,H,E⟩:=cj Ar.2 G H E;refine I ?_;refine aa (aD (vf:=[]) (vc:=[pT w.heap.size,pT Af.heap.size]) Z Z ?_);refine aa (aP (cs:=[S x.1.1,S x.1.2,S x.2.1,S x.2.2]) (b:=w.heap.size) (o:=0) fA Z dY Z (aa0 G (i:=0) Z) ?_);refine BS (λ_ A2 _ Ao=>?_);have⟨G,H,O,E⟩:=fo A2 G H O E;refine clb Se (hc:=Br (l:=[x]) (x:=(qR (yT a b (aJ pl)) (aJ pl),qR (yX c d (aJ pl)) (aJ pl))) Sk (aa8 Ao) Z Wf (λy hy=>by rw[List.mem_singleton.1 hy];exact⟨a,b,c,d,e1,e2,q1,q2,hle⟩) (λW e=>HC e1 e2 q1 q2 (G.ext e) (H.ext e) hp ((ht.ext E).ext e)) (ht.ext E)) (hk:=?_);rintro _ _ Ab rfl;have⟨G,H,O,E⟩:=fo Ab.2 G H O E;refine I ?_;refine SA O (λ_ A0 Aq=>?_);have⟨G,H⟩:=jU A0 G H;have E:=bi A0 E;refine I ?_;refine aX (v:=.tuple #[IV (yT a b (aJ pl)) (aJ pl) (yX c d (aJ pl)) (aJ pl),.int .i64 0]) (cO (r1:=.cell 4 144) (r2:=.tmp 5) Z ?_ ?_) E Z;refine ak (t:=4) (cs:=[S ((qR (yT a b (aJ pl)) (aJ pl)).1),S ((qR (yT a b (aJ pl)) (aJ pl)).2),S ((qR (yX c d (aJ pl)) (aJ pl)).1),S ((qR (yX c d (aJ pl)) (aJ pl)).2)]) (b:=Am.heap.size) (o:=0) fA Z dY ?_ ?_
 exact Z;exact aa0 Aq (i:=0) Z;exact aL (t:=5) GS _
def HD {x:R×R}(e1:x.1=qR a b)(e2:x.2=qR c d)(q1:Q9 a b)(q2:Q9 c d)(hb1:ap w b1 144 #[S x.1.1,S x.1.2,S x.2.1,S x.2.2])(ht:Tb w):
 CL 233 #[pT b1] w (aG w λv w'=>v=QV (c*b-a*d) (d*b)):=by
 have Ab:=bt hb1;refine aC func233 Z (I ?_);refine al aS (λ_ H G=>?_);have hb1:=be H.2 hb1;have E:=H.2;refine I ?_;refine cl DV (Yk e2 e1 q2 q1 (ht.ext E)) ?_;rintro _ _ A2 rfl;have⟨hb1,G,E⟩:=cj A2.2 hb1 G E;refine I ?_;refine cl BL yS ?_;rintro _ _ A0 rfl;have⟨hb1,G,E⟩:=cj A0.2 hb1 G E;refine SA G (λ_ O A1=>?_);have hb1:=pb O hb1;have E:=bi O E;refine I ?_;refine aX (v:=QV (c*b-a*d) (d*b)) (bY  rfl ?_) E Z;refine ak (t:=1) (cs:=[S ((qR (c*b-a*d) (d*b)).1),S ((qR (c*b-a*d) (d*b)).2)]) (b:=w.heap.size) (o:=0) iK Z bX ?_ ?_;exact Z;exact aa0 A1 (i:=0) Z
def vt {x:R×R}(e1:x.1=qR a b)(e2:x.2=qR c d)(q1:Q9 a b)(q2:Q9 c d)(hle:a*d<=c*b)(ht:Tb w):
 CL 203 #[.agg #[S x.1.1,S x.1.2,S x.2.1,S x.2.2]] w (aG w λv w'=>v=.tuple #[QV (c*b-a*d) (d*b),.int .i64 0]):=by
 refine aC func203 Z (I ?_);refine bx (λA2 A1 G=>?_);have E:=A1.2;refine al aS (λ_ Ao H=>?_);have⟨G,E⟩:=bn Ao.2 G E;refine I ?_;refine aa (aD (vf:=[]) (vc:=[pT w.heap.size]) Z Z ?_);refine aa (aP (cs:=[S x.1.1,S x.1.2,S x.2.1,S x.2.2]) (b:=w.heap.size) (o:=0) fA Z dY Z (aa0 G (i:=0) Z) ?_);refine BS (λ_ A0 _ Ab=>?_);have⟨G,H,E⟩:=cj A0 G H E;refine clb Sl (hc:=Bs (l:=[x]) (x:=qR (c*b-a*d) (d*b)) Sm (aa8 Ab) Z Wf (λy hy=>by rw[List.mem_singleton.1 hy];exact⟨a,b,c,d,e1,e2,q1,q2,hle⟩) (λW e=>HD e1 e2 q1 q2 (G.ext e) ((ht.ext E).ext e)) (ht.ext E)) (hk:=?_);rintro _ _ Am rfl;have⟨G,H,E⟩:=cj Am.2 G H E;refine I ?_;refine SA H (λ_ O Af=>?_);have G:=pb O G;have E:=bi O E;refine I ?_;refine aX (v:=.tuple #[QV (c*b-a*d) (d*b),.int .i64 0]) (cO (r1:=.cell 2 33) (r2:=.tmp 3) Z ?_ ?_) E Z;refine ak (t:=2) (cs:=[S ((qR (c*b-a*d) (d*b)).1),S ((qR (c*b-a*d) (d*b)).2)]) (b:=A2.heap.size) (o:=0) iK Z bX ?_ ?_;exact Z;exact aa0 Af (i:=0) Z;exact aL (t:=3) GS _
def yP (S n d:Nat):N2:=lF (p7 S n d) 1 2
def yU (S:Nat)(y:N2):Nat->N2->N2->Option (N2×N2)
 |0,u,b=>some (u,b)
 |1,u,b=>if yo b=true then some (u,lF b 1 2)else none
 |a+2,u,b=>if yo u=true/\yo b=true then yU S y a (na S u y) (lF b (a+2) 2)else none
def MN (S pl:Nat)(y:N2)(fr:Nat)(s e:N2):Option (N2×N2):=
 if fr%2=1 then(if yo s=true then(mK S y).bind λu=>(mK S (vA pl,vA pl+1)).bind λc=>if yo u=true/\yo c=true then some (na S s u,na S e c)else none else none)else some (s,e)
def Yp (S pl n d fr:Nat):Option (Int×Int):=
 if n<10^90/\d<10^90/\0<d/\yo (p7 S n d)=true/\yo (yP S n d)=true then
  (yp (Uy S (yP S n d) fr) (1*S,1*S)).bind λs=>(yq S (yP S n d)).bind λe=>(MN S pl (yP S n d) fr s e).bind λp=>(yU S (yP S n d) fr p.1 p.2).bind λq=>
  if yo q.1=true/\yo q.2=true/\0<q.2.1/\0<q.2.2 then some (Bv (1*S,1*S) (vL S q.1 q.2))else none
 else none
def Qp {S d fr:Nat}{r:Int×Int}(h:Yp S pl n d fr=some r):n<10^90/\d<10^90/\0<d/\Bk 95 (p7 S n d)/\Bk 95 (yP S n d)/\∃s e p q,
 yp (Uy S (yP S n d) fr) (1*S,1*S)=some s/\yq S (yP S n d)=some e/\MN S pl (yP S n d) fr s e=some p/\yU S (yP S n d) fr p.1 p.2=some q/\Bk 95 q.1/\Bk 95 q.2/\0<q.2.1/\0<q.2.2/\r=Bv (1*S,1*S) (vL S q.1 q.2):=by
 unfold Yp at h
 split at h
 · rename_i h1
   refine⟨h1.1,h1.2.1,h1.2.2.1,fL h1.2.2.2.1,fL h1.2.2.2.2,?_⟩
   cases hs:yp (Uy S (yP S n d) fr) (1*S,1*S)with
   |none=>rw[hs]at h;cases h
   | some s=>
     rw[hs,Option.bind_some]at h
     cases he:yq S (yP S n d)with
     |none=>rw[he]at h;cases h
     | some e=>
       rw[he,Option.bind_some]at h
       cases hp:MN S pl (yP S n d) fr s e with
       |none=>rw[hp]at h;cases h
       | some p=>
         rw[hp,Option.bind_some]at h
         cases hq:yU S (yP S n d) fr p.1 p.2 with
         |none=>rw[hq]at h;cases h
         | some q=>
           rw[hq,Option.bind_some]at h
           split at h
           · rename_i h2;cases h;exact⟨s,e,p,q,rfl,rfl,hp,hq,fL h2.1,fL h2.2.1,h2.2.2.1,h2.2.2.2,rfl⟩
           · cases h
 · cases h
def RI {S a:Nat}{y u b:N2}{q:N2×N2}(h0:0<a)(h:yU S y a u b=some q):Bk 95 b:=by
 match a,h0,h with
 |1,_,h=>unfold yU at h;split at h;rename_i h1;exact fL h1;cases h
 |a+2,_,h=>unfold yU at h;split at h;rename_i h1;exact fL h1.2;cases h
def RJ {S a:Nat}{y u b:N2}{q:N2×N2}(h0:1<a)(h:yU S y a u b=some q):Bk 95 u:=by
 match a,h0,h with
 |a+2,_,h=>unfold yU at h;split at h;rename_i h1;exact fL h1.1;cases h
def Vj (S:Nat)(y:N2)(a:Int)(u b:N2)(q:N2×N2):Prop:=(0<=a/\yU S y a.toNat u b=some q)\/(a=-1/\(u,b)=q)
def F4 {S:Nat}{y u b:N2}{q:N2×N2}(h:Vj S y a u b q)(h0:0<a):∃n:Nat,a=(n:Int)/\0<n/\yU S y n u b=some q:=by
 rcases h with h|h
 · exact⟨a.toNat,by omega,by omega,h.2⟩
 · omega
def F5 {S:Nat}{y u b:N2}{q:N2×N2}(h:Vj S y a u b q)(h0:¬0<a):q=(u,b):=by
 rcases h with h|h
 · have e:a.toNat=0:=J
   rw[e]at h
   have:=h.2
   unfold yU at this
   cases this;rfl
 · exact h.2.symm
def RL {S:Nat}{y u b:N2}{q:N2×N2}(h0:1<n)(h:yU S y n u b=some q):Vj S y ((n:Int)-2) (na S u y) (lF b n 2) q:=by
 left
 obtain⟨k,rfl⟩:∃k,n=k+2:=⟨n-2,by omega⟩
 refine⟨by omega,?_⟩
 rw[show(((k+2:Nat):Int)-2).toNat=k by omega]
 unfold yU at h
 split at h
 · exact h
 · cases h
def RN {S:Nat}{y u b:N2}{q:N2×N2}(h0:0<n)(h1:¬1<n)(h:yU S y n u b=some q):Vj S y ((n:Int)-2) u (lF b n 2) q:=by
 right
 have e:n=1:=J
 subst e
 refine⟨by omega,?_⟩
 unfold yU at h
 split at h
 · cases h;rfl
 · cases h
def RP {S:Nat}{y u b:N2}{q:N2×N2}(h:yU S y n u b=some q):Vj S y (n:Int) u b q:=Or.inl ⟨by omega,by simpa using h⟩
def Qq {S fr:Nat}{y s e:N2}{p:N2×N2}(h:MN S pl y fr s e=some p):(fr%2=1/\∃u c,Bk 95 s/\mK S y=some u/\mK S (vA pl,vA pl+1)=some c/\Bk 95 u/\Bk 95 c/\p=(na S s u,na S e c))\/(¬fr%2=1/\p=(s,e)):=by
 unfold MN at h
 split at h
 · rename_i ho
   left
   refine⟨ho,?_⟩
   split at h
   · rename_i hs
     cases hu:mK S y with
     |none=>rw[hu]at h;cases h
     | some u=>
       rw[hu,Option.bind_some]at h
       cases hc:mK S (vA pl,vA pl+1)with
       |none=>rw[hc]at h;cases h
       | some c=>
         rw[hc,Option.bind_some]at h
         split at h
         · rename_i h2;cases h;exact⟨u,c,fL hs,rfl,rfl,fL h2.1,fL h2.2,rfl⟩
         · cases h
   · cases h
 · rename_i ho;cases h;exact Or.inr ⟨ho,rfl⟩
def MO {d fr:Nat}{s e1:N2}{q:N2×N2}(hS:Sc sO)(hp:pl<81)(h1:0<fr)(h20:fr<=20)(hn:n<10^90)(hd:d<10^90)(hd0:0<d)(hof:Bk 95 (p7 sO n d))(hy:Bk 95 (yP sO n d))(hs:yp (Uy sO (yP sO n d) fr) (1*sO,1*sO)=some s)(he:yq sO (yP sO n d)=some e1){u c:N2}(hsb:Bk 95 s)(hu:mK sO (yP sO n d)=some u)(hc:mK sO (vA pl,vA pl+1)=some c)(hub:Bk 95 u)(hcb:Bk 95 c)(ho:fr%2=1)(hq:yU sO (yP sO n d) fr (na sO s u) (na sO e1 c)=some q)(hq1:Bk 95 q.1)(hq2:Bk 95 q.2)(hm1:0<q.2.1)(hm2:0<q.2.2)(ht:Tb w):
 CL 151 #[.agg #[.int .i64 pl,S (nS sO)],QV ((n:Nat):Int) ((d:Nat):Int),.int .i64 fr] w (aG w λv w'=>v=.agg #[S (ae ((Bv (1*sO,1*sO) (vL sO q.1 q.2)).1)),S (ae ((Bv (1*sO,1*sO) (vL sO q.1 q.2)).2))]):=by
 have cb:=Ux he;obtain⟨m,hR,hr⟩:=uI hs;have b0:=K4 (a:=q.1) (b:=q.2) hS hm1 hq1;have h1S:Bk 199 (1*sO,1*sO):=by have:=hS.lt;exact⟨by simp only;omega,by simp only;omega⟩
 refine aC func151 Z (I ?_);refine bx (λVW bW E=>?_);have O:=bW.2;refine bx (λC1 H3 H=>?_);have⟨E,O⟩:=bn H3.2 E O;refine bx (λE4 H4 G=>?_);have⟨E,H,O⟩:=cj H4.2 E H O;refine al bM (λLj La A0=>?_);have⟨E,H,G,O⟩:=fo La.2 E H G O;refine I ?_;refine bL 6 ?_;refine sf ?_;refine aR (V:=.agg #[S (nS ((p7 sO n d).1)),S (nS ((p7 sO n d).2))]) (λ_ _ a3 _=>?_) ?_;refine cl Im (Bp (a:=(n)) (b:=(d)) hS hn hd hd0 (ht.ext (xt O a3))) ?_;rintro _ _ Ix rfl;have cm:=Ix.2;refine I ?_;exact fs ⟨cm,rfl⟩;refine aR (V:=.agg #[S (nS ((lF (p7 sO n d) 1 2).1)),S (nS ((lF (p7 sO n d) 1 2).2))]) (λ_ _ a2 _=>?_) ?_;refine clb nP (hc:=lI (hof.mono dc) dc dc dc (ht.ext (xt O a2))) (hk:=?_);rintro _ _ bb rfl;have ch:=bb.2;refine I ?_;exact fs ⟨ch,rfl⟩;refine bR (λv As=>∃b:Nat,v=pT b/\Lj.heap.size<=b/\ap As b 191 #[S [],S []]) (hs:=λ_ _ _ k ⟨b,e,l,h⟩=>⟨b,e,l,h.ext k⟩) (λ_ _ cp _=>?_) ?_;refine al bM (λ_ bp an=>?_);have GC:=bp.2;refine I ?_;exact fs ⟨GC,⟨_,rfl,(by have:=bz cp;omega),an⟩⟩;refine sf ?_;intro _ _ No T2;have⟨E,H,G,A0,O⟩:=ku No.2 E H G A0 O;obtain⟨B2,ad,_,CG⟩:=(T2 5 7 Z Z);have cy:=bt CG;refine SA CG (λP0 Rm A1=>?_);have⟨E,H,G,A0,O,_⟩:=QX Rm E H G A0 O;refine I ?_
 refine bL 7 ?_;refine sf ?_;refine aR (V:=.agg #[S (nS ((1*sO,1*sO).1)),S (nS ((1*sO,1*sO).2))]) (λ_ _ bq _=>?_) ?_;refine clb nN (hc:=iI (n:=1) hS dc ka0 (ht.ext (xt O bq))) (hk:=?_);rintro _ _ L2 rfl;have T3:=L2.2;refine I ?_;exact fs ⟨T3,rfl⟩;refine aA (λ_ _ _ _=>by refine aa (aD (vf:=[]) (vc:=[pT w.heap.size,pT B2,pT C1.heap.size]) Z (av Z (av ad (av Z Z))) ?_);refine I ?_;exact aH) ?_;refine bR (λv As=>Dv (1*sO,1*sO) (.func (.func 192) #[] #[pT w.heap.size,pT B2,pT C1.heap.size]) As v) (hs:=λ_ _ _ k h=>h.ext k) (λ_ _ _ _=>?_) ?_;refine cl BJ vj ?_;rintro _ _ a6 W3;have L1:=a6.2;refine I ?_;exact fs ⟨L1,W3⟩;refine aR (V:=.agg #[S (nS s.1),S (nS s.2)]) (λ_ _ Ay P1=>?_) ?_;obtain⟨_,_,bv,KY,S0⟩:=(P1 4 20 Z Z);have⟨E,G,A1⟩:=wl Ay E G A1;refine clb BI (hc:=cP (Dx hR hS KY S0 II (λk hk W e=>MK hS (E.ext e) (A1.ext e) (G.ext e) (hR.bd k U) hy U kc9 U ((ht.ext (xt O Ay)).ext e)) (ht.ext (xt O Ay))) hr) (hk:=?_) (hv:=av Z (av bv Z));rintro _ _ a5 rfl;have a8:=a5.2;refine I ?_;exact fs ⟨a8,rfl⟩
 refine bR (λv As=>∃b:Nat,v=pT b/\P0.heap.size<=b/\ap As b 191 #[S [],S []]) (hs:=λ_ _ _ k ⟨b,e,l,h⟩=>⟨b,e,l,h.ext k⟩) (λ_ _ bZ _=>?_) ?_;refine al bM (λ_ Li P2=>?_);have S9:=Li.2;refine I ?_;exact fs ⟨S9,⟨_,rfl,(by have:=bz bZ;omega),P2⟩⟩;refine sf ?_;intro _ _ KC c9;have⟨E,H,G,A0,A1,O⟩:=I1 KC.2 E H G A0 A1 O;obtain⟨cf,_,_,Cr⟩:=(c9 6 8 Z Z);have ct:=bt Cr;refine SA Cr (λ_ W1 Ao=>?_);have⟨E,H,G,A0,A1,O,_⟩:=Vp W1 E H G A0 A1 O;refine I ?_;refine cl Il (ML hS he (ht.ext O)) ?_;rintro _ ac ES rfl;have⟨E,H,G,A0,A1⟩:=oF ES.2 E H G A0 A1;have⟨Ao,O⟩:=bn ES.2 Ao O;refine al bM (λ_ E7 Ne=>?_);have⟨E,H,G,A0,A1⟩:=oF E7.2 E H G A0 A1;have⟨Ao,O⟩:=bn E7.2 Ao O;refine SA Ne (λ_ FR Aq=>?_);have⟨E,H,G,A0,A1⟩:=yV FR E H G A0 A1;have⟨Ao,O,_⟩:=kt FR Ao O;refine I ?_;refine aa (l8 (a:=(fr:Int)) (b:=2) (c:=(fr:Int)%2) Z Z U U Z ?_);refine I ?_;refine bL 12 ?_;refine sf ?_;refine aR (V:=.agg #[S (nS u.1),S (nS u.2)]) (λ_ _ X0 _=>?_) ?_;refine cl It (xg hS hu (ht.ext (xt O X0))) ?_;rintro _ _ cc rfl;have H2:=cc.2;refine I ?_;exact fs ⟨H2,rfl⟩;refine aR (V:=.agg #[S (nS ((na sO s u).1)),S (nS ((na sO s u).2))]) (λ_ _ L3 _=>?_) ?_;refine cl nQ (gJ hS hsb hub (ht.ext (xt O L3))) ?_
 rintro _ _ nm rfl;have K2:=nm.2;refine I ?_;exact fs ⟨K2,rfl⟩;refine sf ?_;refine aR (V:=.agg #[S (nS ((vA pl,vA pl+1).1)),S (nS ((vA pl,vA pl+1).2))]) (λ_ _ N0 _=>?_) ?_;refine cl Ss (Yj hp (ht.ext (xt O N0))) ?_;rintro _ _ WV rfl;have KM:=WV.2;refine I ?_;exact fs ⟨KM,rfl⟩;refine aR (V:=.agg #[S (nS c.1),S (nS c.2)]) (λ_ _ X2 _=>?_) ?_;refine cl It (xg hS hc (ht.ext (xt O X2))) ?_;rintro _ _ co rfl;have Kp:=co.2;refine I ?_;exact fs ⟨Kp,rfl⟩;refine sf ?_;intro _ _ ny _;have⟨E,H,G,A0,A1⟩:=oF ny.2 E H G A0 A1;have⟨Ao,Aq,O⟩:=cj ny.2 Ao Aq O;refine cl nQ (gJ hS cb hcb (ht.ext O)) ?_;rintro _ _ od rfl;have⟨E,H,G,A0,A1⟩:=oF od.2 E H G A0 A1;have⟨Ao,Aq,O⟩:=cj od.2 Ao Aq O;refine SA Ao (λ_ B1 Ax=>?_);have⟨E,H,G,A0,A1⟩:=yV B1 E H G A0 A1;have Aq:=pb B1 Aq;have O:=bi B1 O;refine SA Aq (λWa Aw L4=>?_);have⟨E,H,G,A0,A1⟩:=yV Aw E H G A0 A1;have Ax:=pb Aw Ax;have O:=bi Aw O;refine I ?_
 refine cg [(10,10),(42,55)] (λQ0 e W=>∃aq:Int,∃Af:N2,∃Am:N2,((aq+2).toNat=Q0)/\(e 10=.int .i64 aq)/\(Vj sO (lF (p7 sO n d) 1 2) aq Af Am q)/\(aq<=(fr:Int))/\(Wa.heap.size<=W.heap.size)/\(aO w W)/\(ap W w.heap.size 189 #[.int .i64 pl,S (nS sO)])/\(ap W VW.heap.size 33 #[S ((qR ((n:Nat):Int) ((d:Nat):Int)).1),S ((qR ((n:Nat):Int) ((d:Nat):Int)).2)])/\(ap W C1.heap.size 3 #[.int .i64 fr])/\(ap W E4.heap.size 191 #[S [],S []])/\(ap W B2 191 #[S (nS ((lF (p7 sO n d) 1 2).1)),S (nS ((lF (p7 sO n d) 1 2).2))])/\(ap W ac.heap.size 191 #[S (nS Am.1),S (nS Am.2)])/\(ap W cf 191 #[S (nS Af.1),S (nS Af.2)])) (((fr:Int)+2).toNat) ⟨(fr:Int),na sO s u,na sO e1 c,rfl,rfl,(RP hq),(Int.le_refl _),(qa0 _),O,E,H,G,A0,A1,L4,Ax⟩ ?_;rintro _ _ _ ⟨aq,Af,Am,rfl,cr,E9,cw,cv,A2,E,H,G,A0,A1,Ap,Ab⟩;by_cases hl:0<aq;obtain⟨a,rfl,E6,Av⟩:=F4 E9 hl;have ce:=RI E6 Av;have cx:a<=fr:=J
 refine I ?_;refine clb nP (hc:=lI (ce.mono dc) U dc dc (ht.ext A2)) (hk:=?_);rintro _ _ E1 rfl;have⟨E,H,G,A0,A1⟩:=oF E1.2 E H G A0 A1;have⟨Ap,Ab,A2⟩:=cj E1.2 Ap Ab A2;refine SA Ap (λ_ E0 Ar=>?_);have⟨E,H,G,A0,A1⟩:=yV E0 E H G A0 A1;have⟨Ab,A2,_⟩:=kt E0 Ab A2;refine I ?_;by_cases ap7:1<((a:Nat):Int);refine I ?_;refine clb nQ (hc:=gJ hS (RJ U Av) hy (ht.ext A2)) (hk:=?_);rintro _ _ G0 rfl;have⟨E,H,G,A0,A1⟩:=oF G0.2 E H G A0 A1;have⟨Ar,Ab,A2⟩:=cj G0.2 Ar Ab A2;refine SA Ab (λ_ wr a4=>?_);have⟨E,H,G,A0,A1⟩:=yV wr E H G A0 A1;have⟨Ar,A2,_⟩:=kt wr Ar A2;refine I ?_;refine oE (I ?_);exact bI ⟨((a:Nat):Int)-2,na sO Af (lF (p7 sO n d) 1 2),lF Am a 2,rfl,rfl,(RL U Av),U,U,A2,E,H,G,A0,A1,Ar,a4⟩;refine I ?_;refine oE (I ?_);exact bI ⟨((a:Nat):Int)-2,Af,lF Am a 2,rfl,rfl,(RN E6 U Av),U,U,A2,E,H,G,A0,A1,Ar,Ab⟩;have a9:=F5 E9 hl;subst a9;refine I ?_;refine bL 7 ?_;refine sf ?_;refine aR (V:=.agg #[S (nS ((1*sO,1*sO).1)),S (nS ((1*sO,1*sO).2))]) (λ_ _ cT _=>?_) ?_;refine clb nN (hc:=iI (n:=1) hS dc ka0 (ht.ext (xt A2 cT))) (hk:=?_);rintro _ _ Lk rfl;have cq:=Lk.2;refine I ?_;exact fs ⟨cq,rfl⟩;refine sf ?_
 refine aR (V:=.agg #[S (nS ((vL sO Af Am).1)),S (nS ((vL sO Af Am).2))]) (λ_ _ K3 _=>?_) ?_;refine clb Ik (hc:=wT hS hq1 (hq2.mono dc) hm1 hm2 (ht.ext (xt A2 K3))) (hk:=?_);rintro _ _ W2 rfl;have Vm:=W2.2;refine I ?_;exact fs ⟨Vm,rfl⟩;refine sf ?_;intro _ _ EW _;have⟨E,H,G,A0,A1⟩:=oF EW.2 E H G A0 A1;have⟨Ap,Ab,A2⟩:=cj EW.2 Ap Ab A2;refine clb Ir (hc:=uZ h1S (b0.mono dc) (ht.ext A2)) (hk:=?_);rintro _ _ E5 rfl;have⟨E,H,G,A0,A1⟩:=oF E5.2 E H G A0 A1;have⟨Ap,Ab,A2⟩:=cj E5.2 Ap Ab A2;refine SA A0 (λ_ Az a0=>?_);have⟨E,H,G,A1,Ap⟩:=yV Az E H G A1 Ap;have Ab:=pb Az Ab;have A2:=bi Az A2;refine I ?_;refine aX (v:=.agg #[S (ae ((Bv (1*sO,1*sO) (vL sO Af Am)).1)),S (ae ((Bv (1*sO,1*sO) (vL sO Af Am)).2))]) (bY  rfl ?_) A2 Z;refine ak (t:=6) (cs:=[S (ae ((Bv (1*sO,1*sO) (vL sO Af Am)).1)),S (ae ((Bv (1*sO,1*sO) (vL sO Af Am)).2))]) (b:=E4.heap.size) (o:=0) jm Z fw ?_ ?_;exact Z;exact aa0 a0 (i:=0) Z
def MP {d fr:Nat}{s e1:N2}{q:N2×N2}(hS:Sc sO)(hp:pl<81)(h1:0<fr)(h20:fr<=20)(hn:n<10^90)(hd:d<10^90)(hd0:0<d)(hof:Bk 95 (p7 sO n d))(hy:Bk 95 (yP sO n d))(hs:yp (Uy sO (yP sO n d) fr) (1*sO,1*sO)=some s)(he:yq sO (yP sO n d)=some e1)(ho:¬fr%2=1)(hq:yU sO (yP sO n d) fr s e1=some q)(hq1:Bk 95 q.1)(hq2:Bk 95 q.2)(hm1:0<q.2.1)(hm2:0<q.2.2)(ht:Tb w):
 CL 151 #[.agg #[.int .i64 pl,S (nS sO)],QV ((n:Nat):Int) ((d:Nat):Int),.int .i64 fr] w (aG w λv w'=>v=.agg #[S (ae ((Bv (1*sO,1*sO) (vL sO q.1 q.2)).1)),S (ae ((Bv (1*sO,1*sO) (vL sO q.1 q.2)).2))]):=by
 obtain⟨m,hR,hr⟩:=uI hs;have X0:=K4 (a:=q.1) (b:=q.2) hS hm1 hq1;have h1S:Bk 199 (1*sO,1*sO):=by have:=hS.lt;exact⟨by simp only;omega,by simp only;omega⟩
 refine aC func151 Z (I ?_);refine bx (λP0 ad E=>?_);have A1:=ad.2;refine bx (λAv VW H=>?_);have⟨E,A1⟩:=bn VW.2 E A1;refine bx (λB1 Ix G=>?_);have⟨E,H,A1⟩:=cj Ix.2 E H A1;refine al bM (λa0 an O=>?_);have⟨E,H,G,A1⟩:=fo an.2 E H G A1;refine I ?_;refine bL 6 ?_;refine sf ?_;refine aR (V:=.agg #[S (nS ((p7 sO n d).1)),S (nS ((p7 sO n d).2))]) (λ_ _ S0 _=>?_) ?_;refine cl Im (Bp (a:=(n)) (b:=(d)) hS hn hd hd0 (ht.ext (xt A1 S0))) ?_;rintro _ _ S9 rfl;have L1:=S9.2;refine I ?_;exact fs ⟨L1,rfl⟩;refine aR (V:=.agg #[S (nS ((lF (p7 sO n d) 1 2).1)),S (nS ((lF (p7 sO n d) 1 2).2))]) (λ_ _ a8 _=>?_) ?_;refine clb nP (hc:=lI (hof.mono dc) dc dc dc (ht.ext (xt A1 a8))) (hk:=?_);rintro _ _ H3 rfl;have Wa:=H3.2;refine I ?_;exact fs ⟨Wa,rfl⟩;refine bR (λv Ar=>∃b:Nat,v=pT b/\a0.heap.size<=b/\ap Ar b 191 #[S [],S []]) (hs:=λ_ _ _ k ⟨b,e,l,h⟩=>⟨b,e,l,h.ext k⟩) (λ_ _ G0 _=>?_) ?_;refine al bM (λ_ N0 T2=>?_);have a6:=N0.2;refine I ?_;exact fs ⟨a6,⟨_,rfl,(by have:=bz G0;omega),T2⟩⟩;refine sf ?_;intro _ _ K2 La;have⟨E,H,G,O,A1⟩:=ku K2.2 E H G O A1;obtain⟨ny,W2,_,Ax⟩:=(La 5 7 Z Z);have bp:=bt Ax;refine SA Ax (λa3 a2 A0=>?_);have⟨E,H,G,O,A1,_⟩:=QX a2 E H G O A1;refine I ?_
 refine bL 7 ?_;refine sf ?_;refine aR (V:=.agg #[S (nS ((1*sO,1*sO).1)),S (nS ((1*sO,1*sO).2))]) (λ_ _ P2 _=>?_) ?_;refine clb nN (hc:=iI (n:=1) hS dc ka0 (ht.ext (xt A1 P2))) (hk:=?_);rintro _ _ Q0 rfl;have KM:=Q0.2;refine I ?_;exact fs ⟨KM,rfl⟩;refine aA (λ_ _ _ _=>by refine aa (aD (vf:=[]) (vc:=[pT w.heap.size,pT ny,pT Av.heap.size]) Z (av Z (av W2 (av Z Z))) ?_);refine I ?_;exact aH) ?_;refine bR (λv Ar=>Dv (1*sO,1*sO) (.func (.func 192) #[] #[pT w.heap.size,pT ny,pT Av.heap.size]) Ar v) (hs:=λ_ _ _ k h=>h.ext k) (λ_ _ _ _=>?_) ?_;refine cl BJ vj ?_;rintro _ _ L2 P1;have EW:=L2.2;refine I ?_;exact fs ⟨EW,P1⟩;refine aR (V:=.agg #[S (nS s.1),S (nS s.2)]) (λ_ _ od Vm=>?_) ?_;obtain⟨_,_,FR,Lj,ES⟩:=(Vm 4 20 Z Z);have⟨E,G,A0⟩:=wl od E G A0;refine clb BI (hc:=cP (Dx hR hS Lj ES II (λk hk W e=>MK hS (E.ext e) (A0.ext e) (G.ext e) (hR.bd k U) hy U kc9 U ((ht.ext (xt A1 od)).ext e)) (ht.ext (xt A1 od))) hr) (hk:=?_) (hv:=av Z (av FR Z));rintro _ _ No rfl;have K3:=No.2;refine I ?_;exact fs ⟨K3,rfl⟩
 refine bR (λv Ar=>∃b:Nat,v=pT b/\a3.heap.size<=b/\ap Ar b 191 #[S [],S []]) (hs:=λ_ _ _ k ⟨b,e,l,h⟩=>⟨b,e,l,h.ext k⟩) (λ_ _ a9 _=>?_) ?_;refine al bM (λ_ Ne Li=>?_);have H2:=Ne.2;refine I ?_;exact fs ⟨H2,⟨_,rfl,(by have:=bz a9;omega),Li⟩⟩;refine sf ?_;intro _ _ WV Lk;have⟨E,H,G,O,A0,A1⟩:=I1 WV.2 E H G O A0 A1;obtain⟨L4,_,_,E1⟩:=(Lk 6 8 Z Z);have bq:=bt E1;refine SA E1 (λ_ T3 Ap=>?_);have⟨E,H,G,O,A0,A1,_⟩:=Vp T3 E H G O A0 A1;refine I ?_;refine cl Il (ML hS he (ht.ext A1)) ?_;rintro _ W1 B2 rfl;have⟨E,H,G,O,A0⟩:=oF B2.2 E H G O A0;have⟨Ap,A1⟩:=bn B2.2 Ap A1;refine al bM (λ_ Az GC=>?_);have⟨E,H,G,O,A0⟩:=oF Az.2 E H G O A0;have⟨Ap,A1⟩:=bn Az.2 Ap A1;refine SA GC (λE9 Ay H4=>?_);have⟨E,H,G,O,A0⟩:=yV Ay E H G O A0;have⟨Ap,A1,_⟩:=kt Ay Ap A1;refine I ?_;refine aa (l8 (a:=(fr:Int)) (b:=2) (c:=(fr:Int)%2) Z Z U U Z ?_);refine I ?_;refine I ?_
 refine cg [(10,10),(42,55)] (λL3 e W=>∃aq:Int,∃Af:N2,∃Am:N2,((aq+2).toNat=L3)/\(e 10=.int .i64 aq)/\(Vj sO (lF (p7 sO n d) 1 2) aq Af Am q)/\(aq<=(fr:Int))/\(E9.heap.size<=W.heap.size)/\(aO w W)/\(ap W w.heap.size 189 #[.int .i64 pl,S (nS sO)])/\(ap W P0.heap.size 33 #[S ((qR ((n:Nat):Int) ((d:Nat):Int)).1),S ((qR ((n:Nat):Int) ((d:Nat):Int)).2)])/\(ap W Av.heap.size 3 #[.int .i64 fr])/\(ap W B1.heap.size 191 #[S [],S []])/\(ap W ny 191 #[S (nS ((lF (p7 sO n d) 1 2).1)),S (nS ((lF (p7 sO n d) 1 2).2))])/\(ap W W1.heap.size 191 #[S (nS Am.1),S (nS Am.2)])/\(ap W L4 191 #[S (nS Af.1),S (nS Af.2)])) (((fr:Int)+2).toNat) ⟨(fr:Int),s,e1,rfl,rfl,(RP hq),(Int.le_refl _),(qa0 _),A1,E,H,G,O,A0,H4,Ap⟩ ?_;rintro _ _ _ ⟨aq,Af,Am,rfl,bb,E6,bW,b0,A2,E,H,G,O,A0,Ao,Ab⟩;by_cases hl:0<aq;obtain⟨a,rfl,CG,As⟩:=F4 E6 hl;have a5:=RI CG As;have bZ:a<=fr:=J
 refine I ?_;refine clb nP (hc:=lI (a5.mono dc) U dc dc (ht.ext A2)) (hk:=?_);rintro _ _ E4 rfl;have⟨E,H,G,O,A0⟩:=oF E4.2 E H G O A0;have⟨Ao,Ab,A2⟩:=cj E4.2 Ao Ab A2;refine SA Ao (λ_ E5 Aq=>?_);have⟨E,H,G,O,A0⟩:=yV E5 E H G O A0;have⟨Ab,A2,_⟩:=kt E5 Ab A2;refine I ?_;by_cases apk:1<((a:Nat):Int);refine I ?_;refine clb nQ (hc:=gJ hS (RJ U As) hy (ht.ext A2)) (hk:=?_);rintro _ _ E7 rfl;have⟨E,H,G,O,A0⟩:=oF E7.2 E H G O A0;have⟨Aq,Ab,A2⟩:=cj E7.2 Aq Ab A2;refine SA Ab (λ_ Cr Rm=>?_);have⟨E,H,G,O,A0⟩:=yV Cr E H G O A0;have⟨Aq,A2,_⟩:=kt Cr Aq A2;refine I ?_;refine oE (I ?_);exact bI ⟨((a:Nat):Int)-2,na sO Af (lF (p7 sO n d) 1 2),lF Am a 2,rfl,rfl,(RL U As),U,U,A2,E,H,G,O,A0,Aq,Rm⟩;refine I ?_;refine oE (I ?_);exact bI ⟨((a:Nat):Int)-2,Af,lF Am a 2,rfl,rfl,(RN CG U As),U,U,A2,E,H,G,O,A0,Aq,Ab⟩;have W3:=F5 E6 hl;subst W3;refine I ?_;refine bL 7 ?_;refine sf ?_;refine aR (V:=.agg #[S (nS ((1*sO,1*sO).1)),S (nS ((1*sO,1*sO).2))]) (λ_ _ a4 _=>?_) ?_;refine clb nN (hc:=iI (n:=1) hS dc ka0 (ht.ext (xt A2 a4))) (hk:=?_);rintro _ _ KC rfl;have X2:=KC.2;refine I ?_;exact fs ⟨X2,rfl⟩;refine sf ?_
 refine aR (V:=.agg #[S (nS ((vL sO Af Am).1)),S (nS ((vL sO Af Am).2))]) (λ_ _ nm _=>?_) ?_;refine clb Ik (hc:=wT hS hq1 (hq2.mono dc) hm1 hm2 (ht.ext (xt A2 nm))) (hk:=?_);rintro _ _ Kp rfl;have KY:=Kp.2;refine I ?_;exact fs ⟨KY,rfl⟩;refine sf ?_;intro _ _ C1 _;have⟨E,H,G,O,A0⟩:=oF C1.2 E H G O A0;have⟨Ao,Ab,A2⟩:=cj C1.2 Ao Ab A2;refine clb Ir (hc:=uZ h1S (X0.mono dc) (ht.ext A2)) (hk:=?_);rintro _ _ E0 rfl;have⟨E,H,G,O,A0⟩:=oF E0.2 E H G O A0;have⟨Ao,Ab,A2⟩:=cj E0.2 Ao Ab A2;refine SA O (λ_ Aw ac=>?_);have⟨E,H,G,A0,Ao⟩:=yV Aw E H G A0 Ao;have Ab:=pb Aw Ab;have A2:=bi Aw A2;refine I ?_;refine aX (v:=.agg #[S (ae ((Bv (1*sO,1*sO) (vL sO Af Am)).1)),S (ae ((Bv (1*sO,1*sO) (vL sO Af Am)).2))]) (bY  rfl ?_) A2 Z;refine ak (t:=6) (cs:=[S (ae ((Bv (1*sO,1*sO) (vL sO Af Am)).1)),S (ae ((Bv (1*sO,1*sO) (vL sO Af Am)).2))]) (b:=B1.heap.size) (o:=0) jm Z fw ?_ ?_;exact Z;exact aa0 ac (i:=0) Z
def Qr {d fr:Nat}{r:Int×Int}(hS:Sc sO)(hp:pl<81)(h1:0<fr)(h20:fr<=20)(hh:Yp sO pl n d fr=some r)(ht:Tb w):
 CL 151 #[.agg #[.int .i64 pl,S (nS sO)],QV ((n:Nat):Int) ((d:Nat):Int),.int .i64 fr] w (aG w λv _=>v=.agg #[S (ae r.1),S (ae r.2)]):=by
 obtain⟨H,hd,O,A1,hy,s,_,p,q,hs,A2,Af,hq,A0,E,G,Ab,rfl⟩:=Qp hh
 rcases Qq Af with⟨ho,u,c,hsb,hu,hc,hub,hcb,rfl⟩|⟨ho,rfl⟩
 · exact MO hS hp h1 h20 H hd O A1 hy hs A2 hsb hu hc hub hcb ho hq A0 E G Ab ht
 · exact MP hS hp h1 h20 H hd O A1 hy hs A2 ho hq A0 E G Ab ht
def Bu (h:n<10^12):(bo n).length<=12:=by
 unfold bo;split
 · simp
 · rw[cI];exact(a7 10 U n 12).2 h
def Qs {m:List UInt8}(e:(l,m)=qR a b)(h:Q9 a b)(ha:a.natAbs<10^12):(((body l).length:Nat):Int)<=12:=by
 rw[show l=ae (k8 a b)from congrArg Prod.fst e,gE]
 have:=Bu (Nat.lt_of_le_of_lt (Dj h.2.1) ha)
 omega
def Qt {m:List UInt8}(e:(l,m)=qR a b)(h:Q9 a b)(hb:b<10^12):((m.length:Nat):Int)<=12:=by
 rw[show m=ae (df a b)from congrArg Prod.snd e]
 have h1:=oy (n:=a) h.2.1
 have h2:=LL (n:=a) h.2.1
 unfold ae
 rw[if_neg U]
 have:=Bu (n:=(df a b).natAbs) U
 omega
def lN (pl:Nat)(a b la lb ha hb:Int):Bool:=decide ((pl:Int)<=12)&&(decide (0<=aN (a*lb) (la*b))&&decide (aN (a*hb) (ha*b)<=0))
def oD {m:List UInt8}(e:(l,m)=qR a b)(h:Q9 a b)(ha:a.natAbs<10^12)(hb:b<10^12)(ht:Tb w):
 CL 228 #[.agg #[S l,S m]] w (aG w λv w'=>v=.bool true):=by
 have h1:=Qs e h ha;have h2:=Qt e h hb;refine aC func228 Z (I ?_);refine bx (λ_ A0 G=>?_);have E:=A0.2;refine I ?_;refine cl td (cB (eo _ _ _ (ht.ext E)) (Ym e h)) ?_;rintro _ _ O rfl;have⟨G,E⟩:=bn O.2 G E;refine I ?_;refine cl Ih (xP _ _) ?_;rintro _ _ H rfl;have⟨G,E⟩:=bn H.2 G E;refine I ?_;refine aa (dv (l:=body l) U9 Z ?_);refine I ?_;refine aa (dv (l:=m) U9 Z ?_);refine I ?_;exact am (t:=2) (v:=.bool (decide ((((m).length:Nat):Int)<=12))) Z E (qb2 Value.bool (qa1 h2)) Z
def vu {m:List UInt8}{fu:Value}{lb:Int}(e:(l,m)=qR a b)(h:Q9 a b)(ha12:a.natAbs<10^12)(hb12:b<10^12)(e1:(l1,m1)=qR la lb)(q1:Q9 la lb)(e2:(l2,m2)=qR ha hb)(q2:Q9 ha hb)(hu:fu.cells=#[fu])(ht:Tb w):
 CL 199 #[.agg #[S l1,S m1,S l2,S m2,S l3,S m3,S l4,S m4,fu],.agg #[S l,S m],.int .i64 pl] w (aG w λv w'=>v=.bool (lN pl a b la lb ha hb)):=by
 refine aC func199 Z (I ?_);refine bx (λ_ Af G=>?_);have E:=Af.2;refine bx (λ_ A1 H=>?_);have⟨G,E⟩:=bn A1.2 G E;refine I ?_;by_cases cx:0<=(pl:Int);by_cases cm:(pl:Int)<=12;by_cases cw:0<=(aN (a*lb) (la*b));refine I ?_;refine cl BK (oD e h ha12 hb12 (ht.ext E)) ?_;rintro _ _ Ao rfl;have⟨G,H,E⟩:=cj Ao.2 G H E;refine I ?_;refine cl nL (vk e e1 h q1 (ht.ext E)) ?_;rintro _ _ O rfl;have⟨G,H,E⟩:=cj O.2 G H E;refine I ?_;refine cl nL (vk e e2 h q2 (ht.ext E)) ?_;rintro _ _ A0 rfl;have E:=xt E A0.2;refine I ?_;exact am (t:=6) (v:=.bool (decide ((aN (a*hb) (ha*b))<=0))) Z E (by unfold lN;rw[decide_eq_true cm];rw[decide_eq_true cw];first|rfl|simp) Z;refine I ?_;refine cl BK (oD e h ha12 hb12 (ht.ext E)) ?_;rintro _ _ A2 rfl;have⟨G,H,E⟩:=cj A2.2 G H E;refine I ?_;refine cl nL (vk e e1 h q1 (ht.ext E)) ?_;rintro _ _ Am rfl;have E:=xt E Am.2;refine I ?_;exact am (t:=6) (v:=.bool false) Z E (by unfold lN;rw[decide_eq_true cm];rw[decide_eq_false cw];first|rfl|simp) Z;refine I ?_;refine cl BK (oD e h ha12 hb12 (ht.ext E)) ?_;rintro _ _ Ab rfl;have E:=xt E Ab.2;refine I ?_;exact am (t:=6) (v:=.bool false) Z E (by unfold lN;rw[decide_eq_false cm];first|rfl|simp) Z;omega
structure RQ (pl:Nat)(r:Int×Int)(f c:Int):Prop where
 b1:r.1.natAbs<10^90
 b2:r.2.natAbs<10^90
 le:r.1<=r.2
 hf:yT r.1 (aJ (pl+15)) (aJ pl)=f
 hc:yX r.2 (aJ (pl+15)) (aJ pl)=c
 f9:f.natAbs<10^70
 c9:c.natAbs<10^70
 fc:f<=c
 one:c<=f+1
def g9 (h:a.natAbs<10^90)(hk:k<=80):Q9 a (aJ k):=by
 refine⟨h,lM k,?_⟩
 unfold aJ
 have h1:(10:Nat)^k<=10^80:=Nat.pow_le_pow_right dc hk
 have h2:(10:Nat)^80<10^90:=by decide
 have h3:(((10:Nat)^90:Nat):Int)=(10:Int)^90:=by norm_cast
 omega
def DD :(([49],nS (10^pl)):R)=qR 1 (aJ pl):=by
 rw[UP (lM pl) Wf,<-show nS 1=ae 1 from rfl,<-KZ];rfl
def width_le (h:c<=f+1)(hT:0<T):aN ((c*T-f*T)*T) (1*(T*T))<=0:=by
 rw[c7,<-Int.sub_mul,Int.mul_assoc]
 exact Int.mul_le_mul_of_nonneg_right U (Int.le_of_lt (Int.mul_pos hT hT))
def ZW (hf:f.natAbs<10^70)(hc:c.natAbs<10^70)(hp:pl<=12):Q9 (c*aJ pl-f*aJ pl) (aJ pl*aJ pl):=by
 have h1:=lM pl
 have h2:(10:Nat)^pl<=10^12:=Nat.pow_le_pow_right dc hp
 have h3:aJ pl<=1000000000000:=by unfold aJ;omega
 have h4:(c*aJ pl).natAbs<=10^70*1000000000000:=by rw[Int.natAbs_mul];exact qb9 U U
 have G:(f*aJ pl).natAbs<=10^70*1000000000000:=by rw[Int.natAbs_mul];exact qb9 U U
 have E:aJ pl*aJ pl<=1000000000000*1000000000000:=Int.mul_le_mul h3 h3 U U
 exact⟨by omega,Int.mul_pos h1 h1,by omega⟩
set_option maxRecDepth 100000 in
def Qu {m:List UInt8}(e:(l,m)=qR a b)(h:Q9 a b)(ha12:a.natAbs<10^12)(hb12:b<10^12)(e1:(l1,m1)=qR la lb0)(q1:Q9 la lb0)(e2:(l2,m2)=qR ha hb)(q2:Q9 ha hb){r:Int×Int}(hrt:lN pl a b la lb0 ha hb=true)(hp:pl<=12)(hne:¬((l,m):R)=(l3,m3))(hg:Enters prog g)(hbd:∀W,aO w W->CL g ([.agg #[.int .i64 ((pl+15:Nat):Int),S (nS (10^(pl+15)))],.agg #[S l,S m]].toArray++lb.toArray) W (aG W λv _=>v=.agg #[S (ae r.1),S (ae r.2)]))(hC:RQ pl r f c)(ht:Tb w):
 CL 152 #[.agg #[S l1,S m1,S l2,S m2,S l3,S m3,S l4,S m4,.func (.func g) #[] lb.toArray],.agg #[S l,S m],.int .i64 pl] w (aG w λv w'=>v=.tuple #[IV f (aJ pl) c (aJ pl),.int .i64 0]):=by
 have z1:=g9 (k:=pl+15) hC.b1 U;have Ap:=g9 (k:=pl+15) hC.b2 U;have Av:=g9 (k:=pl) (a:=f) (qb1 hC.f9 dc) U;have Ne:=g9 (k:=pl) (a:=c) (qb1 hC.c9 dc) U;have ES:Q9 (c*aJ pl-f*aJ pl) (aJ pl*aJ pl):=ZW hC.f9 hC.c9 hp;have EW:=g9 (k:=pl) (a:=1) dc U;refine aC func152 Z (I ?_);refine bx (λE6 GC E=>?_);have Am:=GC.2;refine bx (λAs N0 H=>?_);have⟨E,Am⟩:=bn N0.2 E Am;refine al dQ (λ_ Lk O=>?_);have⟨E,H,Am⟩:=cj Lk.2 E H Am;refine I ?_;refine aa (aP (cs:=[S l1,S m1,S l2,S m2,S l3,S m3,S l4,S m4,.func (.func g) #[] lb.toArray]) (b:=w.heap.size) (o:=0) DI Z xk Z (aa0 E (i:=0) Z) ?_);refine I ?_;refine cl Ip (cB (vu e h ha12 hb12 e1 q1 e2 q2 Z (ht.ext Am)) hrt) ?_;rintro _ C1 E5 rfl;have⟨E,H,O,Am⟩:=fo E5.2 E H O Am;refine I ?_;refine aa (FC (a:=(l,m)) (b:=(l3,m3)) (q:=decide ((l,m)=(l3,m3))) Z Z Z ?_);refine I ?_;refine Q6 (λNo K2 _ Ar=>?_);have⟨E,H,O,Am⟩:=fo K2 E H O Am;refine I ?_
 refine cg [(7,7),(11,22),(44,111)] (λL3 e W=>(0=L3)/\(e 44=.int .i64 0)/\(No.heap.size<=W.heap.size)/\(aO w W)/\(ap W w.heap.size 187 #[S l1,S m1,S l2,S m2,S l3,S m3,S l4,S m4,.func (.func g) #[] lb.toArray])/\(ap W E6.heap.size 33 #[S l,S m])/\(ap W As.heap.size 144 #[S [],S [],S [],S []])/\(World.ownsRow W C1.heap.size 3 1 (.slice (some ⟨C1.heap.size,0,none⟩) 2 2) 2 [.int .i64 15,.int .i64 40])) 0 ⟨rfl,rfl,(qa0 _),Am,E,H,O,Ar⟩ ?_;rintro _ _ _ ⟨rfl,G0,P2,G,E,H,O,Ar⟩;have P1:=bz G;refine I ?_;obtain⟨_,oo,hA,FR⟩:=(aa8 Ar).cells 0 _ Z;refine aa (aB (i:=0) (oo:=oo+0) ks iT Z hA G0 dc Z ?_);refine aa (bB (v:=.int .i64 15) U3 Z Z FR ?_);refine I ?_;refine aa (ci (a:=(pl:Int)) (b:=15) (c:=((pl+15:Nat):Int)) Z Z JT U ?_);refine clb qj (hc:=nf U (ht.ext G)) (hk:=?_);rintro _ _ K3 rfl;have⟨E,H,O,G⟩:=fo K3.2 E H O G;refine al oP (λ_ E7 L4=>?_);have⟨E,H,O,G⟩:=fo E7.2 E H O G;refine SA L4 (λ_ L2 A0=>?_);have⟨E,H,O,G,_⟩:=QW L2 E H O G;refine I ?_;refine aa (lW (f:=g) (lb:=lb) (vs:=[.agg #[.int .i64 (((pl+15):Nat):Int),S (nS (10^(pl+15)))],.agg #[S l,S m]]) hg Z Z (Qj (hbd _ G)) ?_);rintro _ _ Li rfl
 have⟨E,H,O,A0,G⟩:=ku Li.2 E H O A0 G;refine al bM (λ_ KC Kp=>?_);have⟨E,H,O,A0,G⟩:=ku KC.2 E H O A0 G;refine SA Kp (λ_ P0 A1=>?_);have⟨E,H,O,A0,G,_⟩:=QX P0 E H O A0 G;refine I ?_;refine cl nO (iJ Z Z z1.fz.1 z1.fz.2 (Int.ne_of_gt z1.2.1) (ht.ext G)) ?_;rintro _ _ KY rfl;have⟨E,H,O,A0,A1,G⟩:=I1 KY.2 E H O A0 A1 G;refine I ?_;refine al aS (λ_ E0 H2=>?_);have⟨E,H,O,A0,A1,G⟩:=I1 E0.2 E H O A0 A1 G;refine SA H2 (λ_ L1 A2=>?_);have⟨E,H,O,A0,A1,G,_⟩:=Vp L1 E H O A0 A1 G;refine I ?_;refine cl nO (iJ Z Z Ap.fz.1 Ap.fz.2 (Int.ne_of_gt Ap.2.1) (ht.ext G)) ?_;rintro _ _ Az rfl;have⟨E,H,O,A0,A1⟩:=oF Az.2 E H O A0 A1;have⟨A2,G⟩:=bn Az.2 A2 G;refine I ?_;refine al aS (λ_ Aw H4=>?_);have⟨E,H,O,A0,A1⟩:=oF Aw.2 E H O A0 A1;have⟨A2,G⟩:=bn Aw.2 A2 G;refine SA H4 (λ_ CG Ab=>?_);have⟨E,H,O,A0,A1⟩:=yV CG E H O A0 A1;have⟨A2,G,_⟩:=kt CG A2 G;refine I ?_;refine aa (bU (vs:=[(0,QV r.1 (aJ (pl+15))),(1,QV r.2 (aJ (pl+15)))]) (cells:=#[S ((qR r.1 (aJ (pl+15))).1),S ((qR r.1 (aJ (pl+15))).2),S ((qR r.2 (aJ (pl+15))).1),S ((qR r.2 (aJ (pl+15))).2)]) (pl:=[(0,2),(2,2)]) fA dQ q0 Z q0 ?_);refine I ?_
 refine clb BG (hc:=nc (Y:=.tuple #[IV f (aJ pl) c (aJ pl),.int .i64 0]) (vq (x:=(qR r.1 (aJ (pl+15)),qR r.2 (aJ (pl+15)))) Z Z z1 Ap (Int.mul_le_mul_of_nonneg_right hC.le (Int.le_of_lt z1.2.1)) U (ht.ext G)) (by rw[hC.hf,hC.hc])) (hk:=?_);rintro _ Ax wr rfl;have⟨E,H,O,A0,A1⟩:=oF wr.2 E H O A0 A1;have⟨A2,Ab,G⟩:=cj wr.2 A2 Ab G;refine I ?_;refine al dQ (λ_ Ay KM=>?_);have⟨E,H,O,A0,A1⟩:=oF Ay.2 E H O A0 A1;have⟨A2,Ab,G⟩:=cj Ay.2 A2 Ab G;refine SA KM (λ_ Cr Af=>?_);have⟨E,H,O,A0,A1⟩:=yV Cr E H O A0 A1;have⟨A2,Ab,G,_⟩:=Td Cr A2 Ab G;refine I ?_;refine aa (aP (cs:=[S ((qR f (aJ pl)).1),S ((qR f (aJ pl)).2),S ((qR c (aJ pl)).1),S ((qR c (aJ pl)).2)]) (b:=Ax.heap.size) (o:=0) fA Z dY Z (aa0 Af (i:=0) Z) ?_);refine cl BH (vt (x:=(qR f (aJ pl),qR c (aJ pl))) Z Z Av Ne (Int.mul_le_mul_of_nonneg_right hC.fc (Int.le_of_lt Av.2.1)) (ht.ext G)) ?_;rintro _ _ ny rfl;have⟨E,H,O,A0,A1⟩:=oF ny.2 E H O A0 A1;have⟨A2,Ab,Af,G⟩:=fo ny.2 A2 Ab Af G;refine I ?_;refine al aS (λ_ od Ix=>?_);have⟨E,H,O,A0,A1⟩:=oF od.2 E H O A0 A1;have⟨A2,Ab,Af,G⟩:=fo od.2 A2 Ab Af G;refine SA Ix (λ_ B2 Ao=>?_);have⟨E,H,O,A0,A1⟩:=yV B2 E H O A0 A1;have⟨A2,Ab,Af,G,_⟩:=QW B2 A2 Ab Af G;refine I ?_;refine bL 5 ?_;refine sf ?_
 refine aR (V:=.agg #[.int .i64 (((pl):Nat):Int),S (nS (10^pl))]) (λ_ _ E4 _=>?_) ?_;refine clb qj (hc:=nf U (ht.ext (xt G E4))) (hk:=?_);rintro _ _ La rfl;have E9:=La.2;refine I ?_;exact fs ⟨E9,rfl⟩;refine aA (λ_ _ _ _=>by refine aa (u4 (cs:=[.int .i64 (((pl):Nat):Int),S (nS (10^pl))]) (v:=S (nS (10^pl))) DJ Z Z Z U9 Z Z Z ?_);refine I ?_;exact aH) ?_;refine aR (V:=.agg #[S [49],S (nS (10^pl))]) (λ_ _ _ _=>?_) ?_;refine cl nM gI ?_;rintro _ _ H3 rfl;have Lj:=H3.2;refine I ?_;exact fs ⟨Lj,rfl⟩;refine sf ?_;intro _ _ nm _;have⟨E,H,O,A0,A1⟩:=oF nm.2 E H O A0 A1;have⟨A2,Ab,Af,Ao,G⟩:=ku nm.2 A2 Ab Af Ao G;refine cl nL (vk Z DD ES EW (ht.ext G)) ?_;rintro _ _ B1 rfl;have⟨E,H,O,A0,A1⟩:=oF B1.2 E H O A0 A1;have⟨A2,Ab,Af,Ao,G⟩:=ku B1.2 A2 Ab Af Ao G;refine I ?_;refine mf (qb2 Value.bool (qa1 (width_le hC.one (lM pl)))) (I ?_);refine aa (aP (cs:=[S ((qR f (aJ pl)).1),S ((qR f (aJ pl)).2),S ((qR c (aJ pl)).1),S ((qR c (aJ pl)).2)]) (b:=Ax.heap.size) (o:=0) fA Z dY Z (aa0 Af (i:=0) Z) ?_);refine SA O (λ_ Aq E1=>?_);have⟨E,H,A0,A1,A2⟩:=yV Aq E H A0 A1 A2;have⟨Ab,Af,Ao⟩:=p0 Aq Ab Af Ao;have G:=bi Aq G;refine I ?_
 refine aX (v:=.tuple #[IV f (aJ pl) c (aJ pl),.int .i64 0]) (cO (r1:=.cell 6 144) (r2:=.tmp 7) Z ?_ ?_) G Z;refine ak (t:=6) (cs:=[S ((qR f (aJ pl)).1),S ((qR f (aJ pl)).2),S ((qR c (aJ pl)).1),S ((qR c (aJ pl)).2)]) (b:=As.heap.size) (o:=0) fA Z dY ?_ ?_;exact Z;exact aa0 E1 (i:=0) Z;exact aL (t:=7) GS _
def Vk {m y1 y2 y3 y4:List UInt8}{fr:Nat}(h1:1<=fr)(h20:fr<=20)(hc:∀W b1,aO w W->ap W b1 3 #[.int .i64 fr]->CL 152 #[.agg #[S [48],S [49],S [49,48,48],S [49],S [48],S [49],S [49],S [49],.func (.func 150) #[] #[pT b1]],.agg #[S l,S m],.int .i64 pl] W (aG W λv _=>v=.tuple #[.agg #[S y1,S y2,S y3,S y4],.int .i64 er]))(ht:Tb w):
 CL 105 #[.agg #[S l,S m],.int .i64 fr,.int .i64 pl] w (aG w λv w'=>v=.tuple #[.agg #[S y1,S y2,S y3,S y4],.int .i64 er]):=by
 refine aC func105 Z (I ?_);refine bx (λAv Az G=>?_);have E:=Az.2;refine bx (λAw As H=>?_);have G:=be As.2 G;have E:=xt E As.2;refine al dQ (λ_ Ar O=>?_);have G:=be Ar.2 G;have H:=be Ar.2 H;have E:=xt E Ar.2;refine I ?_;refine cl nM gI ?_;rintro _ _ Ap rfl;have G:=be Ap.2 G;have H:=be Ap.2 H;have O:=be Ap.2 O;have E:=xt E Ap.2;refine cl nM gI ?_;rintro _ _ Am rfl;have G:=be Am.2 G;have H:=be Am.2 H;have O:=be Am.2 O;have E:=xt E Am.2;refine cl nM gI ?_;rintro _ _ Af rfl;have G:=be Af.2 G;have H:=be Af.2 H;have O:=be Af.2 O;have E:=xt E Af.2;refine cl nM gI ?_;rintro _ Ay Aq rfl;have G:=be Aq.2 G;have H:=be Aq.2 H;have O:=be Aq.2 O;have E:=xt E Aq.2;refine aa (bU (vs:=[(0,.agg #[S [48],S [49]]),(1,.agg #[S [49,48,48],S [49]]),(2,.agg #[S [48],S [49]]),(3,.agg #[S [49],S [49]])]) (cells:=#[S [48],S [49],S [49,48,48],S [49],S [48],S [49],S [49],S [49],.nilFunc]) (pl:=[(0,2),(2,2),(4,2),(6,2),(8,1)]) DI DG q0 Z q0 ?_);refine al DG (λ_ nm ny=>?_);have G:=be nm.2 G;have H:=be nm.2 H;have O:=be nm.2 O;have E:=xt E nm.2
 refine SA ny (λ_ A0 od=>?_);have G:=pb A0 G;have H:=pb A0 H;have O:=pb A0 O;have E:=bi A0 E;have B2:=iM A0;refine I ?_;refine aa (aD (vf:=[]) (vc:=[pT Av.heap.size]) Z Z ?_);refine I ?_;refine SO od (λ_ A2 Ab=>?_);have G:=pb A2 G;have H:=pb A2 H;have O:=pb A2 O;have E:=bi A2 E;have B1:=iM A2;refine I ?_;refine aa (aP (cs:=[S [48],S [49],S [49,48,48],S [49],S [48],S [49],S [49],S [49],.func (.func 150) #[] #[pT Av.heap.size]]) (b:=Ay.heap.size) (o:=0) DI Z xk Z (aa0 Ab (i:=0) Z) ?_);refine I ?_;refine cl Sd (hc _ _ E H) ?_;rintro _ _ A1 rfl;have G:=be A1.2 G;have H:=be A1.2 H;have O:=be A1.2 O;have Ab:=be A1.2 Ab;have E:=xt E A1.2;refine I ?_;refine SA O (λ_ Ao Ax=>?_);have G:=pb Ao G;have H:=pb Ao H;have Ab:=pb Ao Ab;have E:=bi Ao E;refine I ?_;refine aX (v:=.tuple #[.agg #[S y1,S y2,S y3,S y4],.int .i64 er]) (cO (r1:=.cell 6 144) (r2:=.tmp 7) Z ?_ ?_) E Z;refine ak (t:=6) (cs:=[S y1,S y2,S y3,S y4]) (b:=Aw.heap.size) (o:=0) fA Z dY ?_ ?_
 exact Z;exact aa0 Ax (i:=0) Z;exact aL (t:=7) GS _
def Qw {d fr:Nat}{r:Int×Int}(hS:Sc sO)(hp:pl<81)(h1:0<fr)(h20:fr<=20)(hh:Yp sO pl n d fr=some r)(hb1:ap w b1 3 #[.int .i64 fr])(ht:Tb w):
 CL 150 #[.agg #[.int .i64 pl,S (nS sO)],QV ((n:Nat):Int) ((d:Nat):Int),pT b1] w (aG w λv w'=>v=.agg #[S (ae r.1),S (ae r.2)]):=by
 have Ap:=bt hb1;refine aC func150 Z (I ?_);refine bx (λ_ Af G=>?_);have hb1:=be Af.2 hb1;have E:=Af.2;refine bx (λAm A2 H=>?_);have hb1:=be A2.2 hb1;have G:=be A2.2 G;have E:=xt E A2.2;refine al bM (λ_ A0 Ab=>?_);have hb1:=be A0.2 hb1;have G:=be A0.2 G;have H:=be A0.2 H;have E:=xt E A0.2;refine I ?_;refine cl S2 (Qr hS hp h1 h20 hh (ht.ext E)) ?_;rintro _ _ O rfl;have hb1:=be O.2 hb1;have G:=be O.2 G;have H:=be O.2 H;have Ab:=be O.2 Ab;have E:=xt E O.2;refine SA Ab (λ_ A1 Ao=>?_);have hb1:=pb A1 hb1;have G:=pb A1 G;have H:=pb A1 H;have E:=bi A1 E;refine I ?_;refine aX (v:=.agg #[S (ae r.1),S (ae r.2)]) (bY  rfl ?_) E Z;refine ak (t:=5) (cs:=[S (ae r.1),S (ae r.2)]) (b:=Am.heap.size) (o:=0) jm Z fw ?_ ?_;exact Z;exact aa0 Ao (i:=0) Z
structure vw (k pl:Nat)(r:Int×Int)(f c:Int):Prop where
 b1:r.1.natAbs<10^90
 b2:r.2.natAbs<10^90
 le:r.1<=r.2
 hf:yT r.1 (aJ (pl+k)) (aJ pl)=f
 hc:yX r.2 (aJ (pl+k)) (aJ pl)=c
 f9:f.natAbs<10^70
 c9:c.natAbs<10^70
 fc:f<=c
def vw.r {r:Int×Int}(h:vw 15 pl r f c)(h1:c<=f+1):RQ pl r f c:=⟨h.b1,h.b2,h.le,h.hf,h.hc,h.f9,h.c9,h.fc,h1⟩
def MQ (h:f+1<c)(hT:0<T):¬aN ((c*T-f*T)*T) (1*(T*T))<=0:=by
 rw[c7,<-Int.sub_mul,Int.mul_assoc]
 have h1:0<T*T:=Int.mul_pos hT hT
 have h2:2*(T*T)<=(c-f)*(T*T):=Int.mul_le_mul_of_nonneg_right U (Int.le_of_lt h1)
 omega
set_option maxRecDepth 100000 in
def MR {m:List UInt8}(e:(l,m)=qR a b)(h:Q9 a b)(ha12:a.natAbs<10^12)(hb12:b<10^12)(e1:(l1,m1)=qR la lb0)(q1:Q9 la lb0)(e2:(l2,m2)=qR ha hb)(q2:Q9 ha hb){r1 r2:Int×Int}(hrt:lN pl a b la lb0 ha hb=true)(hp:pl<=12)(hne:¬((l,m):R)=(l3,m3))(hg:Enters prog g)(hbd1:∀W,aO w W->CL g ([.agg #[.int .i64 ((pl+15:Nat):Int),S (nS (10^(pl+15)))],.agg #[S l,S m]].toArray++lb.toArray) W (aG W λv _=>v=.agg #[S (ae r1.1),S (ae r1.2)]))(hbd2:∀W,aO w W->CL g ([.agg #[.int .i64 ((pl+40:Nat):Int),S (nS (10^(pl+40)))],.agg #[S l,S m]].toArray++lb.toArray) W (aG W λv _=>v=.agg #[S (ae r2.1),S (ae r2.2)]))(hC1:vw 15 pl r1 f1 c1)(hno:f1+1<c1)(hC2:vw 40 pl r2 f2 c2)(hone:c2<=f2+1)(ht:Tb w):
 CL 152 #[.agg #[S l1,S m1,S l2,S m2,S l3,S m3,S l4,S m4,.func (.func g) #[] lb.toArray],.agg #[S l,S m],.int .i64 pl] w (aG w λv w'=>v=.tuple #[IV f2 (aJ pl) c2 (aJ pl),.int .i64 0]):=by
 have Ax:=g9 (k:=pl+15) hC1.b1 U;have B1:=g9 (k:=pl+15) hC1.b2 U;have L2:=g9 (k:=pl) (a:=f1) (qb1 hC1.f9 dc) U;have WV:=g9 (k:=pl) (a:=c1) (qb1 hC1.c9 dc) U;have cm:Q9 (c1*aJ pl-f1*aJ pl) (aJ pl*aJ pl):=ZW hC1.f9 hC1.c9 hp;have Aw:=g9 (k:=pl+40) hC2.b1 U;have Az:=g9 (k:=pl+40) hC2.b2 U;have La:=g9 (k:=pl) (a:=f2) (qb1 hC2.f9 dc) U;have a9:=g9 (k:=pl) (a:=c2) (qb1 hC2.c9 dc) U;have Rm:Q9 (c2*aJ pl-f2*aJ pl) (aJ pl*aJ pl):=ZW hC2.f9 hC2.c9 hp;have KM:=g9 (k:=pl) (a:=1) dc U;refine aC func152 Z (I ?_);refine bx (λbq W2 G=>?_);have As:=W2.2;refine bx (λLi a4 H=>?_);have⟨G,As⟩:=bn a4.2 G As;refine al dQ (λ_ P0 O=>?_);have⟨G,H,As⟩:=cj P0.2 G H As;refine I ?_;refine aa (aP (cs:=[S l1,S m1,S l2,S m2,S l3,S m3,S l4,S m4,.func (.func g) #[] lb.toArray]) (b:=w.heap.size) (o:=0) DI Z xk Z (aa0 G (i:=0) Z) ?_);refine I ?_;refine cl Ip (cB (vu e h ha12 hb12 e1 q1 e2 q2 Z (ht.ext As)) hrt) ?_;rintro _ L3 ad rfl;have⟨G,H,O,As⟩:=fo ad.2 G H O As;refine I ?_;refine aa (FC (a:=(l,m)) (b:=(l3,m3)) (q:=decide ((l,m)=(l3,m3))) Z Z Z ?_);refine I ?_;refine Q6 (λce bZ _ A0=>?_)
 have⟨G,H,O,As⟩:=fo bZ G H O As;refine I ?_;refine cg [(7,7),(11,22),(44,111)] (λa3 e W=>∃i:Nat,(2-i=a3)/\(e 44=.int .i64 i)/\(i<=1)/\(ce.heap.size<=W.heap.size)/\(aO w W)/\(ap W w.heap.size 187 #[S l1,S m1,S l2,S m2,S l3,S m3,S l4,S m4,.func (.func g) #[] lb.toArray])/\(ap W bq.heap.size 33 #[S l,S m])/\(ap W Li.heap.size 144 #[S [],S [],S [],S []])/\(World.ownsRow W L3.heap.size 3 1 (.slice (some ⟨L3.heap.size,0,none⟩) 2 2) 2 [.int .i64 15,.int .i64 40])) (2-0) ⟨0,rfl,rfl,dc,(qa0 _),As,G,H,O,A0⟩ ?_;rintro _ _ _ ⟨i,rfl,EW,hi,cp,E,G,H,O,A0⟩;have cq:=bz E;by_cases hz0:i=0;obtain rfl:i=0:=J
 refine I ?_;obtain⟨bk,oo,hA,E0⟩:=(aa8 A0).cells 0 _ Z;refine aa (aB (i:=0) (oo:=oo+0) ks iT Z hA EW dc Z ?_);refine aa (bB (v:=.int .i64 15) U3 Z Z E0 ?_);refine I ?_;refine aa (ci (a:=(pl:Int)) (b:=15) (c:=((pl+15:Nat):Int)) Z Z JT U ?_);refine clb qj (hc:=nf U (ht.ext E)) (hk:=?_);rintro _ _ K2 rfl;have⟨G,H,O⟩:=wl K2.2 G H O;have A0:=ab K2.2 A0;have E:=xt E K2.2;refine al oP (λ_ E5 cc=>?_);have⟨G,H,O⟩:=wl E5.2 G H O;have A0:=ab E5.2 A0;have E:=xt E E5.2;refine SA cc (λ_ Ay Ab=>?_);have⟨G,H,O⟩:=p0 Ay G H O;have A0:=ax Ay RW A0;have E:=bi Ay E;have co:=iM Ay;refine I ?_;refine aa (lW (f:=g) (lb:=lb) (vs:=[.agg #[.int .i64 (((pl+15):Nat):Int),S (nS (10^(pl+15)))],.agg #[S l,S m]]) hg Z Z (Qj (hbd1 _ E)) ?_);rintro _ _ E7 rfl;have⟨G,H,O⟩:=wl E7.2 G H O;have A0:=ab E7.2 A0;have⟨Ab,E⟩:=bn E7.2 Ab E;refine al bM (λ_ G0 bb=>?_);have⟨G,H,O⟩:=wl G0.2 G H O;have A0:=ab G0.2 A0;have⟨Ab,E⟩:=bn G0.2 Ab E;refine SA bb (λ_ H3 Af=>?_);have⟨G,H,O⟩:=p0 H3 G H O;have A0:=ax H3 RW A0;have⟨Ab,E,_⟩:=kt H3 Ab E;refine I ?_
 refine cl nO (iJ Z Z Ax.fz.1 Ax.fz.2 (Int.ne_of_gt Ax.2.1) (ht.ext E)) ?_;rintro _ _ E1 rfl;have⟨G,H,O⟩:=wl E1.2 G H O;have A0:=ab E1.2 A0;have⟨Ab,Af,E⟩:=cj E1.2 Ab Af E;refine I ?_;refine al aS (λ_ GC P2=>?_);have⟨G,H,O⟩:=wl GC.2 G H O;have A0:=ab GC.2 A0;have⟨Ab,Af,E⟩:=cj GC.2 Ab Af E;refine SA P2 (λ_ H4 Ao=>?_);have⟨G,H,O⟩:=p0 H4 G H O;have A0:=ax H4 RW A0;have⟨Ab,Af,E,_⟩:=Td H4 Ab Af E;refine I ?_;refine cl nO (iJ Z Z B1.fz.1 B1.fz.2 (Int.ne_of_gt B1.2.1) (ht.ext E)) ?_;rintro _ _ C1 rfl;have⟨G,H,O⟩:=wl C1.2 G H O;have A0:=ab C1.2 A0;have⟨Ab,Af,Ao,E⟩:=fo C1.2 Ab Af Ao E;refine I ?_;refine al aS (λ_ E4 a6=>?_);have⟨G,H,O⟩:=wl E4.2 G H O;have A0:=ab E4.2 A0;have⟨Ab,Af,Ao,E⟩:=fo E4.2 Ab Af Ao E;refine SA a6 (λ_ CG Ar=>?_);have⟨G,H,O⟩:=p0 CG G H O;have A0:=ax CG RW A0;have⟨Ab,Af,Ao,E,_⟩:=QW CG Ab Af Ao E;refine I ?_;refine aa (bU (vs:=[(0,QV r1.1 (aJ (pl+15))),(1,QV r1.2 (aJ (pl+15)))]) (cells:=#[S ((qR r1.1 (aJ (pl+15))).1),S ((qR r1.1 (aJ (pl+15))).2),S ((qR r1.2 (aJ (pl+15))).1),S ((qR r1.2 (aJ (pl+15))).2)]) (pl:=[(0,2),(2,2)]) fA dQ q0 Z q0 ?_);refine I ?_
 refine clb BG (hc:=nc (Y:=.tuple #[IV f1 (aJ pl) c1 (aJ pl),.int .i64 0]) (vq (x:=(qR r1.1 (aJ (pl+15)),qR r1.2 (aJ (pl+15)))) Z Z Ax B1 (Int.mul_le_mul_of_nonneg_right hC1.le (Int.le_of_lt Ax.2.1)) U (ht.ext E)) (by rw[hC1.hf,hC1.hc])) (hk:=?_);rintro _ P1 B2 rfl;have⟨G,H,O⟩:=wl B2.2 G H O;have A0:=ab B2.2 A0;have⟨Ab,Af,Ao,Ar,E⟩:=ku B2.2 Ab Af Ao Ar E;refine I ?_;refine al dQ (λ_ E6 X2=>?_);have⟨G,H,O⟩:=wl E6.2 G H O;have A0:=ab E6.2 A0;have⟨Ab,Af,Ao,Ar,E⟩:=ku E6.2 Ab Af Ao Ar E;refine SA X2 (λ_ Cr Av=>?_);have⟨G,H,O⟩:=p0 Cr G H O;have A0:=ax Cr RW A0;have⟨Ab,Af,Ao,Ar,E,_⟩:=QX Cr Ab Af Ao Ar E;refine I ?_;refine aa (aP (cs:=[S ((qR f1 (aJ pl)).1),S ((qR f1 (aJ pl)).2),S ((qR c1 (aJ pl)).1),S ((qR c1 (aJ pl)).2)]) (b:=P1.heap.size) (o:=0) fA Z dY Z (aa0 Av (i:=0) Z) ?_);refine cl BH (vt (x:=(qR f1 (aJ pl),qR c1 (aJ pl))) Z Z L2 WV (Int.mul_le_mul_of_nonneg_right hC1.fc (Int.le_of_lt L2.2.1)) (ht.ext E)) ?_;rintro _ _ E9 rfl;have⟨G,H,O⟩:=wl E9.2 G H O;have A0:=ab E9.2 A0;have⟨Ab,Af,Ao,Ar,Av,E⟩:=I1 E9.2 Ab Af Ao Ar Av E;refine I ?_;refine al aS (λ_ H2 a8=>?_);have⟨G,H,O⟩:=wl H2.2 G H O;have A0:=ab H2.2 A0;have⟨Ab,Af,Ao,Ar,Av,E⟩:=I1 H2.2 Ab Af Ao Ar Av E;refine SA a8 (λ_ ES _=>?_)
 have⟨G,H,O⟩:=p0 ES G H O;have A0:=ax ES RW A0;have⟨Ab,Af,Ao,Ar,Av,E,_⟩:=Vp ES Ab Af Ao Ar Av E;refine I ?_;refine bL 5 ?_;refine sf ?_;refine aR (V:=.agg #[.int .i64 (((pl):Nat):Int),S (nS (10^pl))]) (λ_ _ ac _=>?_) ?_;refine clb qj (hc:=nf U (ht.ext (xt E ac))) (hk:=?_);rintro _ _ cf rfl;have T3:=cf.2;refine I ?_;exact fs ⟨T3,rfl⟩;refine aA (λ_ _ _ _=>by refine aa (u4 (cs:=[.int .i64 (((pl):Nat):Int),S (nS (10^pl))]) (v:=S (nS (10^pl))) DJ Z Z Z U9 Z Z Z ?_);refine I ?_;exact aH) ?_;refine aR (V:=.agg #[S [49],S (nS (10^pl))]) (λ_ _ _ _=>?_) ?_;refine cl nM gI ?_;rintro _ _ ny rfl;have X0:=ny.2;refine I ?_;exact fs ⟨X0,rfl⟩;refine sf ?_;intro _ _ od _;have⟨G,H,O⟩:=wl od.2 G H O;have A0:=ab od.2 A0;have E:=xt E od.2;refine cl nL (vk Z DD cm KM (ht.ext E)) ?_;rintro _ _ FR rfl;have⟨G,H,O⟩:=wl FR.2 G H O;have A0:=ab FR.2 A0;have E:=xt E FR.2;refine I ?_;refine fh (qb2 Value.bool (qa2 (MQ hno (lM pl)))) (I ?_);refine aa (ci (a:=((0:Nat):Int)) (b:=1) (c:=((0+1:Nat):Int)) EW Z JT dc ?_);refine I ?_;exact bI (hk:=by decide) ⟨0+1,rfl,rfl,dc,U,E,G,H,O,A0⟩;obtain rfl:i=1:=J
 refine I ?_;obtain⟨bk,oo,hA,E0⟩:=(aa8 A0).cells 1 _ Z;refine aa (aB (i:=1) (oo:=oo+1) ks iT Z hA EW dc Z ?_);refine aa (bB (v:=.int .i64 40) U3 Z Z E0 ?_);refine I ?_;refine aa (ci (a:=(pl:Int)) (b:=40) (c:=((pl+40:Nat):Int)) Z Z JT U ?_);refine clb qj (hc:=nf U (ht.ext E)) (hk:=?_);rintro _ _ W1 rfl;have⟨G,H,O,E⟩:=fo W1.2 G H O E;refine al oP (λ_ Q0 a0=>?_);have⟨G,H,O,E⟩:=fo Q0.2 G H O E;refine SA a0 (λ_ an A1=>?_);have⟨G,H,O,E,_⟩:=QW an G H O E;refine I ?_;refine aa (lW (f:=g) (lb:=lb) (vs:=[.agg #[.int .i64 (((pl+40):Nat):Int),S (nS (10^(pl+40)))],.agg #[S l,S m]]) hg Z Z (Qj (hbd2 _ E)) ?_);rintro _ _ bp rfl;have⟨G,H,O,A1,E⟩:=ku bp.2 G H O A1 E;refine al bM (λ_ ch VW=>?_);have⟨G,H,O,A1,E⟩:=ku ch.2 G H O A1 E;refine SA VW (λ_ bd A2=>?_);have⟨G,H,O,A1,E,_⟩:=QX bd G H O A1 E;refine I ?_;refine cl nO (iJ Z Z Aw.fz.1 Aw.fz.2 (Int.ne_of_gt Aw.2.1) (ht.ext E)) ?_;rintro _ _ Vm rfl;have⟨G,H,O,A1,A2,E⟩:=I1 Vm.2 G H O A1 A2 E;refine I ?_;refine al aS (λ_ S9 bv=>?_);have⟨G,H,O,A1,A2,E⟩:=I1 S9.2 G H O A1 A2 E;refine SA bv (λ_ b0 Am=>?_);have⟨G,H,O,A1,A2,E,_⟩:=Vp b0 G H O A1 A2 E;refine I ?_
 refine cl nO (iJ Z Z Az.fz.1 Az.fz.2 (Int.ne_of_gt Az.2.1) (ht.ext E)) ?_;rintro _ _ No rfl;have⟨G,H,O,A1,A2⟩:=oF No.2 G H O A1 A2;have⟨Am,E⟩:=bn No.2 Am E;refine I ?_;refine al aS (λ_ L4 bW=>?_);have⟨G,H,O,A1,A2⟩:=oF L4.2 G H O A1 A2;have⟨Am,E⟩:=bn L4.2 Am E;refine SA bW (λ_ KC Ap=>?_);have⟨G,H,O,A1,A2⟩:=yV KC G H O A1 A2;have⟨Am,E,_⟩:=kt KC Am E;refine I ?_;refine aa (bU (vs:=[(0,QV r2.1 (aJ (pl+40))),(1,QV r2.2 (aJ (pl+40)))]) (cells:=#[S ((qR r2.1 (aJ (pl+40))).1),S ((qR r2.1 (aJ (pl+40))).2),S ((qR r2.2 (aJ (pl+40))).1),S ((qR r2.2 (aJ (pl+40))).2)]) (pl:=[(0,2),(2,2)]) fA dQ q0 Z q0 ?_);refine I ?_;refine clb BG (hc:=nc (Y:=.tuple #[IV f2 (aJ pl) c2 (aJ pl),.int .i64 0]) (vq (x:=(qR r2.1 (aJ (pl+40)),qR r2.2 (aJ (pl+40)))) Z Z Aw Az (Int.mul_le_mul_of_nonneg_right hC2.le (Int.le_of_lt Aw.2.1)) U (ht.ext E)) (by rw[hC2.hf,hC2.hc])) (hk:=?_);rintro _ KY Lj rfl;have⟨G,H,O,A1,A2⟩:=oF Lj.2 G H O A1 A2;have⟨Am,Ap,E⟩:=cj Lj.2 Am Ap E;refine I ?_;refine al dQ (λ_ Kp a2=>?_);have⟨G,H,O,A1,A2⟩:=oF Kp.2 G H O A1 A2;have⟨Am,Ap,E⟩:=cj Kp.2 Am Ap E;refine SA a2 (λ_ Lk Aq=>?_);have⟨G,H,O,A1,A2⟩:=yV Lk G H O A1 A2;have⟨Am,Ap,E,_⟩:=Td Lk Am Ap E;refine I ?_
 refine aa (aP (cs:=[S ((qR f2 (aJ pl)).1),S ((qR f2 (aJ pl)).2),S ((qR c2 (aJ pl)).1),S ((qR c2 (aJ pl)).2)]) (b:=KY.heap.size) (o:=0) fA Z dY Z (aa0 Aq (i:=0) Z) ?_);refine cl BH (vt (x:=(qR f2 (aJ pl),qR c2 (aJ pl))) Z Z La a9 (Int.mul_le_mul_of_nonneg_right hC2.fc (Int.le_of_lt La.2.1)) (ht.ext E)) ?_;rintro _ _ N0 rfl;have⟨G,H,O,A1,A2⟩:=oF N0.2 G H O A1 A2;have⟨Am,Ap,Aq,E⟩:=fo N0.2 Am Ap Aq E;refine I ?_;refine al aS (λ_ Ne a5=>?_);have⟨G,H,O,A1,A2⟩:=oF Ne.2 G H O A1 A2;have⟨Am,Ap,Aq,E⟩:=fo Ne.2 Am Ap Aq E;refine SA a5 (λ_ K3 nm=>?_);have⟨G,H,O,A1,A2⟩:=yV K3 G H O A1 A2;have⟨Am,Ap,Aq,E,_⟩:=QW K3 Am Ap Aq E;refine I ?_;refine bL 5 ?_;refine sf ?_;refine aR (V:=.agg #[.int .i64 (((pl):Nat):Int),S (nS (10^pl))]) (λ_ _ W3 _=>?_) ?_;refine clb qj (hc:=nf U (ht.ext (xt E W3))) (hk:=?_);rintro _ _ T2 rfl;have cT:=T2.2;refine I ?_;exact fs ⟨cT,rfl⟩;refine aA (λ_ _ _ _=>by refine aa (u4 (cs:=[.int .i64 (((pl):Nat):Int),S (nS (10^pl))]) (v:=S (nS (10^pl))) DJ Z Z Z U9 Z Z Z ?_);refine I ?_;exact aH) ?_;refine aR (V:=.agg #[S [49],S (nS (10^pl))]) (λ_ _ _ _=>?_) ?_;refine cl nM gI ?_;rintro _ _ cb rfl;have Wa:=cb.2;refine I ?_;exact fs ⟨Wa,rfl⟩;refine sf ?_;intro _ _ wr _
 have⟨G,H,O,A1,A2⟩:=oF wr.2 G H O A1 A2;have⟨Am,Ap,Aq,nm,E⟩:=ku wr.2 Am Ap Aq nm E;refine cl nL (vk Z DD Rm KM (ht.ext E)) ?_;rintro _ _ L1 rfl;have⟨G,H,O,A1,A2⟩:=oF L1.2 G H O A1 A2;have⟨Am,Ap,Aq,nm,E⟩:=ku L1.2 Am Ap Aq nm E;refine I ?_;refine mf (qb2 Value.bool (qa1 (width_le hone (lM pl)))) (I ?_);refine aa (aP (cs:=[S ((qR f2 (aJ pl)).1),S ((qR f2 (aJ pl)).2),S ((qR c2 (aJ pl)).1),S ((qR c2 (aJ pl)).2)]) (b:=KY.heap.size) (o:=0) fA Z dY Z (aa0 Aq (i:=0) Z) ?_);refine SA O (λ_ Ix S0=>?_);have⟨G,H,A1,A2,Am⟩:=yV Ix G H A1 A2 Am;have⟨Ap,Aq,nm⟩:=p0 Ix Ap Aq nm;have E:=bi Ix E;refine I ?_;refine aX (v:=.tuple #[IV f2 (aJ pl) c2 (aJ pl),.int .i64 0]) (cO (r1:=.cell 6 144) (r2:=.tmp 7) Z ?_ ?_) E Z;refine ak (t:=6) (cs:=[S ((qR f2 (aJ pl)).1),S ((qR f2 (aJ pl)).2),S ((qR c2 (aJ pl)).1),S ((qR c2 (aJ pl)).2)]) (b:=Li.heap.size) (o:=0) fA Z dY ?_ ?_;exact Z;exact aa0 S0 (i:=0) Z;exact aL (t:=7) GS _
end
section
open Go Go.Eng Go.RowKit Proofs.Tryz
def RR (pl:Nat)(f c:Int):Value:=.tuple #[.agg #[S (qR f (aJ pl)).1,S (qR f (aJ pl)).2,S (qR c (aJ pl)).1,S (qR c (aJ pl)).2],.int .i64 0]
def F6 (pl:Nat)(bd:Nat->Option (Int×Int))(f c:Int):Prop:=
 c<=f+1/\((∃r,bd 15=some r/\vw 15 pl r f c)\/(∃r r2 f1 c1,bd 15=some r/\vw 15 pl r f1 c1/\f1+1<c1/\bd 40=some r2/\vw 40 pl r2 f c))
def HE {m:List UInt8}{bd:Nat->Option (Int×Int)}(hF:F6 pl bd f c)(e:(l,m)=qR a b)(h:Q9 a b)(ha12:a.natAbs<10^12)(hb12:b<10^12)(e1:(l1,m1)=qR la lb0)(q1:Q9 la lb0)(e2:(l2,m2)=qR ha hb)(q2:Q9 ha hb)(hrt:lN pl a b la lb0 ha hb=true)(hp:pl<=12)(hne:¬((l,m):R)=(l3,m3))(hg:Enters prog g)(hbd:∀k r,k<=40->bd k=some r->∀W,aO w W->CL g ([.agg #[.int .i64 ((pl+k:Nat):Int),S (nS (10^(pl+k)))],.agg #[S l,S m]].toArray++lb.toArray) W (aG W λv _=>v=.agg #[S (ae r.1),S (ae r.2)]))(ht:Tb w):
 CL 152 #[.agg #[S l1,S m1,S l2,S m2,S l3,S m3,S l4,S m4,.func (.func g) #[] lb.toArray],.agg #[S l,S m],.int .i64 ((pl:Nat):Int)] w (aG w λv _=>v=RR pl f c):=by
 obtain⟨h1,⟨r,er,w⟩|⟨r,r2,f1,c1,er,w,n,E,G⟩⟩:=hF
 · exact Qu e h ha12 hb12 e1 q1 e2 q2 hrt hp hne hg (hbd 15 r dc er) (w.r h1) ht
 · exact MR e h ha12 hb12 e1 q1 e2 q2 hrt hp hne hg (hbd 15 r dc er) (hbd 40 r2 dc E) w n G h1 ht
def HF {lb:Int}(hp:pl<=12)(h1:la*b<=a*lb)(h2:a*hb<=ha*b):lN pl a b la lb ha hb=true:=by
 unfold lN
 rw[decide_eq_true U,decide_eq_true (ox.2 h1),decide_eq_true (c7.2 h2)];rfl
def Vl (h:n<=90):Sc (10^n):=⟨Nat.pow_pos dc,Nat.pow_lt_pow_right dc U⟩
def Yq (hb:0<b)(hd:0<d){r:R}(e:r=qR c d)(h:a*d≠c*b):¬(((qR a b).1,(qR a b).2):R)=r:=λx=>h (UQ hb hd (x.trans e))
def RS (ha:a.natAbs<10^12)(h0:0<b)(hb:b<10^12):Q9 a b:=⟨Nat.lt_trans ha dc,h0,by omega⟩
def MS (pl fr n d:Nat)(k:Nat):Option (Int×Int):=Yp (10^(pl+k)) (pl+k) n d fr
def ZX:(([49,48,48],[49]):R)=qR 100 1:=by decide +kernel
def Vn:Q9 100 1:=⟨by decide,by decide,by decide⟩
def MU {fr d:Nat}(h1:0<fr)(h20:fr<=20)(hn:0<n)(hn12:n<10^12)(hd:0<d)(hd12:d<10^12)(h100:n<=100*d)(hp:pl<=12)(hF:F6 pl (MS pl fr n d) f c)(ht:Tb w):
 CL 105 #[QV (n:Int) (d:Int),.int .i64 ((fr:Nat):Int),.int .i64 ((pl:Nat):Int)] w (aG w λv _=>v=RR pl f c):=by
 have G:(n:Int).natAbs<10^12:=J
 have E:(d:Int)<10^12:=J
 have hb:0<(d:Int):=J
 have q:=RS G hb E
 refine Vk h1 h20 (λW b1 e hB=>HE (lb:=[pT b1]) hF Z q G E q01 ZV ZX Vn (HF hp U U) hp (Yq hb dc q01 U) Sf ?_ (ht.ext e)) ht
 intro k r hk hr W' e'
 exact Qw (Vl U) U h1 h20 hr (hB.ext e') ((ht.ext e).ext e')
set_option maxRecDepth 10000 in
def ch1:F6 6 (MS 6 2 14 1) 911 912:=⟨by decide,Or.inl ⟨(911881965554516118,911881965554516350),by decide +kernel,by decide +kernel,by decide +kernel,by decide +kernel,by decide +kernel,by decide +kernel,by decide +kernel,by decide +kernel,by decide +kernel⟩⟩
set_option maxRecDepth 10000 in
def ch2:F6 6 (MS 6 1 1 2) 479500 479501:=⟨by decide,Or.inl ⟨(479500122186953462306,479500122186953462327),by decide +kernel,by decide +kernel,by decide +kernel,by decide +kernel,by decide +kernel,by decide +kernel,by decide +kernel,by decide +kernel,by decide +kernel⟩⟩
def YE (h:qR a b=qR c d):Qv a b=.tuple #[QV c d,.int .i64 0]:=by unfold Qv;rw[h]
def F7 (h:a.natAbs<10^12)(h0:0<b)(hb:b<10^12):Q9 a b:=RS h h0 hb
def ZY (hD:ey W A C Y CY B CB kY p9 vC)(ht:Tb W):
 CL 19 #[.agg #[.slice A 3 C,.slice Y 3 CY,.slice B 3 CB],.agg #[S (br 1 20).1,S (br 1 20).2],.int .i64 6] W (aG W λv _=>v=.tuple #[.int .i64 2,.int .i64 0]):=by
 rw[FH dc dc dc]
 refine A5 (la:=1) (lb:=20) (pl:=6) (j:=2) (fr:=2) (cn:=14) (cd:=1) (F7 dc dc dc) dc dc dc (λW' q=>Ba (hD.ext q) (ht.ext q)) (λW' A1 E B1 D q=>?_) ht
 exact Hj (fr:=2) (cn:=14) (cd:=1) (l6:=14) (l7:=1) (u6:=14) (u7:=1) (c2:=911) (d2:=aJ 6) (e2:=912) (f2:=aJ 6) (c:=911) (d:=aJ 6) (e:=912) (f:=aJ 6) dc
  (λW t=>nc (vn (a:=14) (b:=1) (pl:=6) Z (F7 dc dc dc) dc t) (YE Hx)) (λW t=>nc (DC (a:=14) (b:=1) (pl:=6) Z (F7 dc dc dc) dc t) (YE Hx))
  (F7 dc dc dc) (F7 dc dc dc) dc (F7 dc dc dc)
  (λW p=>MU (n:=14) (d:=1) (fr:=2) (pl:=6) dc dc dc dc dc dc dc dc ch1 ((ht.ext q).ext p)) dc
  (F7 dc dc dc) dc (F7 dc dc dc)
  (λW p=>MU (n:=14) (d:=1) (fr:=2) (pl:=6) dc dc dc dc dc dc dc dc ch1 ((ht.ext q).ext p)) dc (ht.ext q)
def ZZ (hD:ey W A C Y CY B CB kY r4 r5)(ht:Tb W):
 CL 19 #[.agg #[.slice A 2 C,.slice Y 2 CY,.slice B 2 CB],.agg #[S (br 1 20).1,S (br 1 20).2],.int .i64 6] W (aG W λv _=>v=.tuple #[.int .i64 1,.int .i64 0]):=by
 rw[FH dc dc dc]
 refine A5 (la:=1) (lb:=20) (pl:=6) (j:=1) (fr:=1) (cn:=1) (cd:=2) (F7 dc dc dc) dc dc dc (λW' q=>Hu (hD.ext q) (ht.ext q)) (λW' A1 E B1 D q=>?_) ht
 exact Hi (fr:=1) (cn:=1) (cd:=2) (l6:=1) (l7:=2) (u6:=1) (u7:=2) (c2:=479500) (d2:=aJ 6) (e2:=479501) (f2:=aJ 6) (c:=0) (d:=1) (e:=0) (f:=1) dc
  (λW t=>nc (vn (a:=1) (b:=2) (pl:=6) Z (F7 dc dc dc) dc t) (YE Hx)) (λW t=>nc (DC (a:=1) (b:=2) (pl:=6) Z (F7 dc dc dc) dc t) (YE Hx))
  (F7 dc dc dc) (F7 dc dc dc) dc (F7 dc dc dc)
  (λW p=>MU (n:=1) (d:=2) (fr:=1) (pl:=6) dc dc dc dc dc dc dc dc ch2 ((ht.ext q).ext p)) dc (ht.ext q)
def Yr:RH:=λW a hE ht=>Hw hE (λ_ _ _ _ _ _ _ h t=>ZY h t) (λ_ _ _ _ _ _ _ h t=>ZZ h t) ht
end
end Go.Proofs.YtlmihmlnpjkblaaGreatDoor
