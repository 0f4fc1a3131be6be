/- Part of the proof of a statement about risks. -/
import Derived.Test.YthpinljhfnodeaaGreatDoorRjdToDmI
set_option linter.all false
namespace Go.Proofs.YthpinljhfnodeaaGreatDoor
variable {bo ib:Bool}{a T d x y B G X Y p c e:Int}{t1 t2 t3 t4 t5 t6 t8 t9 t10 t11 t13 t14 v1 v2 v3 v4:List UInt8}{k b1 bT pl n i cp lo g gp gc:Nat}{m:Nat->Nat}{A:Option Addr}{W w:World}
section
set_option maxRecDepth 100000
open Go Go.Eng Go.RowKit Proofs.Tryz
def gP {g:Nat->Int}{c:Int}:∀{n:Nat},(∀i,i<n->0<=g i/\g i<=c)->0<=bj g n/\bj g n<=n*c
 |0,_=>by show(0:Int)<=0/\(0:Int)<=0*c;omega
 | n+1,h=>by
   have h1:=gP (n:=n) λi hi=>h i U
   have h2:=h n U
   show 0<=bj g n+g n/\bj g n+g n<=((n+1:Nat):Int)*c
   rw[show((n+1:Nat):Int)*c=n*c+c by rw[Int.natCast_add,Int.add_mul];omega]
   omega
section
variable {A M s L H O qr z:Int}
def Fr.mn (f:Fr A B G):eO (A*X+B) G (A*Y+B) G=qR (A*min X Y+B) G:=by
 rw[PG f.g0]
 congr 1
 have:=f.a0
 rcases Int.le_total X Y with h|h
 · have:=Int.mul_le_mul_of_nonneg_left h (Int.le_of_lt f.a0)
   rw[show min X Y=X by omega];omega
 · have:=Int.mul_le_mul_of_nonneg_left h (Int.le_of_lt f.a0)
   rw[show min X Y=Y by omega];omega
def Fr.mx (f:Fr A B G):li (A*X+B) G (A*Y+B) G=qR (A*max X Y+B) G:=by
 rw[KP f.g0]
 congr 1
 have:=f.a0
 rcases Int.le_total X Y with h|h
 · have:=Int.mul_le_mul_of_nonneg_left h (Int.le_of_lt f.a0)
   rw[show max X Y=Y by omega];omega
 · have:=Int.mul_le_mul_of_nonneg_left h (Int.le_of_lt f.a0)
   rw[show max X Y=X by omega];omega
def Ws (f:Fr A B G)(t:GY M s e L H O qr)(n1:1<=n)(n64:n<=64)(hk:k<=n)(hz:z*(n:Int)=M*(n:Int)+s*(12*(k:Int)-6*(n:Int)))(hb1:au W b1 3 #[.int .i64 ((n:Nat):Int)])(hbT:au W bT 27 (kaA (A*M+B) G (A*s) G (A*e) G (A*L+B) G (A*H+B) G (A*O+B) G (A*qr+B) G))(ht:Tb W):
 CL 97 #[.int .i64 ((k:Nat):Int),pT b1,pT bT] W (aC W λv _=>v=QV (A*z+B) G):=by
 have qn:=f.g0
 have A2:=f.g1
 have hds:=f.dis t.s
 have hG:0<G*(n:Int):=Int.mul_pos qn U
 have hGb:=jq (a:=G) (b:=(n:Int)) (p:=10000) (q:=64) U U
 have Ab:=jq (a:=A*s) (b:=12*(k:Int)-6*(n:Int)) (p:=50000000) (q:=2000) U U
 refine S3 (tw:=12*(k:Int)) (pa:=12*(k:Int)-6*(n:Int)) hb1 hbT Z L7 L7 U (dK U U U) ?_ (dK U U U) (f.szD t.s).q9 (f.szX t.pb.1).q9 (dK U hG U) ?_ ht
 · exact qb1 (λr:R=>Value.tuple #[.agg #[S r.1,S r.2],.int .i64 0]) (aU U U ka5)
 · refine qb1 (λr:R=>Value.tuple #[.agg #[S r.1,S r.2],.int .i64 0]) (aU (Int.mul_pos qn hG) qn ?_)
   have A1:A*s*(12*(k:Int)-6*(n:Int))=A*(z*(n:Int))-A*(M*(n:Int)):=by rw[hz];grind
   rw[A1];grind
end
section
variable {sd:Sd}{P:Int->Prop}{A M s L H O qr ra rb rc rd:Int}{E:Nat->Int}{m:Nat}{x y ck cu:Nat->Nat->Int}{pA:Nat->Array Value}
def cE {P:Program}{f:FuncId}{a:Array Value}{v v':Value}(h:Calls P f a w (aC w λu _=>u=v))(e:v=v'):Calls P f a w (aC w λu _=>u=v'):=e▸h
def Bm.total (h:Bm pl sd P A B G M s e L H O qr)(n1:1<=n)(n64:n<=64)(x1:Sh pl (-6) 1 ra rb)(x2:Sh pl 6 1 rc rd)(hE:∀k,k<=n->E k*(n:Int)=M*(n:Int)+s*(12*(k:Int)-6*(n:Int)))(hm:m<=2)(egp:Enters prog gp)(egc:Enters prog gc)(hPt:∀k,k<n->∀W,Tb W->CL gp #[vC A B G M s e L H O qr,IV (A*E k+B) G (A*E (k+1)+B) G] W (aC W λv W'=>∃c,v=.slice (some ⟨c,0,none⟩) m m/\au W' c 33 (pA k)/\W.heap.size<=c))(hPc:∀k j,k<n->j<m->∀{c:Nat} {W:World},au W c 33 (pA k)->∀i u,([S (qR (A*x k j+B) G).1,S (qR (A*x k j+B) G).2,S (qR (A*y k j+B) G).1,S (qR (A*y k j+B) G).2]:List Value)[i]?=some u->W.cell? ⟨c,0+j*4+i,none⟩=some u)(hx:∀k j,P (x k j))(hy:∀k j,P (y k j))(hCh:∀k j W,Tb W->CL gc #[IV (sd.bL (x k j) (y k j)) (aa pl) (sd.bH (x k j) (y k j)) (aa pl)] W (aC W λv _=>v=IV (ck k j) (aa pl) (cu k j) (aa pl)))(hc:∀k j,0<=ck k j/\ck k j<=cu k j/\cu k j<=aa pl)(ht:Tb w):
 CL 22 #[vC A B G M s e L H O qr,.int .i64 ((n:Nat):Int),.int .i64 ((pl:Nat):Int),.func (.func gp) #[] #[],.func (.func gc) #[] #[]] w (aC w λv _=>v=.tuple #[IV
  (dp (bj (λi=>bj (λj=>if x i j<y i j then og sd.f sd.c (x i j) (y i j)*ck i j else 0) m) n) (aa pl*aa pl) (aa pl)) (aa pl)
  (dz (((rb+aa pl-rc)*aa pl)+bj (λi=>bj (λj=>if x i j<y i j then oM sd.f sd.c (x i j) (y i j)*cu i j else 0) m) n) (aa pl*aa pl) (aa pl)) (aa pl),.int .i64 0]):=by
 have T:=WD h.p5
 have hf:=h.f
 have EP:=h.t.s
 have Am:=h.ok
 generalize htl:(λi j=>if x i j<y i j then og sd.f sd.c (x i j) (y i j)*ck i j else 0)=tl
 generalize hth:(λi j=>if x i j<y i j then oM sd.f sd.c (x i j) (y i j)*cu i j else 0)=th
 rw[show(λi=>bj (λj=>if x i j<y i j then og sd.f sd.c (x i j) (y i j)*ck i j else 0) m)=λi=>bj (tl i) m by rw[<-htl],show(λi=>bj (λj=>if x i j<y i j then oM sd.f sd.c (x i j) (y i j)*cu i j else 0) m)=λi=>bj (th i) m by rw[<-hth]]
 have b1:=x1.bd
 have b2:=x2.bd
 have qn:∀i j,0<=tl i j/\tl i j<=th i j/\th i j<=10^10:=by
  intro i j
  rw[<-htl,<-hth]
  have A1:=Am.mm (X:=x i j) (Y:=y i j)
  have c1:=hc i j
  show 0<=(if x i j<y i j then og sd.f sd.c (x i j) (y i j)*ck i j else 0)/\(if x i j<y i j then og sd.f sd.c (x i j) (y i j)*ck i j else 0)<=(if x i j<y i j then oM sd.f sd.c (x i j) (y i j)*cu i j else 0)/\(if x i j<y i j then oM sd.f sd.c (x i j) (y i j)*cu i j else 0)<=10^10
  split
  · refine⟨Int.mul_nonneg A1.1 c1.1,Int.mul_le_mul A1.2.1 c1.2.1 c1.1 U,?_⟩
    have:=Int.mul_le_mul (show oM sd.f sd.c (x i j) (y i j)<=10^5 by omega) (show cu i j<=10^5 by omega) U dc
    omega
  · omega
 have TT:0<aa pl*aa pl:=Int.mul_pos T.2 T.2
 have TTb:=jq (a:=aa pl) (b:=aa pl) (p:=10^5) (q:=10^5) U U
 have E0:0<=((rb+aa pl-rc)*aa pl)/\((rb+aa pl-rc)*aa pl)<=3*10^10:=by
  have:=Int.mul_nonneg (show 0<=rb+aa pl-rc by omega) (Int.le_of_lt T.2)
  have:=jq (a:=rb+aa pl-rc) (b:=aa pl) (p:=3*10^5) (q:=10^5) U U
  omega
 generalize hr0:((rb+aa pl-rc)*aa pl)=r at E0
 let SL:Nat->Nat->Int:=λk j=>bj (λi=>bj (tl i) m) k+bj (tl k) j
 let SH:Nat->Nat->Int:=λk j=>r+(bj (λi=>bj (th i) m) k+bj (th k) j)
 have hS:∀k j,k<=n->j<=m->0<=SL k j/\SL k j<=SH k j/\SH k j<=10^13:=by
  intro k j hk Ad
  have a1:=gP (g:=tl k) (n:=j) (c:=10^10) λi _=>⟨(qn k i).1,by have:=qn k i;omega⟩
  have a2:=gP (g:=th k) (n:=j) (c:=10^10) λi _=>⟨by have:=qn k i;omega,(qn k i).2.2⟩
  have F1:bj (tl k) j<=bj (th k) j:=jy λi _=>(qn k i).2.1
  have c0:∀i,0<=bj (tl i) m/\bj (tl i) m<=bj (th i) m/\bj (th i) m<=2*10^10:=λi=>by
   have d1:=gP (g:=tl i) (n:=m) (c:=10^10) λj _=>⟨(qn i j).1,by have:=qn i j;omega⟩
   have d2:=gP (g:=th i) (n:=m) (c:=10^10) λj _=>⟨by have:=qn i j;omega,(qn i j).2.2⟩
   have EW:bj (tl i) m<=bj (th i) m:=jy λj _=>(qn i j).2.1
   have:(m:Int)*10^10<=2*10^10:=Int.mul_le_mul_of_nonneg_right U dc
   omega
  have EE:=gP (g:=λi=>bj (tl i) m) (n:=k) (c:=2*10^10) λi _=>⟨(c0 i).1,by have:=c0 i;omega⟩
  have E4:=gP (g:=λi=>bj (th i) m) (n:=k) (c:=2*10^10) λi _=>⟨by have:=c0 i;omega,(c0 i).2.2⟩
  have Ek:bj (λi=>bj (tl i) m) k<=bj (λi=>bj (th i) m) k:=jy λi _=>(c0 i).2.1
  have f1:(k:Int)*(2*10^10)<=64*(2*10^10):=Int.mul_le_mul_of_nonneg_right U dc
  have E9:(j:Int)*10^10<=2*10^10:=Int.mul_le_mul_of_nonneg_right U dc
  show 0<=bj (λi=>bj (tl i) m) k+bj (tl k) j/\bj (λi=>bj (tl i) m) k+bj (tl k) j<=r+(bj (λi=>bj (th i) m) k+bj (th k) j)/\r+(bj (λi=>bj (th i) m) k+bj (th k) j)<=10^13
  omega
 have qT:∀z:Int,0<=z->z<=10^13->Q9 z (aa pl*aa pl):=λz h1 h2=>⟨Nat.lt_of_le_of_lt (show z.natAbs<=10^13 by omega) dc,TT,by omega⟩
 have ivS:∀a c:Int,0<=a->a<=c->c<=10^13->y7 (qR a (aa pl*aa pl),qR c (aa pl*aa pl)):=λa c h1 h2 h3=>⟨_,_,_,_,rfl,rfl,qT a h1 U,qT c U h3,Int.mul_le_mul_of_nonneg_right h2 (Int.le_of_lt TT)⟩
 have As:∀k,SL (k+1) 0=SL k m:=λk=>by
  show bj (λi=>bj (tl i) m) k+bj (tl k) m+0=bj (λi=>bj (tl i) m) k+bj (tl k) m
  omega
 have hsh:∀k,SH (k+1) 0=SH k m:=λk=>by
  show r+(bj (λi=>bj (th i) m) k+bj (th k) m+0)=r+(bj (λi=>bj (th i) m) k+bj (th k) m)
  omega
 have eLn:SL n 0=bj (λi=>bj (tl i) m) n:=by
  show bj (λi=>bj (tl i) m) n+0=_
  omega
 have eHn:SH n 0=r+bj (λi=>bj (th i) m) n:=by
  show r+(bj (λi=>bj (th i) m) n+0)=_
  omega
 have hSn:=hS n 0 (qa0 _) (qa7 _)
 rw[<-eLn,<-eHn]
 have Ax:∀k j,x k j<y k j->tl k j=og sd.f sd.c (x k j) (y k j)*ck k j/\th k j=oM sd.f sd.c (x k j) (y k j)*cu k j:=λk j Ab=>by
  rw[<-htl,<-hth]
  exact⟨if_pos Ab,if_pos Ab⟩
 have Aw:∀k j,¬x k j<y k j->tl k j=0/\th k j=0:=λk j Ab=>by
  rw[<-htl,<-hth]
  exact⟨if_neg Ab,if_neg Ab⟩
 refine KY (SL:=SL) (SH:=SH) (za:=λk=>A*E k+B) (zb:=G) (xl:=λk j=>A*x k j+B) (xh:=λk j=>A*y k j+B) (mk:=λk j=>og sd.f sd.c (x k j) (y k j)) (mu:=λk j=>oM sd.f sd.c (x k j) (y k j)) (bk:=λk j=>sd.bL (x k j) (y k j)) (bu:=λk j=>sd.bH (x k j) (y k j)) (ck:=ck) (cu:=cu) (ne:=λk j=>decide (x k j<y k j)) (pA:=pA)
  h.p1 kc1 n1 n64 hm (λW hW=>p9 hf h.t hW) ⟨by decide,by decide,by decide⟩ ⟨by decide,by decide,by decide⟩ x1 x2 (iv h.p5 U) (iv h.p5 U) (dK U U U) ?_ ?_
  (λk hk W b1 bT h1 h2 h3=>Ws hf h.t n1 n64 hk (hE k hk) h1 h2 h3) egp egc hPt hPc ?_ ?_ ?_ hCh ?_ ?_ ?_ (λk=>⟨As k,hsh k⟩) (λW hW=>mO (x:=(qR (SL n 0) (aa pl*aa pl),qR (SH n 0) (aa pl*aa pl))) Z Z (qT _ hSn.1 U) (qT _ U hSn.2.2) (Int.mul_le_mul_of_nonneg_right hSn.2.1 (Int.le_of_lt TT)) kc1 hW) ht
 · refine qb1 (λr:R=>Value.tuple #[.agg #[S r.1,S r.2],.int .i64 0]) (aU (Int.mul_pos T.2 U) TT ?_)
   show _=(r+(0+0))*_
   rw[<-hr0]
   grind
 · refine aU dc TT ?_
   show 0*(aa pl*aa pl)=(0+0)*1
   omega
 · intro k j W hW
   have h1:=iL (hf.szX (h.pb _ (hx k j))).q9 (hf.szX (h.pb _ (hy k j))).q9 hW
   simp only[dy,hf.lt]at h1
   exact h1
 · intro k j hk Ad A2 W n0 b Ar Ap Ay Av hT Af
   exact h.mass (hx k j) (hy k j) hT Af
 · intro k j hk Ad A2 W n0 b Ar Ap Ay Av hT Af
   exact h.bounds (hx k j) (hy k j) (Int.le_of_lt (of_decide_eq_true A2)) hT Af
 · intro k j hk Ad A2 W hW
   have A1:=Am.mm (X:=x k j) (Y:=y k j)
   have c1:=hc k j
   have l2:og sd.f sd.c (x k j) (y k j)*ck k j<=oM sd.f sd.c (x k j) (y k j)*ck k j:=Int.mul_le_mul_of_nonneg_right A1.2.1 c1.1
   have Aq:og sd.f sd.c (x k j) (y k j)*ck k j<=og sd.f sd.c (x k j) (y k j)*cu k j:=Int.mul_le_mul_of_nonneg_left c1.2.1 A1.1
   have Ao:og sd.f sd.c (x k j) (y k j)*cu k j<=oM sd.f sd.c (x k j) (y k j)*cu k j:=Int.mul_le_mul_of_nonneg_right A1.2.1 U
   have E1:oM sd.f sd.c (x k j) (y k j)*ck k j<=oM sd.f sd.c (x k j) (y k j)*cu k j:=Int.mul_le_mul_of_nonneg_left c1.2.1 U
   have E7:oM sd.f sd.c (x k j) (y k j)*cu k j<=10^5*10^5:=Int.mul_le_mul U U U dc
   have z0:=Int.mul_nonneg A1.1 c1.1
   exact Gy (iv h.p5 U) (iv h.p5 U) (iv h.p5 U) (iv h.p5 U) (qT _ U U) (qT _ U U) (qT _ U U) (qT _ U U) Aq l2 Ao E1 (y7.cell A1.2.1 A1.1 U kc1) (y7.cell c1.2.1 c1.1 c1.2.2 kc1) hW
 · intro k j hk Ad A2 W hW
   obtain⟨t1,t2⟩:=Ax k j (of_decide_eq_true A2)
   have a1:=hS k j U U
   have a2:=qn k j
   have h1:=wJ (x:=(qR (SL k j) (aa pl*aa pl),qR (SH k j) (aa pl*aa pl))) (y:=(qR (tl k j) (aa pl*aa pl),qR (th k j) (aa pl*aa pl))) (ivS _ _ a1.1 a1.2.1 a1.2.2) (ivS _ _ a2.1 a2.2.1 U) Z Z (qT _ a1.1 U) (qT _ U a1.2.2) Z Z (qT _ a2.1 U) (qT _ U U) hW
   rw [aU (c:=SL k (j+1)) (d:=aa pl*aa pl) (Int.mul_pos TT TT) TT (by
    show _=(bj (λi=>bj (tl i) m) k+(bj (tl k) j+tl k j))*_
    rw[show bj (λi=>bj (tl i) m) k+(bj (tl k) j+tl k j)=SL k j+tl k j by show _=bj (λi=>bj (tl i) m) k+bj (tl k) j+tl k j;omega];grind),
    aU (c:=SH k (j+1)) (d:=aa pl*aa pl) (Int.mul_pos TT TT) TT (by
     show _=(r+(bj (λi=>bj (th i) m) k+(bj (th k) j+th k j)))*_
     rw[show r+(bj (λi=>bj (th i) m) k+(bj (th k) j+th k j))=SH k j+th k j by show _=r+(bj (λi=>bj (th i) m) k+bj (th k) j)+th k j;omega];grind),t1,t2]at h1
   exact h1
 · intro k j A2
   obtain⟨t1,t2⟩:=Aw k j (of_decide_eq_false A2)
   constructor
   · show bj (λi=>bj (tl i) m) k+(bj (tl k) j+tl k j)=bj (λi=>bj (tl i) m) k+bj (tl k) j
     omega
   · show r+(bj (λi=>bj (th i) m) k+(bj (th k) j+th k j))=r+(bj (λi=>bj (th i) m) k+bj (th k) j)
     omega
def Og {b a' b' r:Int}(h:a=a')(h':b=b'):(Value.tuple #[IV (dp a (T*T) T) T (dz (r+b) (T*T) T) T,.int .i64 0]:Value)=.tuple #[IV (dp a' (T*T) T) T (dz (r+b') (T*T) T) T,.int .i64 0]:=by rw[h,h']
def oX (E:Nat->Int)(H:Int)(k:Nat):Nat->Int
 |0=>E k
 |1=>max (E k) H
 |_=>E 0
def oY (E:Nat->Int)(L:Int)(k:Nat):Nat->Int
 |0=>min (E (k+1)) L
 |1=>E (k+1)
 |_=>E 0
def Fb {P:Int->Prop}{b:Int}(ha:P a)(hb:P b):P (max a b):=by
 rcases Int.le_total a b with h|h
 · rw[show max a b=b by omega];exact hb
 · rw[show max a b=a by omega];exact ha
def Fe {P:Int->Prop}{b:Int}(ha:P a)(hb:P b):P (min a b):=by
 rcases Int.le_total a b with h|h
 · rw[show min a b=a by omega];exact ha
 · rw[show min a b=b by omega];exact hb
def Bm.consumer (h:Bm pl sd P A B G M s e L H O qr)(n1:1<=n)(n64:n<=64)(x1:Sh pl (-6) 1 ra rb)(x2:Sh pl 6 1 rc rd)(hE:∀k,k<=n->E k*(n:Int)=M*(n:Int)+s*(12*(k:Int)-6*(n:Int)))(hP:∀k,P (E k))(pL:P L)(pH:P H)(ht:Tb w):
 CL 7 #[vC A B G M s e L H O qr,.int .i64 ((n:Nat):Int),.int .i64 ((pl:Nat):Int)] w (aC w λv _=>v=.tuple #[IV
  (dp (sd.conL E L H n) (aa pl*aa pl) (aa pl)) (aa pl)
  (dz (((rb+aa pl-rc)*aa pl)+sd.conH E L H n) (aa pl*aa pl) (aa pl)) (aa pl),.int .i64 0]):=by
 have hf:=h.f
 have q:=λX hX=>(hf.szX (h.pb X hX)).q9
 refine vY (λW hW=>?_) ht
 refine cE (h.total (m:=2) (x:=oX E H) (y:=oY E L) (ck:=λk j=>sd.bL (oX E H k j) (oY E L k j)) (cu:=λk j=>sd.bH (oX E H k j) (oY E L k j))
  (pA:=λk=>#[S (qR (A*E k+B) G).1,S (qR (A*E k+B) G).2,S (qR (A*min (E (k+1)) L+B) G).1,S (qR (A*min (E (k+1)) L+B) G).2,S (qR (A*max (E k) H+B) G).1,S (qR (A*max (E k) H+B) G).2,S (qR (A*E (k+1)+B) G).1,S (qR (A*E (k+1)+B) G).2])
  n1 n64 x1 x2 hE (qa0 _) QC QD (λk _ W hW=>KR (q _ (hP k)) (q _ (hP (k+1))) (q _ pL) (q _ pH) hf.mn hf.mx hW) ?_ ?_ ?_ (λk j W hW=>KU) (λk j=>h.ok.b) hW) ?_
 · intro k j _ qn c W hb
   rcases(by omega:j=0\/j=1)with rfl|rfl
   · exact aa1 hb (i:=0) Z
   · exact aa1 hb (i:=4) Z
 · intro k j
   rcases j with _|_|j
   · exact hP k
   · exact Fb (hP k) pH
   · exact hP 0
 · intro k j
   rcases j with _|_|j
   · exact Fe (hP (k+1)) pL
   · exact hP (k+1)
   · exact hP 0
 · exact Og (fA λi _=>by
    show 0+sd.tcL (E i) (min (E (i+1)) L)+sd.tcL (max (E i) H) (E (i+1))=_
    omega) (fA λi _=>by
    show 0+sd.tcH (E i) (min (E (i+1)) L)+sd.tcH (max (E i) H) (E (i+1))=_
    omega)
def Bm.producer (h:Bm pl sd P A B G M s e L H O qr)(n1:1<=n)(n64:n<=64)(x1:Sh pl (-6) 1 ra rb)(x2:Sh pl 6 1 rc rd)(hE:∀k,k<=n->E k*(n:Int)=M*(n:Int)+s*(12*(k:Int)-6*(n:Int)))(hP:∀k,P (E k))(pL:P L)(pH:P H)(ht:Tb w):
 CL 9 #[vC A B G M s e L H O qr,.int .i64 ((n:Nat):Int),.int .i64 ((pl:Nat):Int)] w (aC w λv _=>v=.tuple #[IV
  (dp (sd.proL (aa pl) E L H n) (aa pl*aa pl) (aa pl)) (aa pl)
  (dz (((rb+aa pl-rc)*aa pl)+sd.proH (aa pl) E L H n) (aa pl*aa pl) (aa pl)) (aa pl),.int .i64 0]):=by
 have hf:=h.f
 have T:=WD h.p5
 have q:=λX hX=>(hf.szX (h.pb X hX)).q9
 refine vZ (λW hW=>?_) ht
 refine cE (h.total (m:=1) (x:=λk _=>max (E k) L) (y:=λk _=>min (E (k+1)) H) (ck:=λk j=>max 0 (aa pl-sd.bH (max (E k) L) (min (E (k+1)) H))) (cu:=λk j=>aa pl-sd.bL (max (E k) L) (min (E (k+1)) H))
  (pA:=λk=>#[S (qR (A*max (E k) L+B) G).1,S (qR (A*max (E k) L+B) G).2,S (qR (A*min (E (k+1)) H+B) G).1,S (qR (A*min (E (k+1)) H+B) G).2])
  n1 n64 x1 x2 hE U QE QF (λk _ W hW=>KS (q _ (hP k)) (q _ (hP (k+1))) (q _ pL) (q _ pH) hf.mx hf.mn hW) ?_ (λk _=>Fb (hP k) pL) (λk _=>Fe (hP (k+1)) pH) ?_ ?_ hW) ?_
 · intro k j _ qn c W hb
   obtain rfl:j=0:=J
   exact aa1 hb (i:=0) Z
 · intro k j W hW
   have b:=h.ok.b (X:=max (E k) L) (Y:=min (E (k+1)) H)
   exact KT T.2 (iv h.p5 U) (iv h.p5 U) (dK U U U) hW
 · intro k j
   have b:=h.ok.b (X:=max (E k) L) (Y:=min (E (k+1)) H)
   omega
 · exact Og (fA λi _=>by
    show 0+sd.tpL (aa pl) (max (E i) L) (min (E (i+1)) H)=_
    omega) (fA λi _=>by
    show 0+sd.tpH (aa pl) (max (E i) L) (min (E (i+1)) H)=_
    omega)
end
def PM {b:Int}(h:Q9 a b)(hk:k<=30):Fz (cG a b*((10^k:Nat):Int))/\(cG a b*((10^k:Nat):Int)).natAbs<10^192:=by
 have h1:(cG a b*((10^k:Nat):Int)).natAbs<10^(90+31):=by
  rw[Int.natAbs_mul,Int.natAbs_natCast]
  exact eK (Nat.lt_of_le_of_lt (rh h.2.1) h.1) (Nat.pow_lt_pow_right dc U)
 have h2:(10:Nat)^(90+31)<10^192:=by decide
 exact ⟨wZ (by have:(10:Nat)^192<10^193:=by decide
               omega),by omega⟩
def GC (pl:Nat)(n d f c:Int):Prop:=∀W,CL 59 #[QV n d,.int .i64 ((pl:Nat):Int)] W (aC W λv _=>v=IV f (aa pl) c (aa pl))
section
variable {b f n:Int}
def xc (ha:Q9 a b)(hb:Q9 c d)(h:a*d<c*b)(W:World):CL 21 #[QV a b,QV c d] W (aC W λv _=>v=.tuple #[.bool true,.bool (decide (aG (a*d) (c*b)=0))]):=nH ha hb (qa1 (dy.2 h))
def PN (ha:Q9 a b)(hb:Q9 c d)(h:¬a*d<c*b)(W:World):CL 21 #[QV a b,QV c d] W (aC W λv _=>v=.tuple #[.bool false,.bool (decide (aG (a*d) (c*b)=0))]):=nH ha hb (qa2 λk=>h (dy.1 k))
def Bn (h:qR a b=qR c d):QV a b=QV c d:=by unfold QV;rw[h]
def vD (ha:Q9 a b)(hb:Q9 c d)(h1:a*d<c*b->qR a b=qR e f)(h2:¬a*d<c*b->qR c d=qR e f)(W:World):CL 106 #[QV a b,QV c d] W (aC W λv _=>v=QV e f):=by
 by_cases h:a*d<c*b
 · exact cE (Bh (xc ha hb h)) (Bn (h1 h))
 · exact cE (Bi (PN ha hb h)) (Bn (h2 h))
def tr (ha:Q9 a b)(hb:Q9 c d)(h1:a*d<c*b->qR c d=qR e f)(h2:¬a*d<c*b->qR a b=qR e f)(W:World):CL 63 #[QV a b,QV c d] W (aC W λv _=>v=QV e f):=by
 by_cases h:a*d<c*b
 · exact cE (Db (xc ha hb h)) (Bn (h1 h))
 · exact cE (Dc (PN ha hb h)) (Bn (h2 h))
def Bo (h:Q9 a b)(hk:k<=30)(W:World):CL 107 #[QV a b,.int .i64 ((k:Nat):Int)] W (aC W λv _=>v=.tuple #[QV (dp a b (aa k)) (aa k),.int .i64 0]):=by
 have qn:=eY (n:=a) h.2.1
 have hm:=PM h hk
 have h1:=Gq (w:=W) h.ok (nR h.2.1 h.fz.1) (nT h.2.1 h.fz.2) qn hk hm.1
 have e:cG a b*((10^k:Nat):Int)/bK a b=dp a b (aa k):=(vy (t:=aa k) qn h.2.1 (ez h.2.1)).1
 rw[e]at h1;exact h1
def K5 (h:Q9 a b)(hk:k<=30)(W:World):CL 108 #[QV a b,.int .i64 ((k:Nat):Int)] W (aC W λv _=>v=.tuple #[QV (dz a b (aa k)) (aa k),.int .i64 0]):=by
 have qn:=eY (n:=a) h.2.1
 have hm:=PM h hk
 have h1:=N8 (w:=W) h.ok (nR h.2.1 h.fz.1) (nT h.2.1 h.fz.2) qn hk hm.1 (wZ (A9 qn hm.2).2.1)
 have e:vL (cG a b*((10^k:Nat):Int)) (bK a b)=dz a b (aa k):=(vy (t:=aa k) qn h.2.1 (ez h.2.1)).2
 rw[e]at h1;exact h1
def GZ (h:-100000000<=n/\n<=100000000)(W:World):CL 58 #[.int .i64 n] W (aC W λv _=>v=QV n 1):=Da h
def L1 (h:-100000000<=n/\n<=100000000):Q9 n 1:=dK U dc dc
def vE (m:Sz n d)(h1:Be (dp (eu n d).1 (eu n d).2 (aa 6)) pl f y)(h2:Be (dz (eu n d).1 (eu n d).2 (aa 6)) pl x c):GC pl n d f c:=by
 intro W
 obtain⟨A2,qn⟩:=yG (n:=n) m.1 m.2.1 m.2.2
 have p1:=iq (n:=n) m.2.1
 have A1:=m.2.1
 have hl:∀W,CL 106 #[QV 9 1,QV n d] W (aC W λv _=>v=QV (if n<9*d then n else 9) (if n<9*d then d else 1)):=vD (L1 dc) m.q9 (λh=>by
  rw[if_neg U,if_neg U]) (λh=>by
  by_cases h9:n<9*d
  · rw[if_pos h9,if_pos h9]
  · rw[if_neg h9,if_neg h9];exact aU A1 dc U)
 have Ab:∀W,CL 63 #[QV (-9) 1,QV (if n<9*d then n else 9) (if n<9*d then d else 1)] W (aC W λv _=>v=QV (eu n d).1 (eu n d).2):=tr (L1 dc) A2 (λh=>by
  unfold eu
  by_cases h9:n<9*d
  · simp only[if_pos h9]at h ⊢
    rw[if_pos U]
  · simp only[if_neg h9]) (λh=>by
  unfold eu
  by_cases h9:n<9*d
  · simp only[if_pos h9]at h ⊢
    rw[if_neg U]
  · simp only[if_neg h9]at h;omega)
 exact Dd (GZ dc) (GZ dc) hl Ab (Bo qn dc) (K5 qn dc) h1 h2
end
def Bp {A:Int}(f:Fr A B G)(hX:Pb X)(hY:Pb Y):CR 21 #[QV (A*X+B) G,QV (A*Y+B) G] (.tuple #[.bool (decide (X<Y)),.bool (decide (aG ((A*X+B)*G) ((A*Y+B)*G)=0))]):=λW=>nH (f.szX hX).q9 (f.szX hY).q9 (decide_eq_decide.2 (dy.trans f.lt))
def Rb (pl:Nat)(n d f c:Int):Prop:=GC pl n d f c/\0<=f/\f<=c/\c<=aa pl
section
variable {A M s L H O qr D f1 c1 f2 c2:Int}
def K6 (hT:0<T)(qx:Q9 x T)(qy:Q9 y T)(W:World):CL 20 #[QV x T,QV y T] W (aC W λv _=>v=QV (x-y) T):=lw qx qy (aU (Int.mul_pos hT hT) hT ka5)
def yU (hT:0<T)(qx:Q9 x T)(W:World):CL 63 #[QV 0 1,QV x T] W (aC W λv _=>v=QV (max 0 x) T):=tr (a:=0) (b:=1) (e:=max 0 x) (f:=T) (L1 dc) qx (λh=>by
 rw[show max 0 x=x by omega]) (λh=>by
 rw[show max 0 x=0 by omega];exact aU dc hT U) W
def Ff (hT:0<T)(qx:Q9 x T)(qy:Q9 y T)(W:World):CL 63 #[QV x T,QV y T] W (aC W λv _=>v=QV (max x y) T):=tr (e:=max x y) (f:=T) qx qy (λh=>by
 rw[show max x y=y by have:=Int.lt_of_mul_lt_mul_right h (Int.le_of_lt hT);omega]) (λh=>by
 rw [show max x y = x by have:¬x<y:=λk=>h (Int.mul_lt_mul_of_pos_right k hT)
                         omega]) W
def K7 (hT:0<T)(qx:Q9 x T)(qy:Q9 y T)(W:World):CL 106 #[QV x T,QV y T] W (aC W λv _=>v=QV (min x y) T):=vD (e:=min x y) (f:=T) qx qy (λh=>by
 rw[show min x y=x by have:=Int.lt_of_mul_lt_mul_right h (Int.le_of_lt hT);omega]) (λh=>by
 rw [show min x y = y by have:¬x<y:=λk=>h (Int.mul_lt_mul_of_pos_right k hT)
                         omega]) W
def Fg (f:Fr A B G)(hX:Pb X)(hY:Pb Y)(hM:Pb M)(hD:0<D/\D<=5000)(p5:pl<=5)(x1:Rb pl (Y-M) D f1 c1)(x2:Rb pl (X-M) D f2 c2)(W:World):
 CL 61 #[QV (A*X+B) G,QV (A*Y+B) G,QV (A*M+B) G,QV (A*D) G,.int .i64 ((pl:Nat):Int)] W (aC W λv _=>v=IV (max 0 (f1-c2)) (aa pl) (max 0 (c1-f2)) (aa pl)):=by
 have T:=WD p5
 obtain⟨x1,Af⟩:=x1
 obtain⟨x2,Ab⟩:=x2
 have z1:=f.szX hX
 have A1:=f.szX hY
 have qn:=f.szX hM
 have A2:=f.g0
 have hd:=f.dis hD
 have Ad:0<G*G*(A*D):=Int.mul_pos (Int.mul_pos A2 A2) hd.1
 exact GA (λW=>lw A1.q9 qn.q9 Z) (λW=>lw z1.q9 qn.q9 Z)
  (λW=>pZ (rm A1.1 A1.2.1 A1.2.2 qn.1 qn.2.1 qn.2.2) (f.szD hD).q9 hd.1 (aU (c:=Y-M) (d:=D) Ad hD.1 ka5))
  (λW=>pZ (rm z1.1 z1.2.1 z1.2.2 qn.1 qn.2.1 qn.2.2) (f.szD hD).q9 hd.1 (aU (c:=X-M) (d:=D) Ad hD.1 ka5))
  x1 x2 (GZ dc) (K6 T.2 (iv p5 ⟨Af.1,by omega⟩) (iv p5 ⟨by omega,Ab.2.2⟩)) (K6 T.2 (iv p5 ⟨by omega,Af.2.2⟩) (iv p5 ⟨Ab.1,by omega⟩))
  (yU T.2 (dK U T.2 U)) (yU T.2 (dK U T.2 U))
end
structure Dj (pl:Nat)(sd:Sd)(P:Int->Prop)(A B G M s e L H O qr:Int):Prop where
 f:Fr A B G
 t:GY M s e L H O qr
 pb:∀X,P X->Pb X
 sh:∀X,P X->GC pl (X-M) s (sd.f X) (sd.c X)
 su:∀X,P X\/X=sd.ct->GC pl (qr-X) e (sd.fu X) (sd.cu X)
 sl:∀X,P X\/X=sd.ct->GC pl (O-X) e (sd.fl X) (sd.cl X)
 ct:2*sd.ct=O+qr
 ok:sd.Ok (aa pl)
 p1:1<=pl
 p5:pl<=5
section
variable {A M s L H O qr:Int}{sd:Sd}{P:Int->Prop}
def Dj.mass (h:Dj pl sd P A B G M s e L H O qr)(hX:P X)(hY:P Y)(W:World):
 CL 61 #[QV (A*X+B) G,QV (A*Y+B) G,QV (A*M+B) G,QV (A*s) G,.int .i64 ((pl:Nat):Int)] W (aC W λv _=>v=IV (og sd.f sd.c X Y) (aa pl) (oM sd.f sd.c X Y) (aa pl)):=
 Fg h.f (h.pb _ hX) (h.pb _ hY) h.t.pb.1 h.t.s h.p5 ⟨h.sh _ hY,h.ok.m Y⟩ ⟨h.sh _ hX,h.ok.m X⟩ W
def Dj.ctb (h:Dj pl sd P A B G M s e L H O qr):Pb sd.ct:=by
 have:=h.ct
 have:=h.t.o
 unfold Pb;omega
def Dj.chance (h:Dj pl sd P A B G M s e L H O qr)(hX:P X\/X=sd.ct)(W:World):
 CL 111 #[vC A B G M s e L H O qr,QV (A*X+B) G,.int .i64 ((pl:Nat):Int)] W (aC W λv _=>v=IV (sd.chL X) (aa pl) (sd.chH X) (aa pl)):=by
 have qn:Pb X:=by
  rcases hX with x|rfl
  · exact h.pb _ x
  · exact h.ctb
 exact Bj (Fg h.f h.t.pb.2.2.2.1 h.t.pb.2.2.2.2 qn h.t.e h.p5 ⟨h.su _ hX,h.ok.u X⟩ ⟨h.sl _ hX,h.ok.l X⟩)
def Dj.bounds (h:Dj pl sd P A B G M s e L H O qr)(hX:P X)(hY:P Y)(W:World):
 CL 62 #[vC A B G M s e L H O qr,QV (A*X+B) G,QV (A*Y+B) G,.int .i64 ((pl:Nat):Int)] W (aC W λv _=>v=IV (sd.bL X Y) (aa pl) (sd.bH X Y) (aa pl)):=by
 have T:=WD h.p5
 have z1:=h.f.szX h.t.pb.2.2.2.1
 have A2:=h.f.szX h.t.pb.2.2.2.2
 have qn:=h.f.g0
 have Af:=h.f.g1
 have c1:=h.ok.ch (X:=X)
 have c2:=h.ok.ch (X:=Y)
 have c3:=h.ok.ch (X:=sd.ct)
 have Ab:=h.ct
 have o1:=h.f.pos h.t.pb.2.2.2.1
 have o2:=h.f.pos h.t.pb.2.2.2.2
 have hA:∀W,CL 19 #[QV (A*O+B) G,QV (A*qr+B) G] W (aC W λv _=>v=QV (A*(O+qr)+2*B) G):=λW=>lv z1.q9 A2.q9 (aU (Int.mul_pos qn qn) qn ka5)
 have hD:∀W,CL 110 #[QV (A*(O+qr)+2*B) G,QV 2 1] W (aC W λv _=>v=QV (A*sd.ct+B) G):=λW=>pZ (dK (by rw[Int.mul_add];omega) qn U) (L1 dc) dc (aU U qn (by rw[<-Ab];grind))
 have hx:=h.chance (X:=X) (Or.inl hX)
 have hy:=h.chance (X:=Y) (Or.inl hY)
 have hl:=K7 T.2 (iv h.p5 (x:=sd.chL X) U) (iv h.p5 (x:=sd.chL Y) U)
 have hm:=Ff T.2 (iv h.p5 (x:=sd.chH X) U) (iv h.p5 (x:=sd.chH Y) U)
 refine Bl hx hy hl hm hA (GZ dc) hD (Bp h.f h.ctb (h.pb _ hX)) (Bp h.f (h.pb _ hY) h.ctb) (h.chance (X:=sd.ct) (Or.inr Z)) (Ff T.2 (iv h.p5 U) (iv h.p5 U)) (λk=>?_) (λAd A1=>?_)
 · have:sd.ct<X\/Y<sd.ct:=k.imp of_decide_eq_true of_decide_eq_true
   unfold Sd.bL Sd.bH;rw[if_neg U]
 · have:=of_decide_eq_false Ad
   have:=of_decide_eq_false A1
   unfold Sd.bL Sd.bH;rw[if_pos U]
end
def kM (A B G:Int)(l:List (Int×Int)):List Value:=l.flatMap λp=>[S (qR (A*p.1+B) G).1,S (qR (A*p.1+B) G).2,S (qR (A*p.2+B) G).1,S (qR (A*p.2+B) G).2]
def iS (l:List (Int×Int))(k:Nat):Int×Int:=l.getD k (0,0)
def vF {A B G:Int}:∀{l:List (Int×Int)} {k:Nat},k<l.length->((kM A B G l).drop (k*4+0)).take 2=[S (qR (A*(iS l k).1+B) G).1,S (qR (A*(iS l k).1+B) G).2]/\((kM A B G l).drop (k*4+2)).take 2=[S (qR (A*(iS l k).2+B) G).1,S (qR (A*(iS l k).2+B) G).2]
 |[],k,h=>by simp at h
 |p::l,0,_=>⟨rfl,rfl⟩
 | p ::l,k+1,h=>by
   have ih:=vF (A:=A) (B:=B) (G:=G) (l:=l) (k:=k) ka3
   have e:∀j,(kM A B G (p::l)).drop ((k+1)*4+j)=(kM A B G l).drop (k*4+j):=λj=>by
    rw[show(k+1)*4+j=4+(k*4+j)by omega,<-List.drop_drop];rfl
   rw[e 0,e 2];exact ih
def Bq (x y:Int):List (Int×Int):=if x<y then[(x,y)]else[]
def sD (E:Nat->Int)(L H:Int)(i:Nat):List (Int×Int):=Bq (E i) (min (E (i+1)) L)++Bq (max (E i) H) (E (i+1))
def sE (E:Nat->Int)(L H:Int)(i:Nat):List (Int×Int):=Bq (max (E i) L) (min (E (i+1)) H)
def Oh (ib:Bool)(E:Nat->Int)(L H:Int)(i:Nat):List (Int×Int):=if ib=true then sE E L H i else sD E L H i
def rx {g:Int->Int->Int}:bj (λk=>g (iS (Bq x y) k).1 (iS (Bq x y) k).2) (Bq x y).length=if x<y then g x y else 0:=by
 unfold Bq
 by_cases h:x<y
 · rw[if_pos h,if_pos h];show(0:Int)+g x y=g x y;omega
 · rw[if_neg h,if_neg h];rfl
def Br {g:Int->Int->Int}{l m:List (Int×Int)}:bj (λk=>g (iS (l++m) k).1 (iS (l++m) k).2) (l++m).length=bj (λk=>g (iS l k).1 (iS l k).2) l.length+bj (λk=>g (iS m k).1 (iS m k).2) m.length:=by
 induction l with
 |nil=>show _=(0:Int)+_;rw[Int.zero_add];rfl
 | cons p l ih=>
   show bj (λk=>g (iS (p::(l++m)) k).1 (iS (p::(l++m)) k).2) ((l++m).length+1)=bj (λk=>g (iS (p::l) k).1 (iS (p::l) k).2) (l.length+1)+_
   rw[rv,rv]
   show g p.1 p.2+bj (λk=>g (iS (l++m) k).1 (iS (l++m) k).2) (l++m).length=g p.1 p.2+bj (λk=>g (iS l k).1 (iS l k).2) l.length+_
   rw[ih];omega
section
variable {A M s L H O qr:Int}{sd:Sd}{P:Int->Prop}{E:Nat->Int}
def K8 (f:Fr A B G)(t:GY M s e L H O qr){z ki:Int}(hki:ki=12*(k:Int))(n1:1<=n)(n64:n<=64)(hk:k<=n)(hz:z*(n:Int)=M*(n:Int)+s*(12*(k:Int)-6*(n:Int))):
 (∀W,CL 58 #[.int .i64 ki] W (aC W λv _=>v=QV ki 1))/\(∀W,CL 110 #[QV ki 1,QV (n:Int) 1] W (aC W λv _=>v=QV ki n))/\(∀W,CL 20 #[QV ki n,QV 6 1] W (aC W λv _=>v=QV (ki-6*n) n))/\
 (∀W,CL 64 #[QV (A*s) G,QV (ki-6*n) n] W (aC W λv _=>v=QV (A*s*(ki-6*n)) (G*n)))/\(∀W,CL 19 #[QV (A*M+B) G,QV (A*s*(ki-6*n)) (G*n)] W (aC W λv _=>v=QV (A*z+B) G)):=by
 subst hki
 have qn:=f.g0
 have Am:=f.g1
 have hds:=f.dis t.s
 have hG:0<G*(n:Int):=Int.mul_pos qn U
 have hGb:=jq (a:=G) (b:=(n:Int)) (p:=10000) (q:=64) U U
 have Ao:=jq (a:=A*s) (b:=12*(k:Int)-6*(n:Int)) (p:=50000000) (q:=2000) U U
 have Af:Q9 (12*(k:Int)) 1:=L1 U
 have A2:Q9 (n:Int) 1:=L1 U
 have Ab:Q9 (12*(k:Int)) n:=dK U U U
 have Ad:Q9 (12*(k:Int)-6*n) n:=dK U U U
 refine⟨λW=>GZ U W,λW=>pZ Af A2 U (aU U U ka5),λW=>lw Ab (L1 dc) (aU U U ka5),λW=>Bg (f.szD t.s).q9 Ad Z,λW=>lv (f.szX t.pb.1).q9 (dK U hG U) (aU (Int.mul_pos qn hG) qn ?_)⟩
 have A1:A*s*(12*(k:Int)-6*(n:Int))=(n:Int)*(A*(z-M)):=by
  have h1:(n:Int)*(A*(z-M))=A*(z*(n:Int)-M*(n:Int)):=by grind
  rw[h1,hz];grind
 rw[A1];grind
def Fr.rmin (f : Fr A B G)(hX:Pb X)(hY:Pb Y)(W:World):CL 106 #[QV (A*X+B) G,QV (A*Y+B) G] W (aC W λv _=>v=QV (A*min X Y+B) G):=vD (e:=A*min X Y+B) (f:=G) (f.szX hX).q9 (f.szX hY).q9 (λh=>by
 rw[show min X Y=X by have:=f.lt.1 h;omega]) (λh=>by
 rw [show min X Y = Y by have:¬X<Y:=λk=>h (f.lt.2 k)
                         omega]) W
def Fr.rmax (f : Fr A B G)(hX:Pb X)(hY:Pb Y)(W:World):CL 63 #[QV (A*X+B) G,QV (A*Y+B) G] W (aC W λv _=>v=QV (A*max X Y+B) G):=tr (e:=A*max X Y+B) (f:=G) (f.szX hX).q9 (f.szX hY).q9 (λh=>by
 rw[show max X Y=Y by have:=f.lt.1 h;omega]) (λh=>by
 rw [show max X Y = X by have:¬X<Y:=λk=>h (f.lt.2 k)
                         omega]) W
def Ta (f:Fr A B G)(t:GY M s e L H O qr)(n1:1<=n)(n64:n<=64)(hE:∀k,k<=n->E k*(n:Int)=M*(n:Int)+s*(12*(k:Int)-6*(n:Int)))(hP:∀k,Pb (E k))(ib:Bool)(i:Nat)(hi:i<n)(W:World):
 CL 60 #[vC A B G M s e L H O qr,.int .i64 ((i:Nat):Int),.int .i64 ((n:Nat):Int),.bool ib] W (aC W λv W'=>∃a c,v=.slice a (Oh ib E L H i).length c/\(Oh ib E L H i).length<=c/\WO W' W.heap.size a (Oh ib E L H i).length (kM A B G (Oh ib E L H i))):=by
 obtain⟨a1,a2,Af,Ab,Ao⟩:=K8 f t (n:=n) (k:=i) (z:=E i) Z n1 n64 U (hE i U)
 obtain⟨b1,b2,b3,b4,b5⟩:=K8 f t (n:=n) (k:=i+1) (z:=E (i+1)) (ki:=12*(((i:Nat):Int)+1)) U n1 n64 U (hE (i+1) U)
 have pL:=t.pb.2.1
 have pH:=t.pb.2.2.1
 have qn:=hP i
 have p1:=hP (i+1)
 have q1:Pb (min (E (i+1)) L):=by unfold Pb at *;omega
 have q2:Pb (max (E i) H):=by unfold Pb at *;omega
 have Am:Pb (min (E (i+1)) H):=by unfold Pb at *;omega
 have A2:Pb (max (E i) L):=by unfold Pb at *;omega
 have h:=Dh (t5:=(qR (A*e) G).1) (t6:=(qR (A*e) G).2) (t11:=(qR (A*O+B) G).1) (WD:=(qR (A*O+B) G).2) (t13:=(qR (A*qr+B) G).1) (t14:=(qR (A*qr+B) G).2) (ib:=ib) (i:=i) (n:=n) (w:=W) U (GZ U) (GZ (n:=6) dc) a1 a2 Af Ab Ao b1 b2 b3 b4 b5 (f.rmin p1 pL) (f.rmax qn pH) (f.rmax qn pL) (f.rmin p1 pH) (Bp f qn q1) (Bp f q2 p1) (Bp f A2 Am)
 have Ad:mP ib (decide (E i<min (E (i+1)) L)) (decide (max (E i) H<E (i+1))) (decide (max (E i) L<min (E (i+1)) H))=(Oh ib E L H i).length:=by
  unfold Oh sD sE Bq mP
  cases ib <;>by_cases s0:E i<min (E (i+1)) L <;>by_cases s1:max (E i) H<E (i+1) <;>by_cases s2:max (E i) L<min (E (i+1)) H <;>simp only[s0,s1,s2,decide_true,decide_false,if_true,if_false] <;>rfl
 have A1:∀a b c:List Value,a=kM A B G [(E i,min (E (i+1)) L)]->b=kM A B G [(max (E i) H,E (i+1))]->c=kM A B G [(max (E i) L,min (E (i+1)) H)]->Ye ib (decide (E i<min (E (i+1)) L)) (decide (max (E i) H<E (i+1))) (decide (max (E i) L<min (E (i+1)) H)) a b c=kM A B G (Oh ib E L H i):=λa b c ha hb hc=>by
  subst ha hb hc
  unfold Oh sD sE Bq Ye
  cases ib <;>by_cases s0:E i<min (E (i+1)) L <;>by_cases s1:max (E i) H<E (i+1) <;>by_cases s2:max (E i) L<min (E (i+1)) H <;>simp only[s0,s1,s2,decide_true,decide_false,if_true,if_false] <;>rfl
 rw[Ad,A1]at h
 · exact h
 · rfl
 · rfl
 · rfl
end
end
section
set_option maxRecDepth 100000
open Go Go.Eng Go.RowKit Proofs.Tryz
attribute [local irreducible] wpListIn Code.wpIn Oper.wpIn Exit.then Exit.inBlock Exit.noGoto
set_option maxHeartbeats 40000000
def qi {p:Prop}(h:p:=by kernel_rfl):p:=h
def Dk {kaA WD z1 z2 m1 m2 a1 a2 a3 a4 n1 n2 k1 k2 b1 b2 b3 b4 s1 s2 r1 r2:List UInt8}{x1 x2 x3 x4 M1 M2 M3 M4 B1 B2 B3 B4 o1 o2 o3 o4 c1 c2 c3 c4 C1 C2 D1 D2 G1 G2 P1 P2 Q1 Q2:Nat->Nat->List UInt8}{ps:Nat->List Value}(n64:n<=64)(hm2:∀i,m i<=2)(hRi:CR 56 #[.int .i64 pl,.int .i64 n] (.tuple #[.bool true,.bool bo]))(hVa:CR 57 #[.agg #[S t1,S t2,S t3,S t4,S t5,S t6,S kaA,S t8,S t9,S t10,S t11,S WD,S t13,S t14]] (.bool true))(hw0:CR 58 #[.int .i64 (0)] (.agg #[S z1,S z2]))(hw6:CR 58 #[.int .i64 (-6)] (.agg #[S m1,S m2]))(hsa:CR 59 #[.agg #[S m1,S m2],.int .i64 pl] (.agg #[S a1,S a2,S a3,S a4]))(hw1:CR 58 #[.int .i64 (1)] (.agg #[S n1,S n2]))(hw7:CR 58 #[.int .i64 (6)] (.agg #[S k1,S k2]))(hsb:CR 59 #[.agg #[S k1,S k2],.int .i64 pl] (.agg #[S b1,S b2,S b3,S b4]))(hs0:CR 20 #[.agg #[S n1,S n2],.agg #[S b1,S b2]] (.agg #[S s1,S s2]))(hr0:CR 19 #[.agg #[S a3,S a4],.agg #[S s1,S s2]] (.agg #[S r1,S r2]))(hMs:∀(i k:Nat) (_:i<n) (_:k<m i),CR 61 #[.agg #[S (x1 i k),S (x2 i k)],.agg #[S (x3 i k),S (x4 i k)],.agg #[S t1,S t2],.agg #[S t3,S t4],.int .i64 pl] (.agg #[S (M1 i k),S (M2 i k),S (M3 i k),S (M4 i k)]))(hBn:∀(i k:Nat) (_:i<n) (_:k<m i),CR 62 #[.agg #[S t1,S t2,S t3,S t4,S t5,S t6,S kaA,S t8,S t9,S t10,S t11,S WD,S t13,S t14],.agg #[S (x1 i k),S (x2 i k)],.agg #[S (x3 i k),S (x4 i k)],.int .i64 pl] (.agg #[S (B1 i k),S (B2 i k),S (B3 i k),S (B4 i k)]))(hi1:∀(i k:Nat) (_:i<n) (_:k<m i),CR 20 #[.agg #[S n1,S n2],.agg #[S (B3 i k),S (B4 i k)]] (.agg #[S (C1 i k),S (C2 i k)]))(hi2:∀(i k:Nat) (_:i<n) (_:k<m i),CR 63 #[.agg #[S z1,S z2],.agg #[S (C1 i k),S (C2 i k)]] (.agg #[S (D1 i k),S (D2 i k)]))(hi3:∀(i k:Nat) (_:i<n) (_:k<m i),CR 20 #[.agg #[S n1,S n2],.agg #[S (B1 i k),S (B2 i k)]] (.agg #[S (G1 i k),S (G2 i k)]))(hp1:∀(i k:Nat) (_:i<n) (_:k<m i),CR 64 #[.agg #[S (M1 i k),S (M2 i k)],.agg #[S (c1 i k),S (c2 i k)]] (.agg #[S (P1 i k),S (P2 i k)]))(ha1:∀(i k:Nat) (_:i<n) (_:k<m i),CR 19 #[.agg #[S (o1 i k),S (o2 i k)],.agg #[S (P1 i k),S (P2 i k)]] (.agg #[S (o1 i (k+1)),S (o2 i (k+1))]))(hp2:∀(i k:Nat) (_:i<n) (_:k<m i),CR 64 #[.agg #[S (M3 i k),S (M4 i k)],.agg #[S (c3 i k),S (c4 i k)]] (.agg #[S (Q1 i k),S (Q2 i k)]))(ha2:∀(i k:Nat) (_:i<n) (_:k<m i),CR 19 #[.agg #[S (o3 i k),S (o4 i k)],.agg #[S (Q1 i k),S (Q2 i k)]] (.agg #[S (o3 i (k+1)),S (o4 i (k+1))]))(hRd:CR 65 #[.agg #[S (o1 n 0),S (o2 n 0),S (o3 n 0),S (o4 n 0)],.int .i64 pl] (.tuple #[.agg #[S v1,S v2,S v3,S v4],.int .i64 (0)]))(hPt:∀i,i<n->∀W,CL 60 #[.agg #[S t1,S t2,S t3,S t4,S t5,S t6,S kaA,S t8,S t9,S t10,S t11,S WD,S t13,S t14],.int .i64 i,.int .i64 n,.bool ib] W (aC W λv W'=>∃A c,v=.slice A (m i) c/\m i<=c/\WO W' W.heap.size A (m i) (ps i)))(hP:∀i k,i<n->k<m i->((ps i).drop (k*4+0)).take 2=[S (x1 i k),S (x2 i k)]/\((ps i).drop (k*4+2)).take 2=[S (x3 i k),S (x4 i k)])(h0:o1 0 0=z1/\o2 0 0=z2/\o3 0 0=r1/\o4 0 0=r2)(hN:∀i,i<n->o1 (i+1) 0=o1 i (m i)/\o2 (i+1) 0=o2 i (m i)/\o3 (i+1) 0=o3 i (m i)/\o4 (i+1) 0=o4 i (m i))(hcT:ib=true->∀i k,D1 i k=c1 i k/\D2 i k=c2 i k/\G1 i k=c3 i k/\G2 i k=c4 i k)(hcF:ib=false->∀i k,B1 i k=c1 i k/\B2 i k=c2 i k/\B3 i k=c3 i k/\B4 i k=c4 i k):
 CL 25 #[.agg #[S t1,S t2,S t3,S t4,S t5,S t6,S kaA,S t8,S t9,S t10,S t11,S WD,S t13,S t14],.int .i64 n,.int .i64 pl,.bool ib] w (aC w λv w'=>v=.tuple #[.agg #[S v1,S v2,S v3,S v4],.int .i64 0]):=by
 refine aE func25 Z (I ?_);refine bx (λAx Ne qn=>?_);have Ad:=Ne.2;refine al ap (λ_ ZE A1=>?_);have⟨qn,Ad⟩:=bD ZE.2 qn Ad;refine I ?_;refine cl HN (hRi _) ?_;rintro _ _ ZT rfl;have⟨qn,A1,Ad⟩:=bC ZT.2 qn A1 Ad;refine I ?_;refine ac (ar (cs:=[S t1,S t2,S t3,S t4,S t5,S t6,S kaA,S t8,S t9,S t10,S t11,S WD,S t13,S t14]) (b:=w.heap.size) (o:=0) aP Z cD Z (aa1 qn (i:=0) qi) ?_);refine I ?_;refine cl QR (hVa _) ?_;rintro _ _ F6 rfl;have⟨qn,A1,Ad⟩:=bC F6.2 qn A1 Ad;refine I ?_;refine cl fg (hw0 _) ?_;rintro _ _ ZB rfl;have⟨qn,A1,Ad⟩:=bC ZB.2 qn A1 Ad;refine cl fg (hw6 _) ?_;rintro _ _ ZM rfl;have⟨qn,A1,Ad⟩:=bC ZM.2 qn A1 Ad;refine I ?_;refine cl xF (hsa _) ?_;rintro _ _ F3 rfl;have⟨qn,A1,Ad⟩:=bC F3.2 qn A1 Ad;refine ac (lk Z ?_);refine cl fg (hw1 _) ?_;rintro _ _ F8 rfl;have⟨qn,A1,Ad⟩:=bC F8.2 qn A1 Ad;refine cl fg (hw7 _) ?_;rintro _ _ ZX rfl;have⟨qn,A1,Ad⟩:=bC ZX.2 qn A1 Ad;refine I ?_;refine cl xF (hsb _) ?_;rintro _ _ ZQ rfl;have⟨qn,A1,Ad⟩:=bC ZQ.2 qn A1 Ad;refine ac (rk Z ?_);refine cl kp (hs0 _) ?_;rintro _ _ ZS rfl;have⟨qn,A1,Ad⟩:=bC ZS.2 qn A1 Ad;refine cl lC (hr0 _) ?_;rintro _ Aw ZO rfl;have⟨qn,A1,Ad⟩:=bC ZO.2 qn A1 Ad
 refine ac (aV (vs:=[(0,.agg #[S z1,S z2]),(1,.agg #[S r1,S r2])]) (cells:=#[S z1,S z2,S r1,S r2]) (pl:=[(0,2),(2,2)]) aJ ap qi Z qi ?_);refine al ap (λ_ G4 Kp=>?_);have⟨qn,A1,Ad⟩:=bC G4.2 qn A1 Ad;refine SA Kp (λZo ZN ZR=>?_);have⟨qn,A1,Ad,_⟩:=mD ZN qn A1 Ad;refine I ?_;refine JT [(13,17),(47,121)] (λE1 e W=>∃i:Nat,(n-i=E1)/\(e 13=.int .i64 i)/\(i<=n)/\(Zo.heap.size<=W.heap.size)/\(bF w W)/\(au W w.heap.size 27 #[S t1,S t2,S t3,S t4,S t5,S t6,S kaA,S t8,S t9,S t10,S t11,S WD,S t13,S t14])/\(au W Ax.heap.size 33 #[S [],S [],S [],S []])/\(au W Aw.heap.size 33 #[S (o1 i 0),S (o2 i 0),S (o3 i 0),S (o4 i 0)])) (n-0) ⟨0,rfl,rfl,(qa7 _),(qa0 _),Ad,qn,A1,(by rw[h0.1,h0.2.1,h0.2.2.1,h0.2.2.2];exact ZR)⟩ ?_;rintro _ _ _ ⟨i,rfl,Zx,hi,Zw,Ao,qn,A1,Ab⟩;have ask:=bz Ao;by_cases h0i:i<n;have a6:=hm2 i;refine I ?_;refine ac (ar (cs:=[S t1,S t2,S t3,S t4,S t5,S t6,S kaA,S t8,S t9,S t10,S t11,S WD,S t13,S t14]) (b:=w.heap.size) (o:=0) aP Z cD Z (aa1 qn (i:=0) qi) ?_);refine I ?_;refine cl QS (hPt i h0i _) ?_;rintro _ Z9 Jx ⟨A,c,rfl,Zy,hPr⟩;have⟨qn,A1,Ab,Ao⟩:=bW Jx.2 qn A1 Ab Ao;refine I ?_;by_cases hm0:m i=0
 refine Gr 1 ?_;have EE:=Ab;rw[<-hm0]at EE;refine I ?_;refine ac (bb (a:=(i:Int)) (b:=1) (c:=((i+1:Nat):Int)) Z Z L7 U ?_);refine I ?_;exact c6 ⟨i+1,rfl,rfl,U,U,Ao,qn,A1,(by rw[(hN i h0i).1,(hN i h0i).2.1,(hN i h0i).2.2.1,(hN i h0i).2.2.2];exact EE)⟩;obtain⟨g,EW,hA,_,A2,Av⟩:=hPr U;have a0:=bt A2;subst hA;refine JT [(15,17),(57,121)] (λE1 e W=>∃k:Nat,(m i-k=E1)/\(e 15=.int .i64 k)/\(k<=m i)/\(Z9.heap.size<=W.heap.size)/\(bF w W)/\(au W w.heap.size 27 #[S t1,S t2,S t3,S t4,S t5,S t6,S kaA,S t8,S t9,S t10,S t11,S WD,S t13,S t14])/\(au W Ax.heap.size 33 #[S [],S [],S [],S []])/\(au W g 33 EW)/\(au W Aw.heap.size 33 #[S (o1 i k),S (o2 i k),S (o3 i k),S (o4 i k)])) (m i-0) ⟨0,rfl,rfl,(qa7 _),(qa0 _),Ao,qn,A1,A2,Ab⟩ ?_;rintro _ _ W1 ⟨k,rfl,a8,hk,Zz,Am,qn,A1,A2,Ab⟩;have Zu:=bz Am;by_cases h0k:k<m i;refine I ?_;have a7:=bt A2;refine bY 17 ?_;refine sf ?_;refine bl (λ_ _ _ _=>by refine ac (ah (A:=some ⟨g,0,none⟩) (bk:=g) (o:=0) (m:=m i) (c:=c) (i:=k) (oo:=0+k*4) gE ay Z Z Z U Z ?_);refine I ?_;exact cz) ?_;refine sf ?_
 refine bl (λ_ _ N1 _=>by have A2:=be N1 A2;refine ac (ar (cs:=[S (x1 i k),S (x2 i k)]) (b:=g) (o:=0+k*4+0) eB Z aM Z (λj u hu=>p7 A2 Av (hP i k h0i h0k).1 j u hu) ?_);refine I ?_;exact cz) ?_;refine sf ?_;refine bl (λ_ _ _ _=>by refine ac (ah (A:=some ⟨g,0,none⟩) (bk:=g) (o:=0) (m:=m i) (c:=c) (i:=k) (oo:=0+k*4) gE ay Z Z Z U Z ?_);refine I ?_;exact cz) ?_;refine sf ?_;refine bl (λ_ _ ZI _=>by have A2:=be ZI A2;refine ac (ar (cs:=[S (x3 i k),S (x4 i k)]) (b:=g) (o:=0+k*4+2) eB Z aM Z (λj u hu=>p7 A2 Av (hP i k h0i h0k).2 j u hu) ?_);refine I ?_;exact cz) ?_;refine bl (λ_ _ _ _=>by refine ac (ak (b:=w.heap.size) (o:=0) (off:=0) (oo:=0) aP Z Z aM Z Z ?_);refine I ?_;exact cz) ?_;refine sf ?_;refine bl (λ_ _ _ _=>by refine ac (ak (b:=w.heap.size) (o:=0) (off:=2) (oo:=2) aP Z Z aM Z Z ?_);refine I ?_;exact cz) ?_;refine sf ?_;refine aF (V:=.agg #[S (M1 i k),S (M2 i k),S (M3 i k),S (M4 i k)]) (λ_ _ _ _=>?_) ?_;refine cl HO (hMs i k h0i h0k _) ?_;rintro _ _ Z7 rfl;have ZU:=Z7.2;refine I ?_;exact fs ⟨ZU,rfl⟩
 refine eU (λv Ay=>∃b:Nat,v=pT b/\W1.heap.size<=b/\au Ay b 33 #[S [],S [],S [],S []]) (hs:=λ_ _ _ k ⟨b,e,l,h⟩=>⟨b,e,l,h.ext k⟩) (λ_ _ K2 _=>?_) ?_;refine al ap (λ_ Ix L2=>?_);have ZW:=Ix.2;refine I ?_;exact fs ⟨ZW,⟨_,rfl,(by have:=bz K2;omega),L2⟩⟩;refine sf ?_;intro _ _ ZZ Zk;have⟨qn,A1,A2,Ab,Am⟩:=eE ZZ.2 qn A1 A2 Ab Am;obtain⟨S1,_,_,EP⟩:=(Zk 16 16 Z Z);have a5:=bt EP;refine SA EP (λF7 ZJ Af=>?_);have⟨qn,A1,A2,Ab,Am,_⟩:=vK ZJ qn A1 A2 Ab Am;refine I ?_;have Zs:=bt A2;refine bY 14 ?_;refine bl (λ_ _ ZY _=>by have qn:=be ZY qn;refine ac (ar (cs:=[S t1,S t2,S t3,S t4,S t5,S t6,S kaA,S t8,S t9,S t10,S t11,S WD,S t13,S t14]) (b:=w.heap.size) (o:=0) aP Z cD Z (aa1 qn (i:=0) qi) ?_);refine I ?_;exact cz) ?_;refine sf ?_;refine bl (λ_ _ _ _=>by refine ac (ah (A:=some ⟨g,0,none⟩) (bk:=g) (o:=0) (m:=m i) (c:=c) (i:=k) (oo:=0+k*4) gE ay Z Z Z U Z ?_);refine I ?_;exact cz) ?_;refine sf ?_;refine bl (λ_ _ ZV _=>by have A2:=be ZV A2;refine ac (ar (cs:=[S (x1 i k),S (x2 i k)]) (b:=g) (o:=0+k*4+0) eB Z aM Z (λj u hu=>p7 A2 Av (hP i k h0i h0k).1 j u hu) ?_);refine I ?_;exact cz) ?_;refine sf ?_
 refine bl (λ_ _ _ _=>by refine ac (ah (A:=some ⟨g,0,none⟩) (bk:=g) (o:=0) (m:=m i) (c:=c) (i:=k) (oo:=0+k*4) gE ay Z Z Z U Z ?_);refine I ?_;exact cz) ?_;refine sf ?_;refine bl (λ_ _ ZF _=>by have A2:=be ZF A2;refine ac (ar (cs:=[S (x3 i k),S (x4 i k)]) (b:=g) (o:=0+k*4+2) eB Z aM Z (λj u hu=>p7 A2 Av (hP i k h0i h0k).2 j u hu) ?_);refine I ?_;exact cz) ?_;refine sf ?_;refine aF (V:=.agg #[S (B1 i k),S (B2 i k),S (B3 i k),S (B4 i k)]) (λ_ _ _ _=>?_) ?_;refine cl QT (hBn i k h0i h0k _) ?_;rintro _ _ Zp rfl;have F4:=Zp.2;refine I ?_;exact fs ⟨F4,rfl⟩;refine eU (λv Ay=>∃b:Nat,v=pT b/\F7.heap.size<=b/\au Ay b 33 #[S [],S [],S [],S []]) (hs:=λ_ _ _ k ⟨b,e,l,h⟩=>⟨b,e,l,h.ext k⟩) (λ_ _ Z2 _=>?_) ?_;refine al ap (λ_ Zm W2=>?_);have W3:=Zm.2;refine I ?_;exact fs ⟨W3,⟨_,rfl,(by have:=bz Z2;omega),W2⟩⟩;refine sf ?_;intro _ _ Zl Wb;have⟨qn,A1,A2,Ab,Af,Am⟩:=kW Zl.2 qn A1 A2 Ab Af Am;obtain⟨T4,_,_,E4⟩:=(Wb 13 17 Z Z);have Zv:=bt E4;refine SA E4 (λT2 X2 Ar=>?_);have⟨qn,A1,A2,Ab,Af,Am,_⟩:=Ck X2 qn A1 A2 Ab Af Am;refine I ?_
 refine Ig [(93,103)] (λe W=>(bF w W)/\(T2.heap.size<=W.heap.size)/\(au W w.heap.size 27 #[S t1,S t2,S t3,S t4,S t5,S t6,S kaA,S t8,S t9,S t10,S t11,S WD,S t13,S t14])/\(au W Ax.heap.size 33 #[S [],S [],S [],S []])/\(au W g 33 EW)/\(au W Aw.heap.size 33 #[S (o1 i k),S (o2 i k),S (o3 i k),S (o4 i k)])/\(au W S1 33 #[S (M1 i k),S (M2 i k),S (M3 i k),S (M4 i k)])/\(au W T4 33 #[S (c1 i k),S (c2 i k),S (c3 i k),S (c4 i k)])) ?_ ?_;rcases qa4 ib with lr|lr;refine I ?_;refine bY 9 ?_;refine aF (V:=.agg #[S z1,S z2]) (λ_ _ _ _=>?_) ?_;refine cl fg (hw0 _) ?_;rintro _ _ ZK rfl;have Wa:=ZK.2;refine I ?_;exact fs ⟨Wa,rfl⟩;refine aF (V:=.agg #[S n1,S n2]) (λ_ _ _ _=>?_) ?_;refine cl fg (hw1 _) ?_;rintro _ _ Z0 rfl;have T3:=Z0.2;refine I ?_;exact fs ⟨T3,rfl⟩;refine sf ?_;refine aF (V:=.agg #[S (C1 i k),S (C2 i k)]) (λ_ _ _ _=>?_) ?_;refine cl kp (hi1 i k h0i h0k _) ?_;rintro _ _ Zn rfl;have ZG:=Zn.2;refine I ?_;exact fs ⟨ZG,rfl⟩;refine aF (V:=.agg #[S (D1 i k),S (D2 i k)]) (λ_ _ _ _=>?_) ?_;refine cl ms (hi2 i k h0i h0k _) ?_;rintro _ _ Zq rfl;have ZC:=Zq.2;refine I ?_;exact fs ⟨ZC,rfl⟩;refine aF (V:=.agg #[S n1,S n2]) (λ_ _ _ _=>?_) ?_;refine cl fg (hw1 _) ?_;rintro _ _ Z1 rfl;have ZD:=Z1.2;refine I ?_;exact fs ⟨ZD,rfl⟩;refine sf ?_;intro _ _ ny _;have⟨qn,A1,A2,Ab,Af⟩:=dY ny.2 qn A1 A2 Ab Af;have⟨Ar,Am⟩:=bD ny.2 Ar Am;refine cl kp (hi3 i k h0i h0k _) ?_;rintro _ _ od rfl;have⟨qn,A1,A2,Ab,Af⟩:=dY od.2 qn A1 A2 Ab Af;have Ar:=be od.2 Ar;have Am:=xt Am od.2
 refine ac (aV (vs:=[(0,.agg #[S (D1 i k),S (D2 i k)]),(1,.agg #[S (G1 i k),S (G2 i k)])]) (cells:=#[S (D1 i k),S (D2 i k),S (G1 i k),S (G2 i k)]) (pl:=[(0,2),(2,2)]) aJ ap qi Z qi ?_);refine SA Ar (λ_ W0 Z8=>?_);have⟨qn,A1,A2,Ab,Af,Am,_⟩:=Ck W0 qn A1 A2 Ab Af Am;refine I ?_;exact sw ⟨Am,U,qn,A1,A2,Ab,Af,(by rw[<-(hcT lr i k).1,<-(hcT lr i k).2.1,<-(hcT lr i k).2.2.1,<-(hcT lr i k).2.2.2];exact Z8)⟩;refine I ?_;exact sw ⟨Am,U,qn,A1,A2,Ab,Af,(by rw[<-(hcF lr i k).1,<-(hcF lr i k).2.1,<-(hcF lr i k).2.2.1,<-(hcF lr i k).2.2.2];exact Ar)⟩;rintro _ _ ⟨Ap,Zt,qn,A1,A2,Ab,Af,Aq⟩;refine I ?_;refine bY 7 ?_;refine sf ?_;refine aF (V:=.agg #[S (P1 i k),S (P2 i k)]) (λ_ _ _ _=>?_) ?_;refine cl xG (hp1 i k h0i h0k _) ?_;rintro _ _ R1 rfl;have Z5:=R1.2;refine I ?_;exact fs ⟨Z5,rfl⟩;refine sf ?_;intro _ _ F2 _;have⟨qn,A1,A2,Ab,Af⟩:=dY F2.2 qn A1 A2 Ab Af;have⟨Aq,Ap⟩:=bD F2.2 Aq Ap;refine cl lC (ha1 i k h0i h0k _) ?_;rintro _ _ E9 rfl;have⟨qn,A1,A2,Ab,Af⟩:=dY E9.2 qn A1 A2 Ab Af;have⟨Aq,Ap⟩:=bD E9.2 Aq Ap;refine I ?_;refine SA Ab (λ_ ZL As=>?_);have⟨qn,A1,A2,Af,Aq,Ap,_⟩:=Ck ZL qn A1 A2 Af Aq Ap;refine I ?_;refine bY 7 ?_;refine sf ?_;refine aF (V:=.agg #[S (Q1 i k),S (Q2 i k)]) (λ_ _ _ _=>?_) ?_;refine cl xG (hp2 i k h0i h0k _) ?_
 rintro _ _ wr rfl;have G3:=wr.2;refine I ?_;exact fs ⟨G3,rfl⟩;refine sf ?_;intro _ _ Ek _;have⟨qn,A1,A2,As,Af⟩:=dY Ek.2 qn A1 A2 As Af;have⟨Aq,Ap⟩:=bD Ek.2 Aq Ap;refine cl lC (ha2 i k h0i h0k _) ?_;rintro _ _ E7 rfl;have⟨qn,A1,A2,As,Af⟩:=dY E7.2 qn A1 A2 As Af;have⟨Aq,Ap⟩:=bD E7.2 Aq Ap;refine I ?_;refine SA As (λ_ No arr=>?_);have⟨qn,A1,A2,Af,Aq,Ap,_⟩:=Ck No qn A1 A2 Af Aq Ap;refine I ?_;refine ac (bb (a:=(k:Int)) (b:=1) (c:=((k+1:Nat):Int)) Z Z L7 U ?_);refine I ?_;exact c6 ⟨k+1,rfl,rfl,U,U,Ap,qn,A1,A2,arr⟩;have Z6:k=m i:=J
 rw[Z6]at Ab;refine I ?_;refine ac (bb (a:=(i:Int)) (b:=1) (c:=((i+1:Nat):Int)) Z Z L7 U ?_);refine I ?_;exact c6 ⟨i+1,rfl,rfl,U,U,Am,qn,A1,(by rw[(hN i h0i).1,(hN i h0i).2.1,(hN i h0i).2.2.1,(hN i h0i).2.2.2];exact Ab)⟩;have ZP:i=n:=J
 rw[ZP]at Ab;refine I ?_;(try refine ac (ar (cs:=[S (o1 n 0),S (o2 n 0),S (o3 n 0),S (o4 n 0)]) (b:=Aw.heap.size) (o:=0) aJ Z ay Z (aa1 Ab (i:=0) Z) ?_));refine I ?_;refine cl QU (hRd _) ?_;rintro _ ZA Z3 rfl;have⟨qn,A1,Ab,Ao⟩:=bW Z3.2 qn A1 Ab Ao;refine I ?_;refine al ap (λ_ ZH Zr=>?_);have⟨qn,A1,Ab,Ao⟩:=bW ZH.2 qn A1 Ab Ao;refine SA Zr (λ_ TT E0=>?_);have⟨qn,A1,Ab,Ao,_⟩:=l7 TT qn A1 Ab Ao;refine I ?_;(try refine ac (ar (cs:=[S v1,S v2,S v3,S v4]) (b:=ZA.heap.size) (o:=0) aJ Z ay Z (aa1 E0 (i:=0) Z) ?_));refine SA A1 (λ_ F1 F5=>?_);have⟨qn,Ab,E0⟩:=kt F1 qn Ab E0;have Ao:=bB F1 Ao;refine I ?_;refine aI (v:=.tuple #[.agg #[S v1,S v2,S v3,S v4],.int .i64 0]) (cn (r1:=.cell 8 33) (r2:=.tmp 9) Z ?_ ?_) Ao Z;refine ag (t:=8) (cs:=[S v1,S v2,S v3,S v4]) (b:=Ax.heap.size) (o:=0) aJ Z ay ?_ ?_;exact Z;exact aa1 F5 (i:=0) Z;exact aD (t:=9) Rd _
def sn {kaA WD:List UInt8}(hRi:CR 56 #[.int .i64 p,.int .i64 c] (.tuple #[.bool false,.bool bo])):
 CL 25 #[.agg #[S t1,S t2,S t3,S t4,S t5,S t6,S kaA,S t8,S t9,S t10,S t11,S WD,S t13,S t14],.int .i64 c,.int .i64 p,.bool ib] w (aC w λv w'=>v=.tuple #[.agg #[S [],S [],S [],S []],.int .i64 150]):=by
 refine aE func25 Z (I ?_);refine bx (λAf Ap A1=>?_);have qn:=Ap.2;refine al ap (λ_ Ao A2=>?_);have⟨A1,qn⟩:=bD Ao.2 A1 qn;refine I ?_;refine cl HN (hRi _) ?_;rintro _ _ Am rfl;have⟨A1,A2,qn⟩:=bC Am.2 A1 A2 qn;refine I ?_;refine SA A2 (λ_ Ab Ad=>?_);have A1:=pb Ab A1;have qn:=bB Ab qn;refine I ?_;refine aI (v:=.tuple #[.agg #[S [],S [],S [],S []],.int .i64 150]) (cn (r1:=.cell 8 33) (r2:=.tmp 9) Z ?_ ?_) qn Z;refine ag (t:=8) (cs:=[S [],S [],S [],S []]) (b:=Af.heap.size) (o:=0) aJ Z ay ?_ ?_;exact Z;exact aa1 Ad (i:=0) Z;exact aD (t:=9) Rd _
def xd {kaA WD:List UInt8}(hT:CR 25 #[.agg #[S t1,S t2,S t3,S t4,S t5,S t6,S kaA,S t8,S t9,S t10,S t11,S WD,S t13,S t14],.int .i64 c,.int .i64 p,.bool false] (.tuple #[.agg #[S v1,S v2,S v3,S v4],.int .i64 e])):
 CL 8 #[.agg #[S t1,S t2,S t3,S t4,S t5,S t6,S kaA,S t8,S t9,S t10,S t11,S WD,S t13,S t14],.int .i64 c,.int .i64 p] w (aC w λv w'=>v=.tuple #[.agg #[S v1,S v2,S v3,S v4],.int .i64 e]):=by
 refine aE func8 Z (I ?_);refine bx (λAf Ap qn=>?_);have A1:=Ap.2;refine al ap (λ_ Ao A2=>?_);have⟨qn,A1⟩:=bD Ao.2 qn A1;refine I ?_;refine ac (ar (cs:=[S t1,S t2,S t3,S t4,S t5,S t6,S kaA,S t8,S t9,S t10,S t11,S WD,S t13,S t14]) (b:=w.heap.size) (o:=0) aP Z cD Z (aa1 qn (i:=0) qi) ?_);refine I ?_;refine cl HM (hT _) ?_;rintro _ _ Am rfl;have⟨qn,A2,A1⟩:=bC Am.2 qn A2 A1;refine I ?_;refine SA A2 (λ_ Ab Ad=>?_);have qn:=pb Ab qn;have A1:=bB Ab A1;refine I ?_;refine aI (v:=.tuple #[.agg #[S v1,S v2,S v3,S v4],.int .i64 e]) (cn (r1:=.cell 6 33) (r2:=.tmp 7) Z ?_ ?_) A1 Z;refine ag (t:=6) (cs:=[S v1,S v2,S v3,S v4]) (b:=Af.heap.size) (o:=0) aJ Z ay ?_ ?_;exact Z;exact aa1 Ad (i:=0) Z;exact aD (t:=7) Rd _
def xe {kaA WD:List UInt8}(hT:CR 25 #[.agg #[S t1,S t2,S t3,S t4,S t5,S t6,S kaA,S t8,S t9,S t10,S t11,S WD,S t13,S t14],.int .i64 c,.int .i64 p,.bool true] (.tuple #[.agg #[S v1,S v2,S v3,S v4],.int .i64 e])):
 CL 10 #[.agg #[S t1,S t2,S t3,S t4,S t5,S t6,S kaA,S t8,S t9,S t10,S t11,S WD,S t13,S t14],.int .i64 c,.int .i64 p] w (aC w λv w'=>v=.tuple #[.agg #[S v1,S v2,S v3,S v4],.int .i64 e]):=by
 refine aE func10 Z (I ?_);refine bx (λAf Ap qn=>?_);have A1:=Ap.2;refine al ap (λ_ Ao A2=>?_);have⟨qn,A1⟩:=bD Ao.2 qn A1;refine I ?_;refine ac (ar (cs:=[S t1,S t2,S t3,S t4,S t5,S t6,S kaA,S t8,S t9,S t10,S t11,S WD,S t13,S t14]) (b:=w.heap.size) (o:=0) aP Z cD Z (aa1 qn (i:=0) qi) ?_);refine I ?_;refine cl HM (hT _) ?_;rintro _ _ Am rfl;have⟨qn,A2,A1⟩:=bC Am.2 qn A2 A1;refine I ?_;refine SA A2 (λ_ Ab Ad=>?_);have qn:=pb Ab qn;have A1:=bB Ab A1;refine I ?_;refine aI (v:=.tuple #[.agg #[S v1,S v2,S v3,S v4],.int .i64 e]) (cn (r1:=.cell 6 33) (r2:=.tmp 7) Z ?_ ?_) A1 Z;refine ag (t:=6) (cs:=[S v1,S v2,S v3,S v4]) (b:=Af.heap.size) (o:=0) aJ Z ay ?_ ?_;exact Z;exact aa1 Ad (i:=0) Z;exact aD (t:=7) Rd _
end
section
open Go Go.Eng Go.RowKit Proofs.Tryz
def Dl (hT:0<T)(qx:Q9 x T)(qy:Q9 y T)(W:World):CL 19 #[QV x T,QV y T] W (aC W λv _=>v=QV (x+y) T):=lv qx qy (aU (Int.mul_pos hT hT) hT ka5)
def K9 (qx:Q9 x T)(qy:Q9 y T)(W:World):CL 64 #[QV x T,QV y T] W (aC W λv _=>v=QV (x*y) (T*T)):=Bg qx qy Z
def Dm (hT:0<T)(q:Q9 y T)(W:World):CL 20 #[QV 1 1,QV y T] W (aC W λv _=>v=QV (T-y) T):=lw (L1 dc) q (aU U hT ka5)
def kN (t:Nat->Nat->Int)(m:Nat->Nat)(i k:Nat):Int:=bj (λj=>bj (t j) (m j)) i+bj (t i) k
def La {t:Nat->Nat->Int}:kN t m i (k+1)=kN t m i k+t i k:=(Int.add_assoc ..).symm
def Lb {t:Nat->Nat->Int}:kN t m (i+1) 0=kN t m i (m i):=Int.add_zero _
def Oi {t:Nat->Nat->Int}(hm:∀i,m i<=2)(h:∀i k,i<n->k<m i->0<=t i k/\t i k<=c)(hi:i<n\/(i=n/\k=0))(hk:k<=m i\/k=0)(c0:0<=c):0<=kN t m i k/\kN t m i k<=((i:Int)*2+2)*c:=by
 have h1:=gP (g:=λj=>bj (t j) (m j)) (c:=2*c) (n:=i) λj qn=>by
  have a:=gP (g:=t j) (c:=c) (n:=m j) λk hk=>h j k U hk
  have b:=hm j
  have d:((m j:Nat):Int)*c<=2*c:=Int.mul_le_mul_of_nonneg_right U c0
  exact⟨a.1,by omega⟩
 have h2:0<=bj (t i) k/\bj (t i) k<=2*c:=by
  by_cases hk0:k=0
  · subst hk0;show(0:Int)<=0/\(0:Int)<=2*c;omega
  · have A1:k<=m i:=J
    have a:=gP (g:=t i) (c:=c) (n:=k) λj qn=>h i j U U
    have b:=hm i
    have d:((k:Nat):Int)*c<=2*c:=Int.mul_le_mul_of_nonneg_right U c0
    exact⟨a.1,by omega⟩
 have e:((i:Int)*2+2)*c=(i:Int)*(2*c)+2*c:=by grind
 unfold kN
 rw[e];omega
def Oj {A M s L H O qr:Int}(f:Fr A B G)(t:GY M s e L H O qr)(W:World):CL 57 #[vC A B G M s e L H O qr] W (aC W λv _=>v=.bool true):=by
 obtain⟨b1,b2,b3,b4,b5⟩:=t.pb
 have d1:=f.dis t.s
 have d2:=f.dis t.e
 have hs:∀a b:Int,Sz a b->∀W,CL 105 #[QV a b] W (aC W λv _=>∃nb:Bool,v=.tuple #[.bool true,.bool nb]):=λa b h W=>by
  have h1:=vw (x:=(qR a b).1) (y:=(qR a b).2) (w:=W) (gF h.q9).1 (gF h.q9).2
  rw[show CX ((qR a b).1,(qR a b).2)=true from PL h.q9 h.1 h.2.2]at h1;exact h1
 exact Df (hs _ _ (f.szX b1)) (hs _ _ (f.szD t.s)) (hs _ _ (f.szD t.e)) (hs _ _ (f.szX b2)) (hs _ _ (f.szX b3)) (hs _ _ (f.szX b4)) (hs _ _ (f.szX b5)) (GZ (n:=0) dc) (xc (L1 dc) (f.szD t.s).q9 U) (xc (L1 dc) (f.szD t.e).q9 U) (xc (f.szX b2).q9 (f.szX b3).q9 (f.lt.2 t.l.2.1)) (xc (f.szX b4).q9 (f.szX b5).q9 (f.lt.2 t.o.2.1))
def Ol (hx:Q9 x T)(hy:Q9 y T)(hT:0<T)(hxy:x<=y)(p5:pl<=30)(W:World):CL 65 #[IV x T y T,.int .i64 ((pl:Nat):Int)] W (aC W λv _=>v=.tuple #[IV (dp x T (aa pl)) (aa pl) (dz y T (aa pl)) (aa pl),.int .i64 0]):=
 C0 (λW=>CZ (λW=>cB (ef _ _ _ (gF hx).1 (gF hx).2) hx.ok) (λW=>cB (ef _ _ _ (gF hy).1 (gF hy).2) hy.ok) (λW=>Bf hx hy) (bS.2 (Int.mul_le_mul_of_nonneg_right hxy (Int.le_of_lt hT)))) (Bo hx p5) (K5 hy p5)
section
variable {A M s L H O qr ra rb rc rd:Int}{sd:Sd}{P:Int->Prop}{E:Nat->Int}
def ry {l:Nat->List (Int×Int)}(hl:sD E L H=l)(hP:∀k,P (E k))(pL:P L)(pH:P H)(hk:k<(l i).length):P (iS (l i) k).1/\P (iS (l i) k).2:=by
 rw[<-hl]at hk ⊢
 have a:=Fe (hP (i+1)) pL
 have b:=Fb (hP i) pH
 have key:∀p∈sD E L H i,P p.1/\P p.2:=λp qn=>by
  unfold sD Bq at qn
  rcases List.mem_append.1 qn with x|x
  · split at x
    · obtain rfl:=List.mem_singleton.1 x;exact⟨hP i,a⟩
    · cases x
  · split at x
    · obtain rfl:=List.mem_singleton.1 x;exact⟨b,hP (i+1)⟩
    · cases x
 unfold iS
 rw[List.getD_eq_getElem?_getD,List.getElem?_eq_getElem hk]
 exact key _ (List.getElem_mem hk)
def sF :bj (λk=>og sd.f sd.c (iS (sD E L H i) k).1 (iS (sD E L H i) k).2*sd.bL (iS (sD E L H i) k).1 (iS (sD E L H i) k).2) (sD E L H i).length=sd.tcL (E i) (min (E (i+1)) L)+sd.tcL (max (E i) H) (E (i+1)):=by
 unfold sD
 have h:=Br (g:=λx y=>og sd.f sd.c x y*sd.bL x y) (l:=Bq (E i) (min (E (i+1)) L)) (m:=Bq (max (E i) H) (E (i+1)))
 have h1:=rx (g:=λx y=>og sd.f sd.c x y*sd.bL x y) (x:=E i) (y:=min (E (i+1)) L)
 have h2:=rx (g:=λx y=>og sd.f sd.c x y*sd.bL x y) (x:=max (E i) H) (y:=E (i+1))
 rw[h1,h2]at h;exact h
def sG :bj (λk=>oM sd.f sd.c (iS (sD E L H i) k).1 (iS (sD E L H i) k).2*sd.bH (iS (sD E L H i) k).1 (iS (sD E L H i) k).2) (sD E L H i).length=sd.tcH (E i) (min (E (i+1)) L)+sd.tcH (max (E i) H) (E (i+1)):=by
 unfold sD
 have h:=Br (g:=λx y=>oM sd.f sd.c x y*sd.bH x y) (l:=Bq (E i) (min (E (i+1)) L)) (m:=Bq (max (E i) H) (E (i+1)))
 have h1:=rx (g:=λx y=>oM sd.f sd.c x y*sd.bH x y) (x:=E i) (y:=min (E (i+1)) L)
 have h2:=rx (g:=λx y=>oM sd.f sd.c x y*sd.bH x y) (x:=max (E i) H) (y:=E (i+1))
 rw[h1,h2]at h;exact h
def rz {l:Nat->List (Int×Int)}(hl:sE E L H=l)(hP:∀k,P (E k))(pL:P L)(pH:P H)(hk:k<(l i).length):P (iS (l i) k).1/\P (iS (l i) k).2:=by
 rw[<-hl]at hk ⊢
 have a:=Fe (hP (i+1)) pH
 have b:=Fb (hP i) pL
 have key:∀p∈sE E L H i,P p.1/\P p.2:=λp qn=>by
  unfold sE Bq at qn
  split at qn
  · obtain rfl:=List.mem_singleton.1 qn;exact⟨b,a⟩
  · cases qn
 unfold iS
 rw[List.getD_eq_getElem?_getD,List.getElem?_eq_getElem hk]
 exact key _ (List.getElem_mem hk)
def sH :bj (λk=>og sd.f sd.c (iS (sE E L H i) k).1 (iS (sE E L H i) k).2*max 0 (aa pl-sd.bH (iS (sE E L H i) k).1 (iS (sE E L H i) k).2)) (sE E L H i).length=sd.tpL (aa pl) (max (E i) L) (min (E (i+1)) H):=
 rx (g:=λx y=>og sd.f sd.c x y*max 0 (aa pl-sd.bH x y))
def sI :bj (λk=>oM sd.f sd.c (iS (sE E L H i) k).1 (iS (sE E L H i) k).2*(aa pl-sd.bL (iS (sE E L H i) k).1 (iS (sE E L H i) k).2)) (sE E L H i).length=sd.tpH (aa pl) (max (E i) L) (min (E (i+1)) H):=
 rx (g:=λx y=>oM sd.f sd.c x y*(aa pl-sd.bL x y))
set_option maxRecDepth 100000 in
def Dj.total (h:Dj pl sd P A B G M s e L H O qr)(n1:1<=n)(n64:n<=64)(x1:Rb pl (-6) 1 ra rb)(x2:Rb pl 6 1 rc rd)(hE:∀k,k<=n->E k*(n:Int)=M*(n:Int)+s*(12*(k:Int)-6*(n:Int)))(hP:∀k,P (E k)){l:Nat->List (Int×Int)}{X Y ck cu tl th:Nat->Nat->Int}(hl:Oh ib E L H=l)(hX:∀i k,(iS (l i) k).1=X i k)(hY:∀i k,(iS (l i) k).2=Y i k)(em:∀i,(l i).length=m i)(hm2:∀i,m i<=2)(hmem:∀i k,k<m i->P (X i k)/\P (Y i k))(hc:∀i k,0<=ck i k/\ck i k<=cu i k/\cu i k<=aa pl)(hT:ib=true->∀i k,max 0 (aa pl-sd.bH (X i k) (Y i k))=ck i k/\aa pl-sd.bL (X i k) (Y i k)=cu i k)(hF:ib=false->∀i k,sd.bL (X i k) (Y i k)=ck i k/\sd.bH (X i k) (Y i k)=cu i k)(htl:∀i k,og sd.f sd.c (X i k) (Y i k)*ck i k=tl i k)(hth:∀i k,oM sd.f sd.c (X i k) (Y i k)*cu i k=th i k)(W:World):
 CL 25 #[vC A B G M s e L H O qr,.int .i64 ((n:Nat):Int),.int .i64 ((pl:Nat):Int),.bool ib] W (aC W λv _=>v=.tuple #[IV
  (dp (kN tl m n 0) (aa pl*aa pl) (aa pl)) (aa pl)
  (dz (((rb+aa pl-rc)*aa pl)+kN th m n 0) (aa pl*aa pl) (aa pl)) (aa pl),.int .i64 0]):=by
 have T:=WD h.p5
 have Ab:=h.ok
 have TT:0<aa pl*aa pl:=Int.mul_pos T.2 T.2
 have TTb:=jq (a:=aa pl) (b:=aa pl) (p:=10^5) (q:=10^5) U U
 obtain⟨x1,Ao⟩:=x1
 obtain⟨x2,Af⟩:=x2
 have tb:∀i k,0<=tl i k/\tl i k<=th i k/\th i k<=10^10:=λi k=>by
  rw[<-htl,<-hth]
  have Ad:=Ab.mm (X:=X i k) (Y:=Y i k)
  have c1:=hc i k
  refine⟨Int.mul_nonneg Ad.1 c1.1,Int.mul_le_mul Ad.2.1 c1.2.1 c1.1 U,?_⟩
  have:=Int.mul_le_mul (show oM sd.f sd.c (X i k) (Y i k)<=10^5 by omega) (show cu i k<=10^5 by omega) U dc
  omega
 have As:0<=(rb+aa pl-rc)*aa pl/\(rb+aa pl-rc)*aa pl<=3*10^10:=by
  have:=Int.mul_nonneg (show 0<=rb+aa pl-rc by omega) (Int.le_of_lt T.2)
  have:=jq (a:=rb+aa pl-rc) (b:=aa pl) (p:=3*10^5) (q:=10^5) U U
  omega
 have aB:∀t:Nat->Nat->Int,(∀i k,0<=t i k/\t i k<=10^10)->∀i k,i<n\/(i=n/\k=0)->k<=m i\/k=0->0<=kN t m i k/\kN t m i k<=10^13:=λt ht i k hi hk=>by
  have a:=Oi (c:=10^10) hm2 (λi k _ _=>ht i k) hi hk dc
  have b:((i:Int)*2+2)*10^10<=130*10^10:=Int.mul_le_mul_of_nonneg_right U dc
  omega
 have aL:=aB tl λi k=>⟨(tb i k).1,by have:=tb i k;omega⟩
 have aH:=aB th λi k=>⟨by have:=tb i k;omega,(tb i k).2.2⟩
 have qT:∀z:Int,0<=z->z<=10^14->Q9 z (aa pl*aa pl):=λz h1 h2=>⟨Nat.lt_of_le_of_lt (show z.natAbs<=10^14 by omega) dc,TT,by omega⟩
 have qn:∀z:Int,0<=z->z<=aa pl->Q9 z (aa pl):=λz h1 h2=>iv h.p5 ⟨h1,h2⟩
 have Aq:=aL n 0 (Or.inr ⟨rfl,rfl⟩) (Or.inr Z)
 have Ar:=aH n 0 (Or.inr ⟨rfl,rfl⟩) (Or.inr Z)
 have Av:kN tl m n 0<=kN th m n 0:=by
  show bj (λj=>bj (tl j) (m j)) n+0<=bj (λj=>bj (th j) (m j)) n+0
  have:=jy (g:=λj=>bj (tl j) (m j)) (h:=λj=>bj (th j) (m j)) (n:=n) λi _=>jy λk _=>(tb i k).2.1
  omega
 have A1:∀i k,0<=sd.bL (X i k) (Y i k)/\sd.bL (X i k) (Y i k)<=sd.bH (X i k) (Y i k)/\sd.bH (X i k) (Y i k)<=aa pl:=λi k=>Ab.b
 have A2:=λi k=>Ab.mm (X:=X i k) (Y:=Y i k)
 refine Dk (o1:=λi k=>(qR (kN tl m i k) (aa pl*aa pl)).1) (o2:=λi k=>(qR (kN tl m i k) (aa pl*aa pl)).2) (o3:=λi k=>(qR ((rb+aa pl-rc)*aa pl+kN th m i k) (aa pl*aa pl)).1) (o4:=λi k=>(qR ((rb+aa pl-rc)*aa pl+kN th m i k) (aa pl*aa pl)).2)
  (x1:=λi k=>(qR (A*X i k+B) G).1) (x2:=λi k=>(qR (A*X i k+B) G).2) (x3:=λi k=>(qR (A*Y i k+B) G).1) (x4:=λi k=>(qR (A*Y i k+B) G).2)
  (M1:=λi k=>(qR (og sd.f sd.c (X i k) (Y i k)) (aa pl)).1) (M2:=λi k=>(qR (og sd.f sd.c (X i k) (Y i k)) (aa pl)).2) (M3:=λi k=>(qR (oM sd.f sd.c (X i k) (Y i k)) (aa pl)).1) (M4:=λi k=>(qR (oM sd.f sd.c (X i k) (Y i k)) (aa pl)).2)
  (B1:=λi k=>(qR (sd.bL (X i k) (Y i k)) (aa pl)).1) (B2:=λi k=>(qR (sd.bL (X i k) (Y i k)) (aa pl)).2) (B3:=λi k=>(qR (sd.bH (X i k) (Y i k)) (aa pl)).1) (B4:=λi k=>(qR (sd.bH (X i k) (Y i k)) (aa pl)).2)
  (c1:=λi k=>(qR (ck i k) (aa pl)).1) (c2:=λi k=>(qR (ck i k) (aa pl)).2) (c3:=λi k=>(qR (cu i k) (aa pl)).1) (c4:=λi k=>(qR (cu i k) (aa pl)).2)
  (C1:=λi k=>(qR (aa pl-sd.bH (X i k) (Y i k)) (aa pl)).1) (C2:=λi k=>(qR (aa pl-sd.bH (X i k) (Y i k)) (aa pl)).2) (D1:=λi k=>(qR (max 0 (aa pl-sd.bH (X i k) (Y i k))) (aa pl)).1) (D2:=λi k=>(qR (max 0 (aa pl-sd.bH (X i k) (Y i k))) (aa pl)).2) (G1:=λi k=>(qR (aa pl-sd.bL (X i k) (Y i k)) (aa pl)).1) (G2:=λi k=>(qR (aa pl-sd.bL (X i k) (Y i k)) (aa pl)).2)
  (P1:=λi k=>(qR (tl i k) (aa pl*aa pl)).1) (P2:=λi k=>(qR (tl i k) (aa pl*aa pl)).2) (Q1:=λi k=>(qR (th i k) (aa pl*aa pl)).1) (Q2:=λi k=>(qR (th i k) (aa pl*aa pl)).2) (ps:=λi=>kM A B G (l i)) (m:=m)
  n64 hm2 (λW=>De h.p1 kc1 n1 n64) (Oj h.f h.t) (GZ (n:=0) dc) (GZ (n:=-6) dc) x1 (GZ (n:=1) dc) (GZ (n:=6) dc) x2 (Dm T.2 (qn rc Af.1 U)) (Dl T.2 (qn rb U Ao.2.2) (dK U T.2 U))
  (λi k hi hk W=>h.mass (hmem i k hk).1 (hmem i k hk).2 W) (λi k hi hk W=>h.bounds (hmem i k hk).1 (hmem i k hk).2 W)
  (λi k hi hk W=>Dm T.2 (qn _ ke0 (A1 i k).2.2) W) (λi k hi hk W=>yU T.2 (qn _ ke0 ke0) W) (λi k hi hk W=>Dm T.2 (qn _ (A1 i k).1 ke0) W)
  (λi k hi hk W=>?_) (λi k hi hk W=>?_) (λi k hi hk W=>?_) (λi k hi hk W=>?_) (Ol (qT _ Aq.1 U) (qT _ U U) TT U kc1) (λi hi W=>?_) (λi k hi hk=>?_) ?_ (λi hi=>?_) (λe i k=>?_) (λe i k=>?_)
 · have:=K9 (qn (og sd.f sd.c (X i k) (Y i k)) (A2 i k).1 (by have:=A2 i k;omega)) (qn (ck i k) (hc i k).1 (by have:=hc i k;omega)) W
   rw[htl]at this;exact this
 · have a1:=aL i k (Or.inl hi) (Or.inl U)
   have:=Dl TT (qT (kN tl m i k) a1.1 U) (qT (tl i k) (tb i k).1 (by have:=tb i k;omega)) W
   rw[<-La]at this;exact this
 · have:=K9 (qn (oM sd.f sd.c (X i k) (Y i k)) (by have:=A2 i k;omega) (A2 i k).2.2) (qn (cu i k) (by have:=hc i k;omega) (hc i k).2.2) W
   rw[hth]at this;exact this
 · have a1:=aH i k (Or.inl hi) (Or.inl U)
   have a2:=tb i k
   have:=Dl TT (qT ((rb+aa pl-rc)*aa pl+kN th m i k) U U) (qT (th i k) U U) W
   rw[Int.add_assoc,<-La]at this;exact this
 · have:=Ta h.f h.t n1 n64 hE (λk=>h.pb _ (hP k)) ib i hi W
   rw[hl,em]at this;exact this
 · have:=vF (A:=A) (B:=B) (G:=G) (l:=l i) (k:=k) (by rw[em];exact hk)
   rw[hX,hY]at this;exact this
 · have Ap:qR (kN tl m 0 0) (aa pl*aa pl)=qR 0 1:=aU TT dc (show((0:Int)+0)*1=0*(aa pl*aa pl)by omega)
   have Am:qR ((rb+aa pl-rc)*aa pl+kN th m 0 0) (aa pl*aa pl)=qR (rb+(aa pl-rc)) (aa pl):=aU TT T.2 (by
    show((rb+aa pl-rc)*aa pl+((0:Int)+0))*aa pl=_
    grind)
   rw[Ap,Am];exact⟨rfl,rfl,rfl,rfl⟩
 · rw[Lb,Lb];exact⟨rfl,rfl,rfl,rfl⟩
 · rw[(hT e i k).1,(hT e i k).2];exact⟨rfl,rfl,rfl,rfl⟩
 · rw[(hF e i k).1,(hF e i k).2];exact⟨rfl,rfl,rfl,rfl⟩
def Dn :(Bq x y).length<=1:=by unfold Bq;split <;>simp
def Dj.consumer (h:Dj pl sd P A B G M s e L H O qr)(n1:1<=n)(n64:n<=64)(x1:Rb pl (-6) 1 ra rb)(x2:Rb pl 6 1 rc rd)(hE:∀k,k<=n->E k*(n:Int)=M*(n:Int)+s*(12*(k:Int)-6*(n:Int)))(hP:∀k,P (E k))(pL:P L)(pH:P H)(W:World):
 CL 8 #[vC A B G M s e L H O qr,.int .i64 ((n:Nat):Int),.int .i64 ((pl:Nat):Int)] W (aC W λv _=>v=.tuple #[IV
  (dp (sd.conL E L H n) (aa pl*aa pl) (aa pl)) (aa pl)
  (dz (((rb+aa pl-rc)*aa pl)+sd.conH E L H n) (aa pl*aa pl) (aa pl)) (aa pl),.int .i64 0]):=by
 refine xd (λW=>cE (h.total (ib:=false) (l:=sD E L H) (ck:=λi k=>sd.bL (iS (sD E L H i) k).1 (iS (sD E L H i) k).2) (cu:=λi k=>sd.bH (iS (sD E L H i) k).1 (iS (sD E L H i) k).2) (m:=λi=>(sD E L H i).length) n1 n64 x1 x2 hE hP Z (λ_ _=>rfl) (λ_ _=>rfl) (λ_=>rfl) (λi=>?_) (λi k hk=>ry Z hP pL pH hk) (λi k=>?_) (λe=>by cases e) (λ_ _ _=>⟨rfl,rfl⟩) (λ_ _=>rfl) (λ_ _=>rfl) W) (Og ((Int.add_zero _).trans (fA λi _=>sF)) ((Int.add_zero _).trans (fA λi _=>sG))))
 · have a:=Dn (x:=E i) (y:=min (E (i+1)) L)
   have b:=Dn (x:=max (E i) H) (y:=E (i+1))
   unfold sD;rw[List.length_append];omega
 · exact h.ok.b
def Dj.producer (h:Dj pl sd P A B G M s e L H O qr)(n1:1<=n)(n64:n<=64)(x1:Rb pl (-6) 1 ra rb)(x2:Rb pl 6 1 rc rd)(hE:∀k,k<=n->E k*(n:Int)=M*(n:Int)+s*(12*(k:Int)-6*(n:Int)))(hP:∀k,P (E k))(pL:P L)(pH:P H)(W:World):
 CL 10 #[vC A B G M s e L H O qr,.int .i64 ((n:Nat):Int),.int .i64 ((pl:Nat):Int)] W (aC W λv _=>v=.tuple #[IV
  (dp (sd.proL (aa pl) E L H n) (aa pl*aa pl) (aa pl)) (aa pl)
  (dz (((rb+aa pl-rc)*aa pl)+sd.proH (aa pl) E L H n) (aa pl*aa pl) (aa pl)) (aa pl),.int .i64 0]):=by
 refine xe (λW=>cE (h.total (ib:=true) (l:=sE E L H) (ck:=λi k=>max 0 (aa pl-sd.bH (iS (sE E L H i) k).1 (iS (sE E L H i) k).2)) (cu:=λi k=>aa pl-sd.bL (iS (sE E L H i) k).1 (iS (sE E L H i) k).2) (m:=λi=>(sE E L H i).length) n1 n64 x1 x2 hE hP Z (λ_ _=>rfl) (λ_ _=>rfl) (λ_=>rfl) (λi=>?_) (λi k hk=>rz Z hP pL pH hk) (λi k=>?_) (λ_ _ _=>⟨rfl,rfl⟩) (λe=>by cases e) (λ_ _=>rfl) (λ_ _=>rfl) W) (Og ((Int.add_zero _).trans (fA λi _=>sH)) ((Int.add_zero _).trans (fA λi _=>sI))))
 · have a:=Dn (x:=max (E i) L) (y:=min (E (i+1)) H)
   unfold sE;omega
 · have b:=h.ok.b (X:=(iS (sE E L H i) k).1) (Y:=(iS (sE E L H i) k).2)
   omega
end
end
section
open Go Go.Eng Go.RowKit Proofs.Tryz
attribute [local irreducible] wpListIn Code.wpIn Oper.wpIn Exit.then Exit.inBlock Exit.noGoto
set_option maxHeartbeats 40000000
def g7 {p:Prop}(h:p:=by kernel_rfl):p:=h
def qj :bF w w:=aa2 _
set_option maxRecDepth 100000 in
def GD {vaa vba waa wba vab vbb wab wbb vac vbc wac wbc vad vbd wad wbd vak vbk wak wbk vam vbm wam wbm:Int}(hIn:∀W,Tb W->CL 12 #[.agg (kaA 0 1 1 1 1 10 (-2) 1 2 1 (-2) 1 2 1),.int .i64 (4)] W (aC W λv _=>v=.tuple #[IV vaa vba waa wba,.int .i64 (0)]))(hAc:∀W,Tb W->CL 13 #[.agg (kaA 0 1 1 1 1 10 (-2) 1 2 1 (-2) 1 2 1),QV 2 1,.int .i64 (3)] W (aC W λv _=>v=.tuple #[IV vab vbb wab wbb,.int .i64 (0)]))(hOu:∀W,Tb W->CL 14 #[QV 0 1,QV 1 1,QV (-2) 1,QV 2 1,.int .i64 (4)] W (aC W λv _=>v=.tuple #[IV vac vbc wac wbc,.int .i64 (0)]))(hCo:∀W,Tb W->CL 7 #[.agg (kaA 0 1 1 1 1 10 (-2) 1 2 1 (-2) 1 2 1),.int .i64 (2),.int .i64 (2)] W (aC W λv _=>v=.tuple #[IV vad vbd wad wbd,.int .i64 (0)]))(hPr:∀W,Tb W->CL 9 #[.agg (kaA 0 1 1 1 1 10 (-2) 1 2 1 (-2) 1 2 1),.int .i64 (2),.int .i64 (2)] W (aC W λv _=>v=.tuple #[IV vak vbk wak wbk,.int .i64 (0)]))(hCz:∀W,Tb W->CL 7 #[.agg (kaA 0 1 1 1 1 10 (-2) 1 2 1 (-2) 1 2 1),.int .i64 (0),.int .i64 (2)] W (aC W λv _=>v=.tuple #[.agg #[S [],S [],S [],S []],.int .i64 (150)]))(hIz:∀W,Tb W->CL 12 #[.agg #[S [],S [],S [],S [],S [],S [],S [],S [],S [],S [],S [],S [],S [],S []],.int .i64 (2)] W (aC W λv _=>v=.tuple #[.agg #[S [],S [],S [],S []],.int .i64 (150)]))(hAn:∀W,Tb W->CL 13 #[.agg (kaA 0 1 1 1 1 10 (-2) 1 2 1 (-2) 1 2 1),QV 9 1,.int .i64 (3)] W (aC W λv _=>v=.tuple #[IV vam vbm wam wbm,.int .i64 (0)]))(hVa:∀W,Tb W->CL 16 #[.agg (kaA 0 1 1 1 1 10 (-2) 1 2 1 (-2) 1 2 1)] W (aC W λv _=>v=.bool true))(hVz:∀W,Tb W->CL 16 #[.agg #[S [],S [],S [],S [],S [],S [],S [],S [],S [],S [],S [],S [],S [],S []]] W (aC W λv _=>v=.bool false))(hKa:∀W,Tb W->CL 15 #[IV vaa vba waa wba,.int .i64 (9545),.int .i64 (10000)] W (aC W λv _=>v=.bool true))(hKb:∀W,Tb W->CL 15 #[IV vaa vba waa wba,.int .i64 (954),.int .i64 (1000)] W (aC W λv _=>v=.bool false))(hKc:∀W,Tb W->CL 15 #[IV vab vbb wab wbb,.int .i64 (1),.int .i64 (2)] W (aC W λv _=>v=.bool true))(hKd:∀W,Tb W->CL 15 #[IV vac vbc wac wbc,.int .i64 (455),.int .i64 (10000)] W (aC W λv _=>v=.bool true))(hKe:∀W,Tb W->CL 15 #[IV vad vbd wad wbd,.int .i64 (4),.int .i64 (1000)] W (aC W λv _=>v=.bool true))(hKf:∀W,Tb W->CL 15 #[IV vak vbk wak wbk,.int .i64 (5),.int .i64 (1000)] W (aC W λv _=>v=.bool true))(hKg:∀W,Tb W->CL 15 #[IV vam vbm wam wbm,.int .i64 (0),.int .i64 (1)] W (aC W λv _=>v=.bool true))(ht:Tb w):
 CL 4 #[] w (aC w λv w'=>v=.bool true):=by
 refine aE func4 Z (I ?_);refine clb ic (hc:=fS Rg Rg dc (ht.ext qj)) (hk:=?_);rintro _ _ Zn rfl;have Ad:=Zn.2;refine clb ic (hc:=fS Rg Rg dc (ht.ext Ad)) (hk:=?_);rintro _ _ ab rfl;have Ad:=xt Ad ab.2;refine clb ic (hc:=fS Rg Rg dc (ht.ext Ad)) (hk:=?_);rintro _ _ dd rfl;have Ad:=xt Ad dd.2;refine clb ic (hc:=fS Rg Rg dc (ht.ext Ad)) (hk:=?_);rintro _ _ e7 rfl;have Ad:=xt Ad e7.2;refine clb ic (hc:=fS Rg Rg dc (ht.ext Ad)) (hk:=?_);rintro _ _ a9 rfl;have Ad:=xt Ad a9.2;refine clb ic (hc:=fS Rg Rg dc (ht.ext Ad)) (hk:=?_);rintro _ _ W1 rfl;have Ad:=xt Ad W1.2;refine clb ic (hc:=fS Rg Rg dc (ht.ext Ad)) (hk:=?_);rintro _ Aw f0 rfl;have Ad:=xt Ad f0.2;refine ac (aV (vs:=[(0,QV 0 1),(1,QV 1 1),(2,QV 1 10),(3,QV (-2) 1),(4,QV 2 1),(5,QV (-2) 1),(6,QV 2 1)]) (cells:=(kaA 0 1 1 1 1 10 (-2) 1 2 1 (-2) 1 2 1)) (pl:=[(0,2),(2,2),(4,2),(6,2),(8,2),(10,2),(12,2)]) aP kj g7 Z g7 ?_);refine al kj (λ_ eg Zm=>?_)
 have Ad:=xt Ad eg.2;refine ac (bg (b:=Aw.heap.size) (o:=0) (vs:=[S (qR 0 1).1,S (qR 0 1).2,S (qR 1 1).1,S (qR 1 1).2,S (qR 1 10).1,S (qR 1 10).2,S ((qR (-2) 1).1),S ((qR (-2) 1).2),S (qR 2 1).1,S (qR 2 1).2,S ((qR (-2) 1).1),S ((qR (-2) 1).2),S (qR 2 1).1,S (qR 2 1).2]) cD Z Z MT Zm (qa3 Z) (λ_ Ek ny=>?_));have ny:=ab8 ny (cs:=(kaA 0 1 1 1 1 10 (-2) 1 2 1 (-2) 1 2 1)) g7;have Ad:=bB Ek Ad;have f7:=mC Ek;refine I ?_;refine ac (ar (cs:=[S (qR 0 1).1,S (qR 0 1).2,S (qR 1 1).1,S (qR 1 1).2,S (qR 1 10).1,S (qR 1 10).2,S ((qR (-2) 1).1),S ((qR (-2) 1).2),S (qR 2 1).1,S (qR 2 1).2,S ((qR (-2) 1).1),S ((qR (-2) 1).2),S (qR 2 1).1,S (qR 2 1).2]) (b:=Aw.heap.size) (o:=0) aP Z cD Z (aa1 ny (i:=0) g7) ?_);refine cl HE (hIn _ (ht.ext Ad)) ?_;rintro _ N1 X2 rfl;have⟨ny,Ad⟩:=bD X2.2 ny Ad;refine I ?_;refine al ap (λ_ e3 ZY=>?_);have⟨ny,Ad⟩:=bD e3.2 ny Ad;refine SA ZY (λb9 Z2 Zv=>?_);have⟨ny,Ad,_⟩:=ks Z2 ny Ad;refine I ?_
 refine kJ g8 8 [4,32,33,34,35,36,37] [some (33,.agg (kaA 0 1 1 1 1 10 (-2) 1 2 1 (-2) 1 2 1)),some (34,QV 2 1),some (35,.tuple #[IV vab vbb wab wbb,.int .i64 0]),some (32,.tuple #[IV vab vbb wab wbb,.int .i64 0]),some (36,IV vab vbb wab wbb),some (37,.int .i64 0),none,none] (XA b9 6 7 4 33 #[S [],S [],S [],S []] #[S (qR vab vbb).1,S (qR vab vbb).2,S (qR wab wbb).1,S (qR wab wbb).2]) XA.start g7 g7 g7 ?_ ?_;refine⟨λZL _ _ ZN _ No _ _ _=>?_,?_⟩;obtain⟨ZL,rfl⟩:=aT ZN;have dn:=(be No.1 ny);refine ac (ar (cs:=[S (qR 0 1).1,S (qR 0 1).2,S (qR 1 1).1,S (qR 1 1).2,S (qR 1 10).1,S (qR 1 10).2,S ((qR (-2) 1).1),S ((qR (-2) 1).2),S (qR 2 1).1,S (qR 2 1).2,S ((qR (-2) 1).1),S ((qR (-2) 1).2),S (qR 2 1).1,S (qR 2 1).2]) (b:=Aw.heap.size) (o:=0) aP Z cD Z (aa1 dn (i:=0) g7) ?_);refine I ?_;exact r6 Z No qj;refine⟨λc8 _ _ at2 _ F4 _ _ _=>?_,?_⟩;obtain⟨c8,rfl⟩:=aT at2;have cf:=xt Ad F4.1;refine clb ic (hc:=fS Rg Rg dc (ht.ext cf)) (hk:=?_);rintro _ _ ZC rfl;refine I ?_;exact r6 Z F4 ZC.2;refine⟨λed _ _ f4 L2 G3 _ _ _=>?_,?_⟩;obtain⟨ed,rfl⟩:=aT f4;have Z8:=ba (L2 0 _ _ Z Z);have bH:=ba (L2 1 _ _ Z Z);have e1:=xt Ad G3.1
 refine cl HF (hAc _ (ht.ext e1)) ?_ (ai Z8 (ai bH (ai Z Z)));rintro _ _ ZX rfl;refine I ?_;exact r6 Z G3 ZX.2;refine⟨λd6 _ _ Zp ca bf _ _ _=>?_,?_⟩;obtain⟨d6,rfl⟩:=aT Zp;have fl:=ba (ca 2 _ _ Z Z);refine I ?_;exact r6 Z bf qj;refine⟨λem _ _ a6 ZR cm _ _ _=>?_,?_⟩;obtain⟨em,rfl⟩:=aT a6;have fi:=ba (ZR 3 _ _ Z Z);refine I ?_;exact r6 Z cm qj;refine⟨λbm _ _ bn Zt Zw _ _ _=>?_,?_⟩;obtain⟨bm,rfl⟩:=aT bn;have fm:=ba (Zt 3 _ _ Z Z);refine I ?_;exact r6 Z Zw qj;refine⟨λZl _ _ cx _ R1 TT co _=>?_,?_⟩;obtain⟨Zl,rfl⟩:=aT cx;have g3:=xt Ad R1.1;refine al ap (λ_ Z1 cr=>I ?_);exact VN Z R1 (js TT (i:=6) (j:=7) Z co) Z1.2 cr;refine⟨λZJ _ _ cq ZA EP _ ZI ZE=>?_,?_⟩;obtain⟨ZJ,rfl⟩:=aT cq;have fN:=ba (ZA 4 _ _ Z Z);have g0:=xt Ad EP.1;obtain⟨_,EW,dq,d5⟩:=XA.opn EP (ZE 6 Z) ZI;have EW:=ba EW;refine SA d5 (λ_ cv ZO=>I ?_);exact VO (.inr Z) EP EW dq cv ZO;exact trivial;intro cb _ _ F5 ZQ W2 E0;obtain⟨cb,rfl⟩:=aT ZQ;have A1:=(be E0.1 ny);have f6:=bt A1;have Ab:=(be E0.1 Zv);have qn:=xt Ad E0.1;obtain⟨_,F2,_,A2⟩:=XA.fin E0 (F5 6 Z) (.inl (F5 7 Z));have F2:=ba F2;have ft:=bt A2
 have arr:=ba (W2 5 _ _ Z Z);refine I ?_;refine clb ic (hc:=fS Rg Rg dc (ht.ext qn)) (hk:=?_);rintro _ _ ZT rfl;have⟨A1,Ab,A2,qn⟩:=bW ZT.2 A1 Ab A2 qn;refine clb ic (hc:=fS Rg Rg dc (ht.ext qn)) (hk:=?_);rintro _ _ er rfl;have⟨A1,Ab,A2,qn⟩:=bW er.2 A1 Ab A2 qn;refine clb ic (hc:=fS Rg Rg dc (ht.ext qn)) (hk:=?_);rintro _ _ W0 rfl;have⟨A1,Ab,A2,qn⟩:=bW W0.2 A1 Ab A2 qn;refine clb ic (hc:=fS Rg Rg dc (ht.ext qn)) (hk:=?_);rintro _ _ a3 rfl;have⟨A1,Ab,A2,qn⟩:=bW a3.2 A1 Ab A2 qn;refine cl Qx (hOu _ (ht.ext qn)) ?_;rintro _ b7 Zq rfl;have⟨A1,Ab,A2,qn⟩:=bW Zq.2 A1 Ab A2 qn;refine I ?_;refine al ap (λ_ b6 f5=>?_);have⟨A1,Ab,A2,qn⟩:=bW b6.2 A1 Ab A2 qn;refine SA f5 (λ_ ZV Am=>?_);have⟨A1,Ab,A2,qn,_⟩:=l7 ZV A1 Ab A2 qn;refine I ?_;refine ac (ar (cs:=[S (qR 0 1).1,S (qR 0 1).2,S (qR 1 1).1,S (qR 1 1).2,S (qR 1 10).1,S (qR 1 10).2,S ((qR (-2) 1).1),S ((qR (-2) 1).2),S (qR 2 1).1,S (qR 2 1).2,S ((qR (-2) 1).1),S ((qR (-2) 1).2),S (qR 2 1).1,S (qR 2 1).2]) (b:=Aw.heap.size) (o:=0) aP Z cD Z (aa1 A1 (i:=0) g7) ?_);refine cl xz (hCo _ (ht.ext qn)) ?_;rintro _ Zu Zo rfl
 have⟨A1,Ab,A2,Am,qn⟩:=eE Zo.2 A1 Ab A2 Am qn;refine I ?_;refine al ap (λ_ a7 aH=>?_);have⟨A1,Ab,A2,Am,qn⟩:=eE a7.2 A1 Ab A2 Am qn;refine SA aH (λ_ ZH Ao=>?_);have⟨A1,Ab,A2,Am,qn,_⟩:=vK ZH A1 Ab A2 Am qn;refine I ?_;refine ac (ar (cs:=[S (qR 0 1).1,S (qR 0 1).2,S (qR 1 1).1,S (qR 1 1).2,S (qR 1 10).1,S (qR 1 10).2,S ((qR (-2) 1).1),S ((qR (-2) 1).2),S (qR 2 1).1,S (qR 2 1).2,S ((qR (-2) 1).1),S ((qR (-2) 1).2),S (qR 2 1).1,S (qR 2 1).2]) (b:=Aw.heap.size) (o:=0) aP Z cD Z (aa1 A1 (i:=0) g7) ?_);refine cl BR (hPr _ (ht.ext qn)) ?_;rintro _ f3 e5 rfl;have⟨A1,Ab,A2,Am,Ao,qn⟩:=kW e5.2 A1 Ab A2 Am Ao qn;refine I ?_;refine al ap (λ_ bq cw=>?_);have⟨A1,Ab,A2,Am,Ao,qn⟩:=kW bq.2 A1 Ab A2 Am Ao qn;refine SA cw (λ_ Zz Ar=>?_);have⟨A1,Ab,A2,Am,Ao,qn,_⟩:=Ck Zz A1 Ab A2 Am Ao qn;refine I ?_;refine ac (ar (cs:=[S (qR 0 1).1,S (qR 0 1).2,S (qR 1 1).1,S (qR 1 1).2,S (qR 1 10).1,S (qR 1 10).2,S ((qR (-2) 1).1),S ((qR (-2) 1).2),S (qR 2 1).1,S (qR 2 1).2,S ((qR (-2) 1).1),S ((qR (-2) 1).2),S (qR 2 1).1,S (qR 2 1).2]) (b:=Aw.heap.size) (o:=0) aP Z cD Z (aa1 A1 (i:=0) g7) ?_);refine cl xz (hCz _ (ht.ext qn)) ?_;rintro _ _ S1 rfl;have⟨A1,Ab,A2,Am,Ao⟩:=dY S1.2 A1 Ab A2 Am Ao;have⟨Ar,qn⟩:=bD S1.2 Ar qn;refine I ?_
 refine al ap (λ_ F3 ZZ=>?_);have⟨A1,Ab,A2,Am,Ao⟩:=dY F3.2 A1 Ab A2 Am Ao;have⟨Ar,qn⟩:=bD F3.2 Ar qn;refine SA ZZ (λ_ K2 Ax=>?_);have⟨A1,Ab,A2,Am,Ao⟩:=jv K2 A1 Ab A2 Am Ao;have⟨Ar,qn,_⟩:=ks K2 Ar qn;refine I ?_;refine ac (aV (vs:=[]) (cells:=#[S [],S [],S [],S [],S [],S [],S [],S [],S [],S [],S [],S [],S [],S []]) (pl:=[(0,2),(2,2),(4,2),(6,2),(8,2),(10,2),(12,2)]) aP kj g7 Z g7 ?_);refine cl HE (hIz _ (ht.ext qn)) ?_;rintro _ _ T3 rfl;have⟨A1,Ab,A2,Am,Ao⟩:=dY T3.2 A1 Ab A2 Am Ao;have⟨Ar,Ax,qn⟩:=bC T3.2 Ar Ax qn;refine I ?_;refine al ap (λ_ F6 ZG=>?_);have⟨A1,Ab,A2,Am,Ao⟩:=dY F6.2 A1 Ab A2 Am Ao;have⟨Ar,Ax,qn⟩:=bC F6.2 Ar Ax qn;refine SA ZG (λen E7 W3=>?_);have⟨A1,Ab,A2,Am,Ao⟩:=jv E7 A1 Ab A2 Am Ao;have⟨Ar,Ax⟩:=eR E7 Ar Ax;have qn:=bB E7 qn;refine I ?_;refine kJ g8 8 [16,66,67,68,69,70,71] [some (67,.agg (kaA 0 1 1 1 1 10 (-2) 1 2 1 (-2) 1 2 1)),some (68,QV 9 1),some (69,.tuple #[IV vam vbm wam wbm,.int .i64 0]),some (66,.tuple #[IV vam vbm wam wbm,.int .i64 0]),some (70,IV vam vbm wam wbm),some (71,.int .i64 0),none,none] (XA en 6 7 16 33 #[S [],S [],S [],S []] #[S (qR vam vbm).1,S (qR vam vbm).2,S (qR wam wbm).1,S (qR wam wbm).2]) XA.start g7 g7 g7 ?_ ?_
 refine⟨λc9 _ _ Z5 _ Jx _ _ _=>?_,?_⟩;obtain⟨c9,rfl⟩:=aT Z5;have d0:=(be Jx.1 A1);refine ac (ar (cs:=[S (qR 0 1).1,S (qR 0 1).2,S (qR 1 1).1,S (qR 1 1).2,S (qR 1 10).1,S (qR 1 10).2,S ((qR (-2) 1).1),S ((qR (-2) 1).2),S (qR 2 1).1,S (qR 2 1).2,S ((qR (-2) 1).1),S ((qR (-2) 1).2),S (qR 2 1).1,S (qR 2 1).2]) (b:=Aw.heap.size) (o:=0) aP Z cD Z (aa1 d0 (i:=0) g7) ?_);refine I ?_;exact r6 Z Jx qj;refine⟨λcd _ _ Zs _ F8 _ _ _=>?_,?_⟩;obtain⟨cd,rfl⟩:=aT Zs;have ad:=xt qn F8.1;refine clb ic (hc:=fS Rg Rg dc (ht.ext ad)) (hk:=?_);rintro _ _ ZD rfl;refine I ?_;exact r6 Z F8 ZD.2;refine⟨λe4 _ _ Z7 F1 Ne _ _ _=>?_,?_⟩;obtain⟨e4,rfl⟩:=aT Z7;have ZF:=ba (F1 0 _ _ Z Z);have Zx:=ba (F1 1 _ _ Z Z);have Z3:=xt qn Ne.1;refine cl HF (hAn _ (ht.ext Z3)) ?_ (ai ZF (ai Zx (ai Z Z)));rintro _ _ e2 rfl;refine I ?_;exact r6 Z Ne e2.2;refine⟨λZU _ _ Wa bp Wb _ _ _=>?_,?_⟩;obtain⟨ZU,rfl⟩:=aT Wa;have fu:=ba (bp 2 _ _ Z Z);refine I ?_;exact r6 Z Wb qj;refine⟨λZr _ _ Z6 ZB aB _ _ _=>?_,?_⟩;obtain⟨Zr,rfl⟩:=aT Z6;have g2:=ba (ZB 3 _ _ Z Z);refine I ?_;exact r6 Z aB qj
 refine⟨λZk _ _ ZP ZS d4 _ _ _=>?_,?_⟩;obtain⟨Zk,rfl⟩:=aT ZP;have fD:=ba (ZS 3 _ _ Z Z);refine I ?_;exact r6 Z d4 qj;refine⟨λZK _ _ a8 _ Kp T4 Z0 _=>?_,?_⟩;obtain⟨ZK,rfl⟩:=aT a8;have fT:=xt qn Kp.1;refine al ap (λ_ e6 ch=>I ?_);exact VN Z Kp (js T4 (i:=6) (j:=7) Z Z0) e6.2 ch;refine⟨λask _ _ Zy ZM E9 _ d3 a5=>?_,?_⟩;obtain⟨ask,rfl⟩:=aT Zy;have f9:=ba (ZM 4 _ _ Z Z);have g1:=xt qn E9.1;obtain⟨_,EE,a4,Z9⟩:=XA.opn E9 (a5 6 Z) d3;have EE:=ba EE;refine SA Z9 (λ_ et bd=>I ?_);exact VO (.inr Z) E9 EE a4 et bd;exact trivial;intro a0 _ _ F7 cy an od;obtain⟨a0,rfl⟩:=aT cy;have Aq:=(be od.1 A1);have E1:=(be od.1 Ab);have E4:=(be od.1 A2);have Ay:=(be od.1 Am);have Av:=(be od.1 Ao);have As:=(be od.1 Ar);have fy:=(be od.1 Ax);have fx:=(be od.1 W3);have Af:=xt qn od.1;obtain⟨_,Ix,_,Ap⟩:=XA.fin od (F7 6 Z) (.inl (F7 7 Z));have Ix:=ba Ix;have fc:=ba (an 5 _ _ Z Z);refine I ?_;refine ac (ar (cs:=[S (qR vaa vba).1,S (qR vaa vba).2,S (qR waa wba).1,S (qR waa wba).2]) (b:=N1.heap.size) (o:=0) aJ Z ay Z (aa1 E1 (i:=0) Z) ?_);refine I ?_;refine cl ot (hKa _ (ht.ext Af)) ?_;rintro _ _ G4 rfl;have⟨Aq,E1,E4,Ay,Av⟩:=dY G4.2 Aq E1 E4 Ay Av;have⟨As,Ap,Af⟩:=bC G4.2 As Ap Af
 refine I ?_;refine ac (ar (cs:=[S (qR vaa vba).1,S (qR vaa vba).2,S (qR waa wba).1,S (qR waa wba).2]) (b:=N1.heap.size) (o:=0) aJ Z ay Z (aa1 E1 (i:=0) Z) ?_);refine I ?_;refine cl ot (hKb _ (ht.ext Af)) ?_;rintro _ _ T2 rfl;have⟨Aq,E4,Ay,Av,As⟩:=dY T2.2 Aq E4 Ay Av As;have⟨Ap,Af⟩:=bD T2.2 Ap Af;refine I ?_;refine cl ot (hKc _ (ht.ext Af)) ?_;rintro _ _ bc rfl;have⟨Aq,Ay,Av,As,Ap,Af⟩:=kW bc.2 Aq Ay Av As Ap Af;refine I ?_;refine ac (ar (cs:=[S (qR vac vbc).1,S (qR vac vbc).2,S (qR wac wbc).1,S (qR wac wbc).2]) (b:=b7.heap.size) (o:=0) aJ Z ay Z (aa1 Ay (i:=0) Z) ?_);refine I ?_;refine cl ot (hKd _ (ht.ext Af)) ?_;rintro _ _ ZW rfl;have⟨Aq,Av,As,Ap,Af⟩:=eE ZW.2 Aq Av As Ap Af;refine I ?_;refine ac (ar (cs:=[S (qR vad vbd).1,S (qR vad vbd).2,S (qR wad wbd).1,S (qR wad wbd).2]) (b:=Zu.heap.size) (o:=0) aJ Z ay Z (aa1 Av (i:=0) Z) ?_);refine I ?_;refine cl ot (hKe _ (ht.ext Af)) ?_;rintro _ _ wr rfl;have⟨Aq,As,Ap,Af⟩:=bW wr.2 Aq As Ap Af;refine I ?_;refine ac (ar (cs:=[S (qR vak vbk).1,S (qR vak vbk).2,S (qR wak wbk).1,S (qR wak wbk).2]) (b:=f3.heap.size) (o:=0) aJ Z ay Z (aa1 As (i:=0) Z) ?_);refine I ?_;refine cl ot (hKf _ (ht.ext Af)) ?_;rintro _ _ aL rfl;have⟨Aq,Ap,Af⟩:=bC aL.2 Aq Ap Af;refine I ?_
 refine ac (ar (cs:=[S (qR 0 1).1,S (qR 0 1).2,S (qR 1 1).1,S (qR 1 1).2,S (qR 1 10).1,S (qR 1 10).2,S ((qR (-2) 1).1),S ((qR (-2) 1).2),S (qR 2 1).1,S (qR 2 1).2,S ((qR (-2) 1).1),S ((qR (-2) 1).2),S (qR 2 1).1,S (qR 2 1).2]) (b:=Aw.heap.size) (o:=0) aP Z cD Z (aa1 Aq (i:=0) g7) ?_);refine I ?_;refine cl qL (hVa _ (ht.ext Af)) ?_;rintro _ _ ct rfl;have⟨Ap,Af⟩:=bD ct.2 Ap Af;refine I ?_;refine ac (aV (vs:=[]) (cells:=#[S [],S [],S [],S [],S [],S [],S [],S [],S [],S [],S [],S [],S [],S []]) (pl:=[(0,2),(2,2),(4,2),(6,2),(8,2),(10,2),(12,2)]) aP kj g7 Z g7 ?_);refine I ?_;refine cl qL (hVz _ (ht.ext Af)) ?_;rintro _ _ bL rfl;have⟨Ap,Af⟩:=bD bL.2 Ap Af;refine I ?_;refine cl ot (hKg _ (ht.ext Af)) ?_;rintro _ _ cT rfl;have Af:=xt Af cT.2;refine I ?_;exact ax (t:=0) (v:=.bool true) Z Af Z Z
set_option maxRecDepth 100000
def Om:cc ([],[])=false:=by decide +kernel
def GE (ht:Tb w):
 CL 33 #[.agg #[S [],S []]] w (aC w λv w'=>v=.bool false):=by
 refine aE func33 Z (I ?_);refine bx (λ_ A1 _=>?_);have qn:=A1.2;refine I ?_;refine cl qF (cB (ep _ _ _ (ht.ext qn)) Om) ?_;rintro _ _ A2 rfl;have qn:=xt qn A2.2;refine I ?_;exact ax (t:=2) (v:=.bool false) Z qn Z Z
def yV (ht:Tb w):
 CL 76 #[.agg #[S [],S []]] w (aC w λv w'=>v=.bool true):=by
 refine aE func76 Z (I ?_);refine bx (λ_ A1 _=>?_);have qn:=A1.2;refine I ?_;refine cl BQ (GE (ht.ext qn)) ?_;rintro _ _ A2 rfl;have qn:=xt qn A2.2;refine I ?_;exact ax (t:=2) (v:=.bool true) Z qn Z Z
def GF {l:List R}(hr:Rw w lo A (eX l))(hn:l.length=n)(hb:n<=1000)(h0:0<n)(hg:Enters prog g)(hf:∀i<n,∀W,bF w W->CL g #[.agg #[S (iw l i).1,S (iw l i).2]] W (aC W λv _=>v=.bool true)):
 CL 128 #[.slice A n cp,.func (.func g) #[] #[]] w (aC w λv w'=>v=.int .i64 0):=by
 refine aE func128 Z (I ?_);have Ad:=aa2 w;refine JT [(4,5),(8,18)] (λA1 e W=>∃i:Nat,(n-i=A1)/\(e 8=.int .i64 i)/\(i<=n/\i=0)/\(bF w W)) (n-0) ⟨0,rfl,rfl,⟨qa7 _,rfl⟩,Ad⟩ ?_;rintro _ _ _ ⟨i,rfl,Af,hi,qn⟩;obtain⟨bk,o,hA,Ab⟩:=ik (hr.ext qn) (i:=i) U;refine I ?_;refine ac (ah (i:=i) (oo:=o+i*2) kS aM Z hA Z U Z ?_);refine ac (ar (cs:=[S (iw l i).1,S (iw l i).2]) (b:=bk) (o:=o+i*2) eB Z aM Z Ab ?_);refine ac (uo (vs:=[.agg #[S (iw l i).1,S (iw l i).2]]) (lb:=[]) hg Z Z (hf i U _ qn) ?_);rintro _ _ A2 rfl;have qn:=xt qn A2.2;refine I ?_;exact ax (t:=4) (v:=.int .i64 i) Z qn (by rw[hi.2];rfl) Z
def yW {l:List R}(hr:Rw w lo A (eX l))(hn:l.length=n)(hb:n<=1000)(h0:0<n)(hg:Enters prog g)(hf:∀i<n,∀W,bF w W->CL g #[.agg #[S (iw l i).1,S (iw l i).2]] W (aC W λv _=>v=.bool true)):
 CL 75 #[.slice A n cp,.func (.func g) #[] #[]] w (aC w λv w'=>v=.bool true):=by
 refine aE func75 Z (I ?_);refine cl ON (GF (hr.ext (aa2 _)) hn hb h0 hg (λi hi W e=>hf i hi W (xt (aa2 _) e))) ?_;rintro _ _ qn rfl;have A1:=qn.2;refine I ?_;exact ax (t:=4) (v:=.bool true) Z A1 Z Z
def yX {l:List R}(hr:Rw w lo A (eX l))(hn:l.length=n)(hb:n<=1000)(h0:0<n)(hz:∀i<n,iw l i=([],[]))(ht:Tb w):
 CL 35 #[.slice A n cp] w (aC w λv w'=>v=.bool false):=by
 refine aE func35 Z (I ?_);refine clb T5 (hc:=yW (hr.ext (aa2 _)) hn hb h0 HC (λi hi W e=>by rw[hz i hi];exact yV ((ht.ext (aa2 _)).ext e))) (hk:=?_);rintro _ _ qn rfl;have A1:=qn.2;refine I ?_;exact ax (t:=2) (v:=.bool false) Z A1 Z Z
def so (ht:Tb w):
 CL 16 #[.agg #[S [],S [],S [],S [],S [],S [],S [],S [],S [],S [],S [],S [],S [],S []]] w (aC w λv w'=>v=.bool false):=by
 refine aE func16 Z (I ?_);refine bx (λ_ Ab A1=>?_);have qn:=Ab.2;refine I ?_;refine al aQ (λ_ Ap Ad=>?_);have⟨A1,qn⟩:=bD Ap.2 A1 qn;refine SA Ad (λ_ A2 _=>?_);have A1:=pb A2 A1;have qn:=bB A2 qn;refine I ?_;refine ac (ak (b:=w.heap.size) (o:=0) (off:=0) (oo:=0) aP Z Z aM Z Z ?_);refine I ?_;refine ac (ak (b:=w.heap.size) (o:=0) (off:=2) (oo:=2) aP Z Z aM Z Z ?_);refine I ?_;refine ac (ak (b:=w.heap.size) (o:=0) (off:=4) (oo:=4) aP Z Z aM Z Z ?_);refine I ?_;refine ac (ak (b:=w.heap.size) (o:=0) (off:=6) (oo:=6) aP Z Z aM Z Z ?_);refine I ?_;refine ac (ak (b:=w.heap.size) (o:=0) (off:=8) (oo:=8) aP Z Z aM Z Z ?_);refine I ?_;refine ac (ak (b:=w.heap.size) (o:=0) (off:=10) (oo:=10) aP Z Z aM Z Z ?_);refine I ?_;refine ac (ak (b:=w.heap.size) (o:=0) (off:=12) (oo:=12) aP Z Z aM Z Z ?_);refine I ?_
 refine ac (ej (vs:=[(0,.agg #[S [],S []]),(1,.agg #[S [],S []]),(2,.agg #[S [],S []]),(3,.agg #[S [],S []]),(4,.agg #[S [],S []]),(5,.agg #[S [],S []]),(6,.agg #[S [],S []])]) (cells:=#[S [],S [],S [],S [],S [],S [],S [],S [],S [],S [],S [],S [],S [],S []]) kS aQ Z dc dc GS Z dc (λ_ Af _ Am=>?_));have qn:=xt qn Af;refine clb BP (hc:=yX (n:=7) (l:=[([],[]),([],[]),([],[]),([],[]),([],[]),([],[]),([],[])]) (aa4 Am) Z dc dc Nd (ht.ext qn)) (hk:=?_);rintro _ _ Ao rfl;have qn:=xt qn Ao.2;refine I ?_;exact ax (t:=2) (v:=.bool false) Z qn Z Z
def Do (h1:1<=pl)(h12:pl<=12)(hVa:∀W,Tb W->CL 16 #[.agg #[S [],S [],S [],S [],S [],S [],S [],S [],S [],S [],S [],S [],S [],S []]] W (aC W λv _=>v=.bool false))(ht:Tb w):
 CL 12 #[.agg #[S [],S [],S [],S [],S [],S [],S [],S [],S [],S [],S [],S [],S [],S []],.int .i64 pl] w (aC w λv w'=>v=.tuple #[.agg #[S [],S [],S [],S []],.int .i64 150]):=by
 refine aE func12 Z (I ?_);refine bx (λAp Ar A1=>?_);have qn:=Ar.2;refine al ap (λAv As A2=>?_);have⟨A1,qn⟩:=bD As.2 A1 qn;refine al lT (λ_ Ao Ab=>?_);have⟨A1,A2,qn⟩:=bC Ao.2 A1 A2 qn;refine I ?_;refine cl lB (gD h1 h12) ?_;rintro _ _ Ax rfl;have⟨A1,A2,Ab,qn⟩:=bW Ax.2 A1 A2 Ab qn;refine I ?_;refine ac (ar (cs:=[S [],S [],S [],S [],S [],S [],S [],S [],S [],S [],S [],S [],S [],S []]) (b:=w.heap.size) (o:=0) aP Z cD Z (aa1 A1 (i:=0) GS) ?_);refine I ?_;refine cl qL (hVa _ (ht.ext qn)) ?_;rintro _ _ Aq rfl;have⟨A1,A2,Ab,qn⟩:=bW Aq.2 A1 A2 Ab qn;refine I ?_;refine SA A2 (λ_ Af Ad=>?_);have⟨A1,Ab⟩:=eR Af A1 Ab;have qn:=bB Af qn;refine SO Ab (λ_ Am Aw=>?_);have⟨A1,Ad⟩:=eR Am A1 Ad;have qn:=bB Am qn;refine I ?_;refine aI (v:=.tuple #[.agg #[S [],S [],S [],S []],.int .i64 150]) (cn (r1:=.cell 4 33) (r2:=.cell 5 34) Z ?_ ?_) qn Z;refine ag (t:=4) (cs:=[S [],S [],S [],S []]) (b:=Ap.heap.size) (o:=0) aJ Z ay ?_ ?_;exact Z;exact aa1 Ad (i:=0) Z;refine dh (t:=5) (b:=Av.heap.size) (o:=0) G9 Z ?_ ?_;exact Z;exact aa9 Aw Z
def GG {ma mb sa sb ea eb la lb ha hb oa ob ga gb:Int}(h1:1<=pl)(h12:pl<=12)(hVa:∀W,Tb W->CL 16 #[.agg (kaA ma mb sa sb ea eb la lb ha hb oa ob ga gb)] W (aC W λv _=>v=.bool true))(ht:Tb w):
 CL 22 #[.agg (kaA ma mb sa sb ea eb la lb ha hb oa ob ga gb),.int .i64 0,.int .i64 pl,.func (.func gp) #[] #[],.func (.func gc) #[] #[]] w (aC w λv w'=>v=.tuple #[.agg #[S [],S [],S [],S []],.int .i64 150]):=by
 refine aE func22 Z (I ?_);refine bx (λ_ E1 A1=>?_);have qn:=E1.2;refine bx (v:=.func (.func gp) #[] #[]) (hx:=rfl) (λ_ Ar A2=>?_);have⟨A1,qn⟩:=bD Ar.2 A1 qn;refine bx (v:=.func (.func gc) #[] #[]) (hx:=rfl) (λAy As Ab=>?_);have⟨A1,A2,qn⟩:=bC As.2 A1 A2 qn;refine al ap (λAw Av Ad=>?_);have⟨A1,A2,Ab,qn⟩:=bW Av.2 A1 A2 Ab qn;refine al lT (λ_ Aq Af=>?_);have⟨A1,A2,Ab,Ad,qn⟩:=eE Aq.2 A1 A2 Ab Ad qn;refine I ?_;refine cl lB (gD h1 h12) ?_;rintro _ _ E0 rfl;have⟨A1,A2,Ab,Ad,Af,qn⟩:=kW E0.2 A1 A2 Ab Ad Af qn;refine I ?_;refine SA Ad (λ_ Ao Am=>?_);have⟨A1,A2,Ab,Af⟩:=wm Ao A1 A2 Ab Af;have qn:=bB Ao qn;refine SO Af (λ_ Ap Ax=>?_);have⟨A1,A2,Ab,Am⟩:=wm Ap A1 A2 Ab Am;have qn:=bB Ap qn;refine I ?_;refine aI (v:=.tuple #[.agg #[S [],S [],S [],S []],.int .i64 150]) (cn (r1:=.cell 10 33) (r2:=.cell 11 34) Z ?_ ?_) qn Z;refine ag (t:=10) (cs:=[S [],S [],S [],S []]) (b:=Ay.heap.size) (o:=0) aJ Z ay ?_ ?_;exact Z;exact aa1 Am (i:=0) Z;refine dh (t:=11) (b:=Aw.heap.size) (o:=0) G9 Z ?_ ?_;exact Z;exact aa9 Ax Z
end
end Go.Proofs.YthpinljhfnodeaaGreatDoor
