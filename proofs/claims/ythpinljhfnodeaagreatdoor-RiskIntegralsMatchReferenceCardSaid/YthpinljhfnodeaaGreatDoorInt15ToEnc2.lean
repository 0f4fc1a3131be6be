/- Part of the proof of a statement about risks. -/
import Derived.Test.YthpinljhfnodeaaGreatDoorRat2ToSp5
set_option linter.all false
namespace Go.Proofs.YthpinljhfnodeaaGreatDoor
open Go Go.Eng Go.RowKit Tryz
variable {fn:Func}{f:FuncId}{c x y a d N n1 d1 n2 d2 sg D:Int}{l m:List UInt8}{args lb:List Value}{n t lo k pl sO b1 b2 g i cp:Nat}{e:Nat->Value}{A:Option Addr}{P:Program}{X Y v1 v2 v3 v4 v5 v6 v:Value}{w w':World}
section
attribute [local irreducible] wpListIn Code.wpIn Oper.wpIn Exit.then Exit.inBlock Exit.noGoto
set_option maxHeartbeats 40000000
def zY:Nat->Nat->Nat
 |0,_=>0
 |f+1,n=>if n=0 then 0 else zY f (n/10000)+1
def zZ:∀{f n:Nat},n<10000^f->(av 10000 n).length=zY f n
 |0,n,h=>by rw[show n=0 by simpa using h,gL];rfl
 | f +1,n,h=>by
   unfold zY
   split
   · rename_i h0;rw[h0,gL];rfl
   · rename_i h0
     rw[gw 10000 n U U,List.length_cons,zZ (f:=f)]
     rw[Nat.pow_succ]at h
     exact Nat.div_lt_of_lt_mul (by rw[Nat.mul_comm];exact h)
def Nj:Nat->Nat->Nat->Option Nat
 |0,_,_=>none
 |f+1,n,t=>if t<=(t+n/t)/2 then some t else Nj f n ((t+n/t)/2)
def RV (n:Nat):Option Nat:=Nj 1000 n (10000^((zY 60 n+1)/2))
def Xe {f r:Nat}(h:Nj f n t=some r)(hl:t<=(t+n/t)/2):r=t:=by
 cases f with
 |zero=>cases h
 |succ g=>unfold Nj at h;rw[if_pos hl]at h;cases h;rfl
def Xf {f r:Nat}(h:Nj f n t=some r)(hl:¬t<=(t+n/t)/2):∃g,f=g+1/\Nj g n ((t+n/t)/2)=some r:=by
 cases f with
 |zero=>cases h
 |succ g=>unfold Nj at h;rw[if_neg hl]at h;exact⟨g,rfl,h⟩
def Ep (k:Nat):av 10000 (10000^k)=List.replicate k 0++[1]:=by
 induction k with
 |zero=>decide
 | succ k ih=>
   rw[gw 10000 _ U (Nat.pow_pos U),Nat.pow_succ,Nat.mul_mod_left,Nat.mul_div_cancel _ U,ih,List.replicate_succ,List.cons_append]
def Nk {c:Nat}(h:Rw w lo A ((madeCells (Value.int .i64 0).cells (k*1)).toList++[Value.int .i64 1]))(hc:k+1<=c):eM w lo A (k+1) c (10000^k):=by
 refine⟨?_,by rw[Ep];simp,hc⟩
 have e:(madeCells (Value.int .i64 0).cells (k*1)).toList++[Value.int .i64 1]=ints (av 10000 (10000^k)):=by
  show(madeCells #[Value.int .i64 0] (k*1)).toList++_=_
  rw[qQ,Ep];simp[ints]
 rw[<-e];exact h
def Nl (h:Rw w lo A [Value.int .i64 2]):eM w lo A 1 1 2:=by
 have e:av 10000 2=[2]:=by decide
 exact⟨by rw[e];exact h,by rw[e];rfl,qa0 _⟩
def Er (n:Nat):body (nS n)=bQ n:=by unfold nS;rw[fq];simp
def IX (n:Nat):neg (nS n)=false:=by unfold nS;rw[iC];exact qa2 U
def IY (hn:Fi n):CL 146 #[S (nS n),S [48]] w (aC w λv w'=>∃A1 n1 c1 A2 n2 c2,v=.tuple #[.agg #[.bool false,.slice A1 n1 c1],.agg #[.bool false,.slice A2 n2 c2],.bool true]/\eM w' w.heap.size A1 n1 c1 n/\eM w' w.heap.size A2 n2 c2 0):=by
 have h:=lL (nS n) [48] w hn.z.int jN
 rw[Er,IX,gh,show neg [48]=false from rfl,show aN (body [48])=0 from qS]at h
 exact h
def IZ (h:Fi n):n<10000^50:=qb0 h dc
def I0 (hn:n<10000^50)(ht:t<=10000^26):t+n/t<10000^51:=by
 have h1:n/t<=n:=Nat.div_le_self _ _
 have h2:(10000:Nat)^50+10000^26<10000^51:=by decide
 omega
def Nm (ht:t≤10000 ^ 26) : gj (bw (cK false t))=.tuple #[S (nS t),.int .i64 0]:=by
 have h : fits (cK false t) = true := qa1 (by have h2:(10000:Nat)^26<10^200:=by decide
                                              simp[cK];omega)
 unfold bw;rw[if_pos h];rfl
def oF :(0<=aG x y)↔y<=x:=by
 unfold aG;split
 · constructor <;>intro h <;>omega
 · split
   · constructor <;>intro _ <;>omega
   · constructor <;>intro _ <;>omega
def Xg {a:Array Value}(h:CL f a w (aC w λv _=>v=X))(e:X=Y):CL f a w (aC w λv _=>v=Y):=e▸h
def Ve {x y:Nat}(h:(0:Int)<=aG (x:Int) (y:Int)):y<=x:=by
 rw[oF]at h
 omega
def Vf {x y:Nat}(h:¬(0:Int)<=aG (x:Int) (y:Int)):¬y<=x:=by
 rw[oF]at h
 omega
def RX (hn:0<n)(ht:0<t):0<(t+n/t)/2:=by
 by_cases h:t=1
 · subst h;rw[Nat.div_one];omega
 · have h2:2<=t:=J
   exact Nat.div_pos (qa8 h2 (Nat.le_add_right _ _)) U
set_option maxRecDepth 100000 in
def Es {r:Nat}(fn:Fi n)(hn0:0<n)(hr:RV n=some r)(ht:Tb w):
 CL 252 #[S (nS n)] w (aC w λv w'=>v=.tuple #[S (nS r),.int .i64 0]):=by
 have L2:(av 10000 n).length=zY 60 n:=zZ (qb0 (IZ fn) (Nat.pow_le_pow_right dc dc));refine aE func252 Z (I ?_);refine cl kU (IY fn) ?_;rintro _ EP T4 ⟨A1,n1,c1,A2,n2,c2,rfl,hN,Z7⟩;have qn:=T4.2;have uhN:=hN.hi;have X2:=dt hN (IZ fn);have p1:0<n1:=by rw[<-hN.len,List.length_pos_iff];exact λe=>by have:=dj 10000 U n;rw[e]at this;simp[b8]at this;omega
 refine I ?_;refine al cC (λwr F1 E9=>?_);have hN:=aa3 F1.2 hN;have qn:=xt qn F1.2;refine al cC (λ_ F2 EE=>?_);have hN:=aa3 F2.2 hN;have⟨E9,qn⟩:=bD F2.2 E9 qn;refine SA E9 (λ_ Ek O=>?_);have hN:=ab1 Ek (λAd e=>by have:=uhN Ad e;omega) hN;have⟨EE,qn,_⟩:=ks Ek EE qn;refine SA EE (λEW F8 qr=>?_);have hN:=ab1 F8 (λAd e=>by have:=uhN Ad e;omega) hN;have⟨O,qn,_⟩:=ks F8 O qn;refine I ?_;refine ac (bb (a:=(n1:Int)) (b:=1) (c:=((n1+1:Nat):Int)) Z Z L7 U ?_);refine ac (oR (a:=((n1+1:Nat):Int)) (b:=2) (c:=((((n1+1)/2):Nat):Int)) Z Z U U L7 U ?_);refine ac (tD (m:=((n1+1)/2)) hO mf Z Z U DQ (λ_ F4 _ E0=>?_));have F6:(.slice (some ⟨EW.heap.size,0,none⟩) ((n1+1)/2) ((n1+1)/2):Value).ownBlock≠some (EP.heap.size):=λe=>by(have:=bt O;simp only[Value.ownBlock,Option.map_some,Option.some.injEq]at e;omega)
 have G3:(.slice (some ⟨EW.heap.size,0,none⟩) ((n1+1)/2) ((n1+1)/2):Value).ownBlock≠some (wr.heap.size):=λe=>by(have:=bt qr;simp only[Value.ownBlock,Option.map_some,Option.some.injEq]at e;omega)
 have hN:=aa3 F4 hN;have⟨O,qr,qn⟩:=bC F4 O qr qn;refine BS (λ_ Aw _ Ix=>?_);have hN:=aa3 Aw hN;have⟨O,qr⟩:=jk Aw O qr;have E0:=aX Aw E0;have qn:=xt qn Aw;refine AP E0 (aa4 Ix) (λK2 N1 F5 od F7=>?_);have TT:=fo F7 F6 (bt O);have W2:=fo F7 G3 (bt qr);have hN:=eM.gr od (λAd e=>by have:=uhN Ad e;simp[Value.ownBlock];omega) hN;have O:=aa0 od (λe=>F6 e.symm) O;have qr:=aa0 od (λe=>G3 e.symm) qr;have qn:=dQ E0 U U qn od;have W1:=od.size;refine ac (bO (v:=K2) Z ?_);refine I ?_;obtain⟨At,T2,rfl,G4,-,-,-⟩:=eT F5;have hT:=Nk (aa4 F5) G4;have S1:Nj 1000 n (10000^((n1+1)/2))=some r:=by rw[<-hN.len,L2];exact hr
 refine I ?_;refine JT [(2,3),(7,11),(32,60)] (λT3 e W=>∃f:Nat,∃Ax:Option Addr,∃nx:Nat,∃Ao:Nat,∃t:Nat,(f=T3)/\(e 7=.slice Ax nx Ao)/\(Nj f n t=some r)/\(t<=10000^26)/\(0<t)/\(N1.heap.size<=W.heap.size)/\(bF w W)/\(eM W w.heap.size A1 n1 c1 n)/\(au W EP.heap.size 152 #[.bool false,.slice A1 n1 c1])/\(au W wr.heap.size 152 #[.bool false,.slice A2 n2 c2])/\(eM W w.heap.size Ax nx Ao t)) (1000) ⟨1000,At,((n1+1)/2)+1,T2,10000^((n1+1)/2),rfl,rfl,S1,(Nat.pow_le_pow_right dc U),(Nat.pow_pos dc),(qa0 _),qn,hN,O,qr,(hT.mono U)⟩ ?_;rintro _ _ _ ⟨f,Ax,nx,Ao,t,rfl,W0,hf,E4,F3,Wa,Ab,hN,O,qr,hT⟩;have lt:=dt (k:=27) hT (Nat.lt_of_le_of_lt E4 dc);refine I ?_;refine clb Dv (hc:=sQ hN U hT U F3) (hk:=?_);rintro _ _ Av ⟨Aq,Z3,Z2,Ar,Z5,Z1,rfl,hQ,hRr⟩;have hN:=aa3 Av.2 hN;have⟨O,qr⟩:=jk Av.2 O qr;have hT:=aa3 Av.2 hT;have Ab:=xt Ab Av.2;have W3:=dt hQ (Nat.lt_of_le_of_lt (Nat.div_le_self _ _) (IZ fn));refine I ?_;refine clb ze (hc:=o6 hT U hQ U) (hk:=?_);rintro _ _ E7 ⟨As,Z6,cs,rfl,hS⟩;have hN:=aa3 E7.2 hN;have⟨O,qr⟩:=jk E7.2 O qr;have hT:=aa3 E7.2 hT;have Ab:=xt Ab E7.2;have ls:=dt hS (I0 (IZ fn) E4);refine BS (λ_ Af _ Jx=>?_);have hN:=aa3 Af hN;have⟨O,qr⟩:=jk Af O qr;have hT:=aa3 Af hT
 have hS:=aa3 Af hS;have Ab:=xt Ab Af;have R1:=Nl (aa4 Jx);refine clb Dv (hc:=sQ hS U R1 U dc) (hk:=?_);rintro _ _ Ap ⟨Ay,ny,Ne,Ar2,Wb,Z0,rfl,hY,hR2⟩;have hN:=aa3 Ap.2 hN;have⟨O,qr⟩:=jk Ap.2 O qr;have hT:=aa3 Ap.2 hT;have Ab:=xt Ab Ap.2;have Z8:=dt hY (Nat.lt_of_le_of_lt (Nat.div_le_self _ _) (I0 (IZ fn) E4));refine I ?_;refine clb zf (hc:=jL hY U hT) (hk:=?_);rintro _ _ Am rfl;have hN:=aa3 Am.2 hN;have⟨O,qr⟩:=jk Am.2 O qr;have hT:=aa3 Am.2 hT;have hY:=aa3 Am.2 hY;have Ab:=xt Ab Am.2;refine I ?_;by_cases v7:0<=(aG (((t+n/t)/2:Nat):Int) ((t:Nat):Int));have E1:=Ve v7;have No:=Xe hf E1;refine I ?_;refine ac (aV (vs:=[(1,.slice Ax nx Ao)]) (cells:=#[.bool false,.slice Ax nx Ao]) (pl:=[(0,1),(1,1)]) kT cC GS Z GS ?_);refine clb mj (hc:=Xg (gk (ng:=false) hT U (ht.ext Ab)) (Nm E4)) (hk:=?_);rintro _ _ Kp rfl;have Ab:=xt Ab Kp.2;refine I ?_;exact bN (t:=2) (u:=3) (v1:=S (nS t)) (v2:=.int .i64 0) Z Ab (by rw[No]) Z Z;have E1:=Vf v7;obtain⟨g,rfl,h2⟩:=Xf hf E1;refine I ?_;exact c6 ⟨g,Ay,ny,Ne,(t+n/t)/2,rfl,rfl,h2,(by have:=Nat.not_le.1 E1;omega),(RX hn0 F3),U,Ab,hN,O,qr,(hY.mono U)⟩
end
section
def im (S:Nat)(a:N2):Option N2:=if kO a=true/\0<a.1*S/\0<a.2*S then(RV (a.1*S)).bind λx=>(RV (a.2*S)).bind λy=>if kO (x,y)=true then some (x,y+1)else none else none
def I1 {S:Nat}{a r:N2}(h:im S a=some r):Bk 95 a/\0<a.1*S/\0<a.2*S/\∃x y,RV (a.1*S)=some x/\RV (a.2*S)=some y/\Bk 95 (x,y)/\r=(x,y+1):=by
 unfold im at h
 split at h
 · rename_i h1
   refine⟨df h1.1,h1.2.1,h1.2.2,?_⟩
   cases hx:RV (a.1*S)with
   |none=>rw[hx]at h;cases h
   | some x=>
     rw[hx,Option.bind_some]at h
     cases hy:RV (a.2*S)with
     |none=>rw[hy]at h;cases h
     | some y=>
       rw[hy,Option.bind_some]at h
       split at h
       · rename_i h2;cases h;exact⟨x,y,rfl,rfl,df h2,rfl⟩
       · cases h
 · cases h
def Pm:List UInt8:=[51,49,52,49,53,57,50,54,53,51,53,56,57,55,57,51,50,51,56,52,54,50,54,52,51,51,56,51,50,55,57,53,48,50,56,56,52,49,57,55,49,54,57,51,57,57,51,55,53,49,48,53,56,50,48,57,55,52,57,52,52,53,57,50,51,48,55,56,49,54,52,48,54,50,56,54,50,48,56,57,57]
def jf (k:Nat):Nat:=314159265358979323846264338327950288419716939937510582097494459230781640628620899/10^(80-k)
def I2 (h:k<81):Pm.take (k+1)=nS (jf k):=by
 have:∀k:Fin 81,Pm.take (k.1+1)=nS (jf k.1):=by decide +kernel
 exact this ⟨k,h⟩
def I3 :jf k<10^81:=Nat.lt_of_le_of_lt (Nat.div_le_self _ _) dc
def GQ (S pl n d:Nat):Option N2:=
 if kO (n,d)=true/\0<d/\kO (bV S n d)=true/\kO (cg S (bV S n d) (bV S n d))=true then
  (zR (RP S (cg S (bV S n d) (bV S n d))) (bV S n d)).bind λs=>
  (yi S (cH (cg S (bV S n d) (bV S n d)) 1 2)).bind λe=>
  (im S (cH (jf pl,jf pl+1) 2 1)).bind λc=>
  if kO s=true/\kO c=true/\0<(cg S e c).1/\0<(cg S e c).2 then some (vQ S s (cg S e c))else none
 else none
def I4 {S d:Nat}{r:N2}(h:GQ S pl n d=some r):Bk 95 (n,d)/\0<d/\Bk 95 (bV S n d)/\Bk 95 (cg S (bV S n d) (bV S n d))/\∃s e c,
 zR (RP S (cg S (bV S n d) (bV S n d))) (bV S n d)=some s/\yi S (cH (cg S (bV S n d) (bV S n d)) 1 2)=some e/\im S (cH (jf pl,jf pl+1) 2 1)=some c/\Bk 95 s/\Bk 95 c/\0<(cg S e c).1/\0<(cg S e c).2/\r=vQ S s (cg S e c):=by
 unfold GQ at h
 split at h
 · rename_i h1
   refine⟨df h1.1,h1.2.1,df h1.2.2.1,df h1.2.2.2,?_⟩
   cases hs:zR (RP S (cg S (bV S n d) (bV S n d))) (bV S n d)with
   |none=>rw[hs]at h;cases h
   | some s=>
     rw[hs,Option.bind_some]at h
     cases he:yi S (cH (cg S (bV S n d) (bV S n d)) 1 2)with
     |none=>rw[he]at h;cases h
     | some e=>
       rw[he,Option.bind_some]at h
       cases hc:im S (cH (jf pl,jf pl+1) 2 1)with
       |none=>rw[hc]at h;cases h
       | some c=>
         rw[hc,Option.bind_some]at h
         split at h
         · rename_i h2;cases h;exact⟨s,e,c,rfl,rfl,rfl,df h2.1,df h2.2.1,h2.2.2.1,h2.2.2.2,rfl⟩
         · cases h
 · cases h
end
section
set_option maxRecDepth 100000
attribute [local irreducible] wpListIn Code.wpIn Oper.wpIn Exit.then Exit.inBlock Exit.noGoto
set_option maxHeartbeats 40000000
def RY:Pm.length=81:=by decide +kernel
def uL {d:Nat}(hl:l=nS n)(hm:m=nS d)(hS:Sc sO)(hn:Fi n)(hd:Fi d)(h0:0<d)(hf:Fi (n*sO))(ht:Tb w):
 CL 161 #[.agg #[.int .i64 pl,S (nS sO)],.agg #[S l,S m]] w (aC w λv _=>v=.agg #[S (nS (bV sO n d).1),S (nS (bV sO n d).2)]):=by
 subst hl hm
 exact Na hS hn hd h0 hf ht
def FN {a r:N2}(hS:Sc sO)(hr:im sO a=some r)(ht:Tb w):
 CL 207 #[.agg #[.int .i64 pl,S (nS sO)],.agg #[S (nS a.1),S (nS a.2)]] w (aC w λv w'=>v=.agg #[S (nS r.1),S (nS r.2)]):=by
 obtain⟨ha,p1,p2,x,y,A2,Aw,hb,Ad⟩:=I1 hr;have fa:=ha.fi dc;refine aE func207 Z (I ?_);refine bx (λ_ Av qr=>?_);have O:=Av.2;refine bx (λAm Af W=>?_);have⟨qr,O⟩:=bD Af.2 qr O;refine al cO (λ_ Ao qn=>?_);have⟨qr,W,O⟩:=bC Ao.2 qr W O;refine I ?_;refine clb iB (hc:=gB Z Z fa.1 hS.fi (cV ha.1 hS.lt dc) (ht.ext O)) (hk:=?_);rintro _ _ Aq rfl;have⟨qr,W,qn,O⟩:=bW Aq.2 qr W qn O;refine clb Hy (hc:=Es (cV ha.1 hS.lt dc) p1 A2 (ht.ext O)) (hk:=?_);rintro _ _ As rfl;have⟨qr,W,qn,O⟩:=bW As.2 qr W qn O;refine I ?_;refine clb iB (hc:=gB Z Z fa.2 hS.fi (cV ha.2 hS.lt dc) (ht.ext O)) (hk:=?_);rintro _ _ Ax rfl;have⟨qr,W,qn,O⟩:=bW Ax.2 qr W qn O;refine clb Hy (hc:=Es (cV ha.2 hS.lt dc) p2 Aw (ht.ext O)) (hk:=?_);rintro _ _ Ab rfl;have⟨qr,W,qn,O⟩:=bW Ab.2 qr W qn O;refine I ?_;refine clb ml (hc:=j8 Z yh (by have:=hb.2;unfold Fi;simp only at this;omega) (ht.ext O)) (hk:=?_);rintro _ _ Ap rfl;have⟨qr,W,qn,O⟩:=bW Ap.2 qr W qn O;refine I ?_;refine SA qn (λ_ A1 Ar=>?_);have⟨qr,W⟩:=eR A1 qr W;have O:=bB A1 O;refine I ?_;refine aI (v:=.agg #[S (nS x),S (nS (y+1))]) (cF  rfl ?_) O (by rw[Ad]);refine ag (t:=4) (cs:=[S (nS x),S (nS (y+1))]) (b:=Am.heap.size) (o:=0) jr Z fZ ?_ ?_;exact Z;exact aa1 Ar (i:=0) Z
def Vg (hp:pl<81)(ht:Tb w):
 CL 208 #[.agg #[.int .i64 pl,S (nS sO)]] w (aC w λv w'=>v=.agg #[S (nS ((jf pl,jf pl+1).1)),S (nS ((jf pl,jf pl+1).2))]):=by
 refine aE func208 Z (I ?_);refine bx (λA2 Af qr=>?_);have O:=Af.2;refine al cO (λ_ Ad W=>?_);have⟨qr,O⟩:=bD Ad.2 qr O;refine I ?_;refine ac (bb (a:=(pl:Int)) (b:=1) (c:=((pl+1:Nat):Int)) Z Z L7 U ?_);refine ac (iU (l:=Pm) (i:=0) (j:=pl+1) U9 Z (.inl ⟨rfl,rfl⟩) (.inr ⟨_,qb1 some Z⟩) U (by rw[RY];omega) ?_);rw[show(Pm.take (pl+1)).drop 0=Pm.take (pl+1)from rfl];refine I ?_;refine clb ml (hc:=j8 (I2 hp) yh (by have:=I3 (k:=pl);unfold Fi;omega) (ht.ext O)) (hk:=?_);rintro _ _ Ab rfl;have⟨qr,W,O⟩:=bC Ab.2 qr W O;refine I ?_;refine SA W (λ_ qn A1=>?_);have qr:=pb qn qr;have O:=bB qn O;refine I ?_;refine aI (v:=.agg #[S (Pm.take (pl+1)),S (nS (jf pl+1))]) (cF  rfl ?_) O (by exact qb1 (λl=>Value.agg #[S l,S (nS (jf pl+1))]) (I2 hp));refine ag (t:=2) (cs:=[S (Pm.take (pl+1)),S (nS (jf pl+1))]) (b:=A2.heap.size) (o:=0) jr Z fZ ?_ ?_;exact Z;exact aa1 A1 (i:=0) Z
def nQ {d:Nat}{r:N2}(hS:Sc sO)(hp:pl<81)(hh:GQ sO pl n d=some r)(ht:Tb w):
 CL 164 #[.agg #[.int .i64 pl,S (nS sO)],.agg #[S (nS n),S (nS d)]] w (aC w λv w'=>v=.agg #[S (nS r.1),S (nS r.2)]):=by
 obtain⟨Ax,TT,hv,Ay,s,Ad,c,hs,Aw,hc,F1,Ar,T3,Ek,rfl⟩:=I4 hh;obtain⟨m,hR,hr⟩:=zU hs;have As:=RO Aw;have Ap:=Ax.fi dc;refine aE func164 Z (I ?_);refine bx (λ_ Z8 qr=>?_);have O:=Z8.2;refine bx (λZ1 EP qn=>?_);have⟨qr,O⟩:=bD EP.2 qr O;refine al cO (λ_ Z2 A1=>?_);have⟨qr,qn,O⟩:=bC Z2.2 qr qn O;refine I ?_;refine clb BK (hc:=uL (n:=n) (d:=d) Z Z hS Ap.1 Ap.2 TT (cV Ax.1 hS.lt dc) (ht.ext O)) (hk:=?_);rintro _ _ Z0 rfl;have⟨qr,qn,A1,O⟩:=bW Z0.2 qr qn A1 O;refine al cO (λ_ W0 No=>?_);have⟨qr,qn,A1,O⟩:=bW W0.2 qr qn A1 O;refine SA No (λ_ Ne A2=>?_);have⟨qr,qn,A1,O,_⟩:=l7 Ne qr qn A1 O;refine I ?_;refine cl tR (jO hS hv hv (ht.ext O)) ?_;rintro _ E0 F6 rfl;have⟨qr,qn,A1,A2,O⟩:=eE F6.2 qr qn A1 A2 O;refine al cO (λ_ Wa Wb=>?_);have⟨qr,qn,A1,A2,O⟩:=eE Wa.2 qr qn A1 A2 O;refine SA Wb (λL2 F4 Ab=>?_);have⟨qr,qn,A1,A2,O,_⟩:=vK F4 qr qn A1 A2 O;refine I ?_;refine bY 6 ?_;refine sf ?_;refine bl (λ_ _ _ _=>by refine ac (cL (vf:=[]) (vc:=[pT w.heap.size,pT E0.heap.size]) Z Z ?_);refine I ?_;exact cz) ?_;refine eU (λv Am=>FM (bV sO n d) (.func (.func 203) #[] #[pT w.heap.size,pT E0.heap.size]) Am v) (hs:=λ_ _ _ k h=>h.ext k) (λ_ _ _ _=>?_) ?_;refine cl Hp zX ?_
 rintro _ _ W3 F8;have T4:=W3.2;refine I ?_;exact fs ⟨T4,F8⟩;refine aF (V:=.agg #[S (nS s.1),S (nS s.2)]) (λ_ _ Ao F2=>?_) ?_;obtain⟨_,_,Z7,E9,ZA⟩:=(F2 3 18 Z Z);have⟨qr,Ab⟩:=jk Ao qr Ab;refine clb Ho (hc:=cP (IW hR hS E9 ZA Qs (λk hk W e=>RS hS (qr.ext e) (Ab.ext e) (hR.bd k U) Ay U (by have:=hR.lt;omega) ((ht.ext (xt O Ao)).ext e)) (ht.ext (xt O Ao))) hr) (hk:=?_) (hv:=ai Z (ai Z7 Z));rintro _ _ F7 rfl;have EE:=F7.2;refine I ?_;exact fs ⟨EE,rfl⟩;refine eU (λv Am=>∃b:Nat,v=pT b/\L2.heap.size<=b/\au Am b 165 #[S [],S []]) (hs:=λ_ _ _ k ⟨b,e,l,h⟩=>⟨b,e,l,h.ext k⟩) (λ_ _ wr _=>?_) ?_;refine al cO (λ_ N1 F5=>?_);have X2:=N1.2;refine I ?_;exact fs ⟨X2,⟨_,rfl,(by have:=bz wr;omega),F5⟩⟩;refine sf ?_;intro _ _ F3 K2;have⟨qr,qn,A1,A2,Ab,O⟩:=kW F3.2 qr qn A1 A2 Ab O;obtain⟨_,_,_,G4⟩:=(K2 5 7 Z Z);refine SA G4 (λ_ E1 Af=>?_);have⟨qr,qn,A1,A2,Ab⟩:=jv E1 qr qn A1 A2 Ab;have O:=bB E1 O;refine I ?_;refine bY 15 ?_;refine sf ?_;refine aF (V:=.agg #[S (nS ((cH (cg sO (bV sO n d) (bV sO n d)) 1 2).1)),S (nS ((cH (cg sO (bV sO n d) (bV sO n d)) 1 2).2))]) (λ_ _ Kp _=>?_) ?_;refine clb tQ (hc:=pw (Ay.mono dc) dc dc dc (ht.ext (xt O Kp))) (hk:=?_);rintro _ _ G3 rfl;have Z3:=G3.2;refine I ?_;exact fs ⟨Z3,rfl⟩
 refine aF (V:=.agg #[S (nS Ad.1),S (nS Ad.2)]) (λ_ _ Ix _=>?_) ?_;refine cl Qc (RU hS Aw (ht.ext (xt O Ix))) ?_;rintro _ _ ZC rfl;have Z6:=ZC.2;refine I ?_;exact fs ⟨Z6,rfl⟩;refine sf ?_;refine aF (V:=.agg #[S (nS ((jf pl,jf pl+1).1)),S (nS ((jf pl,jf pl+1).2))]) (λ_ _ R1 _=>?_) ?_;refine cl Qn (Vg hp (ht.ext (xt O R1))) ?_;rintro _ _ W2 rfl;have Jx:=W2.2;refine I ?_;exact fs ⟨Jx,rfl⟩;refine aF (V:=.agg #[S (nS ((cH (jf pl,jf pl+1) 2 1).1)),S (nS ((cH (jf pl,jf pl+1) 2 1).2))]) (λ_ _ S1 _=>?_) ?_;refine clb tQ (hc:=pw (⟨fe I3 dc,by have:=I3 (k:=pl);simp only;omega⟩:Bk 190 (jf pl,jf pl+1)) dc dc dc (ht.ext (xt O S1))) (hk:=?_);rintro _ _ Z9 rfl;have E7:=Z9.2;refine I ?_;exact fs ⟨E7,rfl⟩;refine aF (V:=.agg #[S (nS c.1),S (nS c.2)]) (λ_ _ ZB _=>?_) ?_;refine cl Qm (FN hS hc (ht.ext (xt O ZB))) ?_;rintro _ _ T2 rfl;have EW:=T2.2;refine I ?_;exact fs ⟨EW,rfl⟩;refine aF (V:=.agg #[S (nS ((cg sO Ad c).1)),S (nS ((cg sO Ad c).2))]) (λ_ _ ny _=>?_) ?_;refine cl tR (jO hS As Ar (ht.ext (xt O ny))) ?_;rintro _ _ od rfl;have W1:=od.2;refine I ?_;exact fs ⟨W1,rfl⟩;refine sf ?_;intro _ _ Av _;have⟨qr,qn,A1,A2,Ab⟩:=dY Av.2 qr qn A1 A2 Ab;have⟨Af,O⟩:=bD Av.2 Af O
 refine cl Qb (FL hS F1 (qZ hS.pos As Ar) T3 Ek (ht.ext O)) ?_;rintro _ _ Aq rfl;have⟨qr,qn,A1,A2,Ab⟩:=dY Aq.2 qr qn A1 A2 Ab;have⟨Af,O⟩:=bD Aq.2 Af O;refine SA A1 (λ_ E4 Z5=>?_);have⟨qr,qn,A2,Ab,Af⟩:=jv E4 qr qn A2 Ab Af;have O:=bB E4 O;refine I ?_;refine aI (v:=.agg #[S (nS ((vQ sO s (cg sO Ad c)).1)),S (nS ((vQ sO s (cg sO Ad c)).2))]) (cF  rfl ?_) O Z;refine ag (t:=4) (cs:=[S (nS ((vQ sO s (cg sO Ad c)).1)),S (nS ((vQ sO s (cg sO Ad c)).2))]) (b:=Z1.heap.size) (o:=0) jr Z fZ ?_ ?_;exact Z;exact aa1 Z5 (i:=0) Z
def Xh (h:(1:Int)<=((l.length:Nat):Int)):Value.bool (decide (l.take 1=[45]))=.bool (neg l):=by
 cases l with
 |nil=>simp at h
 |cons a t=>congr 1;simp only[neg,List.take_succ_cons,List.take_zero,List.cons.injEq,and_true];cases hh:decide (a=45) <;>simp_all
def Xi (h:¬(1:Int)<=((l.length:Nat):Int)):Value.bool false=.bool (neg l):=by
 cases l with
 |nil=>rfl
 |cons a t=>simp at h;omega
def Vh (h:neg l=true):l.drop 1=body l:=by
 have:=mI h
 rw[this];rfl
def Nn (h:neg l=true):1<=l.length:=by rw[mI h];simp
def Vi (h:N<0):neg (ae N)=true:=by rw[iC];exact qa1 h
def Vj (h:¬N<0):neg (ae N)=false:=by rw[iC];exact qa2 h
def I5 (n:Nat):bQ n=nS n:=(Er n).symm.trans (by unfold nS;exact mJ (IX n))
def RZ (N:Int):body (ae N)=nS N.natAbs:=by rw[fq,I5]
def I6 (h:¬N<0):ae N=nS N.natAbs:=by unfold nS;congr 1;omega
def Pn (S pl:Nat)(N:Int)(d:Nat):Option (Int×Int):=(GQ S pl N.natAbs d).map λh=>if N<0 then Ct (bV S 1 2) h else zP (fE (bV S 1 2) h)
def R0 {S d:Nat}{r:Int×Int}(h:Pn S pl N d=some r):∃h,GQ S pl N.natAbs d=some h/\r=if N<0 then Ct (bV S 1 2) h else zP (fE (bV S 1 2) h):=by
 unfold Pn at h
 cases hh:GQ S pl N.natAbs d with
 |none=>rw[hh]at h;cases h
 |some x=>rw[hh]at h;cases h;exact⟨x,rfl,rfl⟩
def Vk {S d:Nat}{r:N2}(hS:Sc S)(h:GQ S pl n d=some r):Bk 190 r:=by
 obtain⟨_,_,_,_,s,e,c,_,_,_,hs,_,h1,_,rfl⟩:=I4 h
 exact IG hS h1 hs
def Vl {S d:Nat}(hS:Sc S)(hn:n<10)(hd:0<d):Bk 99 (bV S n d):=by
 have h1:n*S<10^99:=by
  have:=hS.lt
  have h2:n*S<=10*S:=Nat.mul_le_mul_right _ U
  omega
 exact⟨Nat.lt_of_le_of_lt (Nat.div_le_self _ _) h1,Nat.lt_of_le_of_lt (lN hd) h1⟩
def kE (l:List UInt8)(w:World):
 CL 169 #[S l,S [45]] w (aC w λv w'=>v=.bool (neg l)):=by
 refine aE func169 Z (I ?_);by_cases cf:((1:Nat):Int)<=(((l).length:Nat):Int);refine I ?_;refine ac (cY (l:=l) U9 Z ?_);refine I ?_;refine ac (gO (l:=[45]) (m:=1) U9 Z Z ?_);refine I ?_;refine ac (gO (l:=[45]) (m:=1) U9 Z Z ?_);refine I ?_;refine ac (iU (l:=l) (i:=0) (j:=1) U9 Z (.inl ⟨rfl,rfl⟩) (.inr ⟨_,qb1 some Z⟩) U U ?_);rw[show((l).take (1)).drop 0=(l).take (1)from rfl];refine I ?_;refine qO (b:=[45]) (I ?_);exact ax (t:=4) (v:=.bool (decide (((l).take (1))=([45])))) Z (aa2 _) (Xh cf) Z;refine I ?_;refine ac (cY (l:=l) U9 Z ?_);refine I ?_;refine ac (gO (l:=[45]) (m:=1) U9 Z Z ?_);refine I ?_;exact ax (t:=4) (v:=.bool false) Z (aa2 _) (Xi cf) Z
def px (l:List UInt8)(w:World):
 CL 123 #[S l,S [45]] w (aC w λv w'=>v=.bool (neg l)):=by
 refine aE func123 Z (I ?_);refine cl Hi (kE l _) ?_;rintro _ _ O rfl;have qr:=O.2;refine I ?_;exact ax (t:=4) (v:=.bool (neg l)) Z qr Z Z
def I7 (h:neg l=true):
 CL 198 #[S l,S [45]] w (aC w λv w'=>v=.tuple #[S (body l),.bool true]):=by
 refine aE func198 Z (I ?_);refine cl Hi (kE l _) ?_;rintro _ _ O rfl;have qr:=O.2;refine I ?_;refine ac (gO (l:=[45]) (m:=1) U9 Z Z ?_);refine ac (iU (l:=l) (i:=1) (j:=(l).length) U9 Z (.inr ⟨_,qb1 some Z⟩) (.inl ⟨rfl,rfl⟩) (Nn h) (qa0 _) ?_);rw[show((l).take ((l).length)).drop (1)=(l).drop (1)by rw[List.take_length]];refine I ?_;exact bN (t:=4) (u:=5) (v1:=S ((l).drop (1))) (v2:=.bool true) Z qr (by rw[Vh h]) Z Z
def Np (h:neg l=true):
 CL 162 #[S l,S [45]] w (aC w λv w'=>v=.tuple #[S (body l),.bool true]):=by
 refine aE func162 Z (I ?_);refine cl Hn (I7 h) ?_;rintro _ _ O rfl;have qr:=O.2;refine I ?_;exact bN (t:=4) (u:=5) (v1:=S (body l)) (v2:=.bool true) Z qr Z Z Z
def I8 (h:neg l=false):
 CL 198 #[S l,S [45]] w (aC w λv w'=>v=.tuple #[S l,.bool false]):=by
 refine aE func198 Z (I ?_);refine cl Hi (kE l _) ?_;rintro _ _ O rfl;have qr:=O.2;refine I ?_;exact bN (t:=4) (u:=5) (v1:=S l) (v2:=.bool false) Z qr Z Z Z
def Nq (h:neg l=false):
 CL 162 #[S l,S [45]] w (aC w λv w'=>v=.tuple #[S l,.bool false]):=by
 refine aE func162 Z (I ?_);refine cl Hn (I8 h) ?_;rintro _ _ O rfl;have qr:=O.2;refine I ?_;exact bN (t:=4) (u:=5) (v1:=S l) (v2:=.bool false) Z qr Z Z Z
def FO {d:Nat}{r:Int×Int}(hS:Sc sO)(hp:pl<81)(hr:Pn sO pl N d=some r)(ht:Tb w):
 CL 120 #[.agg #[.int .i64 pl,S (nS sO)],.agg #[S (ae N),S (nS d)]] w (aC w λv w'=>v=.agg #[S (ae r.1),S (ae r.2)]):=by
 obtain⟨h,Ao,rfl⟩:=R0 hr;have hb:=Vk hS Ao;have ho:=Vl (n:=1) (d:=2) hS dc dc;by_cases hN:N<0;rw[if_pos hN];refine aE func120 Z (I ?_);refine bx (λ_ EP W=>?_);have qr:=EP.2;refine bx (λE7 E1 A2=>?_);have⟨W,qr⟩:=bD E1.2 W qr;refine al cO (λ_ F7 Ad=>?_);have⟨W,A2,qr⟩:=bC F7.2 W A2 qr;refine I ?_;refine clb BK (hc:=uL (n:=1) (d:=2) yh uF hS WH (ek (k:=1) dc dc) dc ka4 (ht.ext qr)) (hk:=?_);rintro _ _ Ay rfl;have⟨W,A2,Ad,qr⟩:=bW Ay.2 W A2 Ad qr;refine al cO (λ_ E9 Ax=>?_);have⟨W,A2,Ad,qr⟩:=bW E9.2 W A2 Ad qr;refine SA Ax (λ_ F5 Am=>?_);have⟨W,A2,Ad,qr,_⟩:=l7 F5 W A2 Ad qr;refine I ?_;refine cl Hk (fM (Y:=.tuple #[S (nS N.natAbs),.bool true]) (Np (Vi hN)) (qb1 (λl=>Value.tuple #[S l,.bool true]) (RZ _))) ?_;rintro _ _ Ek rfl;have⟨W,A2,Ad,Am,qr⟩:=eE Ek.2 W A2 Ad Am qr;refine I ?_;refine bY 8 ?_;refine sf ?_;refine aF (V:=.agg #[S (nS h.1),S (nS h.2)]) (λ_ _ F1 _=>?_) ?_;refine cl Ht (nQ hS hp Ao (ht.ext (xt qr F1))) ?_;rintro _ _ Jx rfl;have F3:=Jx.2;refine I ?_;exact fs ⟨F3,rfl⟩;refine sf ?_;intro _ _ Ix _;have⟨W,A2,Ad,Am,qr⟩:=eE Ix.2 W A2 Ad Am qr;refine clb Qj (hc:=Cw (ho.mono dc) (hb.mono dc) (ht.ext qr)) (hk:=?_);rintro _ _ E0 rfl;have⟨W,A2,Ad,Am,qr⟩:=eE E0.2 W A2 Ad Am qr
 refine SA Ad (λ_ Aq Av=>?_);have⟨W,A2,Am⟩:=kt Aq W A2 Am;have qr:=bB Aq qr;refine I ?_;refine aI (v:=.agg #[S (ae ((Ct (bV sO 1 2) h).1)),S (ae ((Ct (bV sO 1 2) h).2))]) (cF  rfl ?_) qr Z;refine ag (t:=4) (cs:=[S (ae ((Ct (bV sO 1 2) h).1)),S (ae ((Ct (bV sO 1 2) h).2))]) (b:=E7.heap.size) (o:=0) jr Z fZ ?_ ?_;exact Z;exact aa1 Av (i:=0) Z;rw[if_neg hN];refine aE func120 Z (I ?_);refine bx (λ_ F8 qn=>?_);have O:=F8.2;refine bx (λEW K2 A1=>?_);have⟨qn,O⟩:=bD K2.2 qn O;refine al cO (λ_ EE Ab=>?_);have⟨qn,A1,O⟩:=bC EE.2 qn A1 O;refine I ?_;refine clb BK (hc:=uL (n:=1) (d:=2) yh uF hS WH (ek (k:=1) dc dc) dc ka4 (ht.ext O)) (hk:=?_);rintro _ _ G3 rfl;have⟨qn,A1,Ab,O⟩:=bW G3.2 qn A1 Ab O;refine al cO (λ_ As F2=>?_);have⟨qn,A1,Ab,O⟩:=bW As.2 qn A1 Ab O;refine SA F2 (λ_ F6 Af=>?_);have⟨qn,A1,Ab,O,_⟩:=l7 F6 qn A1 Ab O;refine I ?_;refine cl Hk (Nq (Vj hN)) ?_;rintro _ _ G4 rfl;have⟨qn,A1,Ab,Af,O⟩:=eE G4.2 qn A1 Ab Af O;refine I ?_;refine bY 5 ?_;refine sf ?_;refine aF (V:=.agg #[S (nS h.1),S (nS h.2)]) (λ_ _ Ar _=>?_) ?_
 refine clb Ht (hc:=show CL 164 #[.agg #[.int .i64 pl,S (nS sO)],.agg #[S (ae N),S (nS d)]] _ _ by rw[I6 hN];exact nQ hS hp Ao (ht.ext (xt O Ar))) (hk:=?_);rintro _ _ ny rfl;have Aw:=ny.2;refine I ?_;exact fs ⟨Aw,rfl⟩;refine sf ?_;intro _ _ od _;have⟨qn,A1,Ab,Af,O⟩:=eE od.2 qn A1 Ab Af O;refine clb Hq (hc:=wE (by have:=hb.1;have:=ho.1;unfold Fi;omega) (by have:=hb.2;have:=ho.2;unfold Fi;omega) (ht.ext O)) (hk:=?_);rintro _ _ F4 rfl;have⟨qn,A1,Ab,Af,O⟩:=eE F4.2 qn A1 Ab Af O;refine SA Ab (λ_ Ap E4=>?_);have⟨qn,A1,Af⟩:=kt Ap qn A1 Af;have O:=bB Ap O;refine I ?_;refine aI (v:=.agg #[S (nS ((fE (bV sO 1 2) h).1)),S (nS ((fE (bV sO 1 2) h).2))]) (cF  rfl ?_) O Z;refine ag (t:=4) (cs:=[S (nS ((fE (bV sO 1 2) h).1)),S (nS ((fE (bV sO 1 2) h).2))]) (b:=EW.heap.size) (o:=0) jr Z fZ ?_ ?_;exact Z;exact aa1 E4 (i:=0) Z
def FP (x y:Int):aG x y=-aG y x:=by
 unfold aG;repeat' split
 all_goals first|rfl|omega
def uM {b:Int}(h1:a<b↔c<d)(h2:a=b↔c=d):aG a b=aG c d:=by
 unfold aG
 by_cases h:a<b
 · rw[if_pos h,if_pos (h1.1 h)]
 · rw[if_neg h,if_neg (λe=>h (h1.2 e))]
   by_cases h':a=b
   · rw[if_pos h',if_pos (h2.1 h')]
   · rw[if_neg h',if_neg (λe=>h' (h2.2 e))]
def I9 {b:Int}(h:a-b=c-d):aG a b=aG c d:=uM U U
def z6 (h1:0<d1)(h2:0<d2)(h:n1/d1<n2/d2):n1*d2<n2*d1:=by
 have qr:=Int.lt_ediv_add_one_mul_self n1 h1
 have O:=Int.ediv_mul_le n2 (show d2≠0 by omega)
 have A2:(n1/d1+1)*d1<=(n2/d2)*d1:=Int.mul_le_mul_of_nonneg_right U U
 have qn:n1*d2<(n2/d2)*d1*d2:=Int.mul_lt_mul_of_pos_right U h2
 have A1:(n2/d2)*d2*d1<=n2*d1:=Int.mul_le_mul_of_nonneg_right O U
 have W:(n2/d2)*d1*d2=(n2/d2)*d2*d1:=by rw[Int.mul_assoc,Int.mul_comm d1 d2,<-Int.mul_assoc]
 omega
def Vm (h1:0<d1)(h2:0<d2)(h:¬aG (n1/d1) (n2/d2)=0):aG (n1/d1) (n2/d2)=aG (n1*d2) (n2*d1):=by
 have O:n1/d1≠n2/d2:=λe=>h (fK e)
 rcases Int.lt_or_gt_of_ne O with hl|hl
 · rw[dE hl,dE (z6 h1 h2 hl)]
 · rw[dk hl,dk (z6 h2 h1 hl)]
def FQ (h:aG x y=0):x=y:=by
 unfold aG at h
 split at h
 · omega
 · split at h
   · assumption
   · omega
def Et (h:aG (n1/d1) (n2/d2)=0):aG (n1*d2) (n2*d1)=aG (n1%d1*d2) (n2%d2*d1):=by
 have e:=FQ h
 refine I9 ?_
 have a1:=Int.mul_ediv_add_emod n1 d1
 have a2:=Int.mul_ediv_add_emod n2 d2
 generalize n1/d1=p at *;generalize n2/d2=q at *;generalize n1%d1=r at *;generalize n2%d2=s at *
 subst e;subst a1;subst a2
 rw[Int.add_mul,Int.add_mul,show d1*p*d2=d2*p*d1 by rw[Int.mul_comm d1 p,Int.mul_comm d2 p,Int.mul_assoc,Int.mul_comm d1 d2,<-Int.mul_assoc]]
 omega
def Nr (h:sg=1\/sg=-1):In64 (sg*aG x y):=by
 have h1:aG x y<=1/\-1<=aG x y:=by unfold aG;split;omega;split <;>omega
 unfold In64;rcases h with rfl|rfl <;>omega
section
variable {N1 D1 N2 D2:Int}(hi:aG (N1*D2) (N2*D1)=sg*aG (n1*d2) (n2*d1))(h1:0<d1)(h2:0<d2)
include hi h1 h2
theorem Vn (h:¬aG (n1/d1) (n2/d2)=0):sg*aG (n1/d1) (n2/d2)=aG (N1*D2) (N2*D1):=by rw[hi,Vm h1 h2 h]
theorem Vo (h:aG (n1/d1) (n2/d2)=0)(hr:ae (n1%d1)=[48])(hs:ae (n2%d2)=[48]):0=aG (N1*D2) (N2*D1):=by
 rw[hi,Et h,cJ.1 hr,cJ.1 hs];simp[aG]
theorem Vp (h:aG (n1/d1) (n2/d2)=0)(hr:ae (n1%d1)=[48])(hs:¬ae (n2%d2)=[48]):-sg=aG (N1*D2) (N2*D1):=by
 have O:n2%d2≠0:=λe=>hs (cJ.2 e)
 have h3:=Int.emod_nonneg n2 (show d2≠0 by omega)
 rw[hi,Et h,cJ.1 hr,dE (by rw[Int.zero_mul];exact Int.mul_pos U h1)];omega
theorem Vq (h:aG (n1/d1) (n2/d2)=0)(hr:¬ae (n1%d1)=[48])(hs:ae (n2%d2)=[48]):sg=aG (N1*D2) (N2*D1):=by
 have O:n1%d1≠0:=λe=>hr (cJ.2 e)
 have h3:=Int.emod_nonneg n1 (show d1≠0 by omega)
 rw[hi,Et h,cJ.1 hs,dk (by rw[Int.zero_mul];exact Int.mul_pos U h2)];omega
theorem Ja (h:aG (n1/d1) (n2/d2)=0)(hr:¬ae (n1%d1)=[48])(hs:¬ae (n2%d2)=[48]):
 aG (N1*D2) (N2*D1)=-sg*aG (d1*(n2%d2)) (d2*(n1%d1))/\0<n1%d1/\0<n2%d2:=by
 have qr:n1%d1≠0:=λe=>hr (cJ.2 e)
 have h3:=Int.emod_nonneg n1 (show d1≠0 by omega)
 have h4:n2%d2≠0:=λe=>hs (cJ.2 e)
 have O:=Int.emod_nonneg n2 (show d2≠0 by omega)
 refine⟨?_,by omega,by omega⟩
 rw[hi,Et h,FP (d1*_),Int.mul_comm d1,Int.mul_comm d2,Int.neg_mul_neg]
end
def Jb {n:Int}(h:Fz d)(hd:0<d):Fz (n%d):=by
 have h1:=Int.emod_nonneg n (show d≠0 by omega)
 have h2:=Int.emod_lt_of_pos n hd
 unfold Fz at *;omega
set_option maxRecDepth 100000 in
theorem Jc {N1 D1 N2 D2:Int}(o1:cc (ae N1,ae D1)=true)(o2:cc (ae N2,ae D2)=true)(fN1:Fz N1)(fD1:Fz D1)(fN2:Fz N2)(fD2:Fz D2)(ht:Tb w):
 CL 77 #[.agg #[S (ae N1),S (ae D1)],.agg #[S (ae N2),S (ae D2)]] w (aC w λv w'=>v=.int .i64 (aG (N1*D2) (N2*D1))):=by
 have P1:0<D1:=by have:=pr o1;rwa [aO]at this
 have P2:0<D2:=by have:=pr o2;rwa [aO]at this
 refine aE func77 rfl ?_;refine I ?_;refine bx (λAv ft ny=>?_);have Ay:=ft.2;refine bx (λ_ fy E0=>?_);have⟨ny,Ay⟩:=bD fy.2 ny Ay;refine I ?_;refine cl qF (ep (ae N1) (ae D1) _ (ht.ext Ay)) ?_;rintro _ _ d5 rfl;have⟨ny,E0,Ay⟩:=bC d5.2 ny E0 Ay;refine I ?_;refine cl qF (ep (ae N2) (ae D2) _ (ht.ext Ay)) ?_;rintro _ _ gn rfl;have⟨ny,E0,Ay⟩:=bC gn.2 ny E0 Ay;refine I ?_;refine wpIn_label (jG ?_);refine UX [(4,12),(21,73)] (λga e W=>∃n1:Int,∃d1:Int,∃n2:Int,∃d2:Int,∃sg:Int,(d1.toNat=ga)/\(e 5=.int .i64 sg)/\(0<d1)/\(0<d2)/\(Fz n1)/\(Fz d1)/\(Fz n2)/\(Fz d2)/\(sg=1\/sg=-1)/\(aG (N1*D2) (N2*D1)=sg*aG (n1*d2) (n2*d1))/\(bF w W)/\(au W (w.heap.size) 25 #[S (ae n1),S (ae d1)])/\(au W (Av.heap.size) 25 #[S (ae n2),S (ae d2)])) ((D1).toNat) ⟨N1,D1,N2,D2,1,rfl,rfl,P1,P2,fN1,fD1,fN2,fD2,(Or.inl rfl),(Int.one_mul _).symm,Ay,ny,E0⟩ ?_;rintro _ _ _ ⟨n1,d1,n2,d2,sg,rfl,h7,p1,p2,EE,F2,EW,F8,g2,hi,O,hB1,hB2⟩;refine I ?_;refine cl Fp (fM (Y:=.tuple #[S (ae (n1/d1)),S (ae (n1%d1)),.int .i64 0]) (m9 _ _ _ (ht.ext O)) (qb1 nJ (kv EE F2 (Int.ne_of_gt p1) (eD EE p1)))) ?_;rintro _ _ a5 rfl;have⟨hB1,hB2,O⟩:=bC a5.2 hB1 hB2 O;refine I ?_
 refine cl Fp (fM (Y:=.tuple #[S (ae (n2/d2)),S (ae (n2%d2)),.int .i64 0]) (m9 _ _ _ (ht.ext O)) (qb1 nJ (kv EW F8 (Int.ne_of_gt p2) (eD EW p2)))) ?_;rintro _ _ ab rfl;have⟨hB1,hB2,O⟩:=bC ab.2 hB1 hB2 O;refine I ?_;refine cl zd (fM (Y:=.int .i64 (aG (n1/d1) (n2/d2))) (sX _ _ _) (qb1 (Value.int .i64) (yg (eD EE p1) (eD EW p2)))) ?_;rintro _ Zm bc rfl;have⟨hB1,hB2,O⟩:=bC bc.2 hB1 hB2 O;refine I ?_;by_cases ns:(aG (n1/d1) (n2/d2))=0;refine I ?_;by_cases np:(ae (n1%d1))=([48]);refine I ?_;refine qO (b:=[48]) ?_;refine I ?_;refine qO (b:=[48]) ?_;refine I ?_;by_cases wr:(ae (n2%d2))=([48]);refine I ?_;exact ax (t:=4) (v:=.int .i64 0) rfl O (qb1 (Value.int .i64) (Vo hi p1 p2 ns np wr)) rfl;refine I ?_;refine qO (b:=[48]) ?_;refine I ?_;refine ac (wb (a:=sg) rfl (by unfold In64;omega) ?_);refine I ?_;exact ax (t:=4) (v:=.int .i64 (-sg)) rfl O (qb1 (Value.int .i64) (Vp hi p1 p2 ns np wr)) rfl;refine I ?_;refine qO (b:=[48]) ?_;refine I ?_;refine qO (b:=[48]) ?_;refine I ?_;refine qO (b:=[48]) ?_;refine I ?_;by_cases p6:(ae (n2%d2))=([48]);refine I ?_;exact ax (t:=4) (v:=.int .i64 sg) rfl O (qb1 (Value.int .i64) (Vq hi p1 p2 ns np p6)) rfl;refine I ?_;have E4:=aa8 Zm
 refine uh g8 12 (λe0 ls e W=>(∀t,y9 [64,65,66,67,68,69,70,71,72,73] t=false->e t=e0 t)/\(bF w W)/\(Zm.heap.size<=W.heap.size)/\(ls 0=true->e 64=.pointer (some ⟨w.heap.size,1,none⟩))/\(ls 1=true->e 65=S (ae d1))/\(ls 2=true->e 66=S (ae (n1%d1)))/\(ls 3=true->e 67=.agg #[S (ae d1),S (ae (n1%d1))])/\(ls 4=true->e 68=.pointer (some ⟨Av.heap.size,1,none⟩))/\(ls 5=true->e 69=S (ae d2))/\(ls 6=true->e 70=S (ae (n2%d2)))/\(ls 7=true->e 71=.agg #[S (ae d2),S (ae (n2%d2))])/\(ls 8=true->e 72=.int .i64 sg)/\(ls 9=true->e 73=.int .i64 (-sg))/\(ls 10=false->au W (w.heap.size) 25 #[S (ae n1),S (ae d1)])/\(ls 10=true->au W (w.heap.size) 25 #[S (ae d1),S (ae (n1%d1))])/\(ls 11=false->au W (Av.heap.size) 25 #[S (ae n2),S (ae d2)])/\(ls 11=true->au W (Av.heap.size) 25 #[S (ae d2),S (ae (n2%d2))])) ⟨(λ_ _=>rfl),(xt O E4),(bz E4),(ff rfl),(ff rfl),(ff rfl),(ff rfl),(ff rfl),(ff rfl),(ff rfl),(ff rfl),(ff rfl),(ff rfl),(λ_=>(be E4 hB1)),(λh=>ff rfl h),(λ_=>(be E4 hB2)),(λh=>ff rfl h)⟩ (by kernel_rfl) (by kernel_rfl) ?_ ?_;refine⟨λat2 ZF F7 er F3 G3 _=>?_,?_⟩;obtain⟨ZQ,O,Ax,Ab,Ao,Ad,Aq,A1,Af,A2,Ap,qn,qr,Ar,As,Am,Aw⟩:=er;obtain⟨at2,rfl⟩:=aT ZQ;have hB:F7 1=false:=(js F3 (i:=0) (j:=1) rfl G3)
 have ZE:F7 10=false:=(js F3 (i:=0) (j:=10) rfl G3);have S1:F7 11=false:=(js F3 (i:=0) (j:=11) rfl G3);have a0:au ZF (w.heap.size) 25 #[S (ae n1),S (ae d1)]:=Ar ZE;have e7:au ZF (Av.heap.size) 25 #[S (ae n2),S (ae d2)]:=Am S1;refine I ?_;exact⟨rfl,_,(aw _ _ _ _ _).symm,(bv rfl ZQ),O,U,(λ_=>rfl),Ao,Ad,Aq,A1,Af,A2,Ap,qn,qr,(λ_=>a0),(λdn=>ff ZE dn),(λ_=>e7),(λg5=>ff S1 g5)⟩;refine⟨λT2 X2 F5 f4 ZA T4 cv=>?_,?_⟩;obtain⟨Z9,O,Ax,Ab,Ao,Ad,Aq,A1,Af,A2,Ap,qn,qr,Ar,As,Am,Aw⟩:=f4;obtain⟨T2,rfl⟩:=aT Z9;have cy:F5 0=true:=(cv 0 rfl);have Zk:F5 10=false:=(js ZA (i:=1) (j:=10) rfl T4);have Z5:F5 11=false:=(js ZA (i:=1) (j:=11) rfl T4);have h9:T2 64=.pointer (some ⟨w.heap.size,1,none⟩):=Ab cy;have cf:au X2 (w.heap.size) 25 #[S (ae n1),S (ae d1)]:=Ar Zk;have a4:au X2 (Av.heap.size) 25 #[S (ae n2),S (ae d2)]:=Am Z5;refine I ?_;exact⟨rfl,_,(aw _ _ _ _ _).symm,(bv rfl Z9),O,U,Ab,(λ_=>rfl),Ad,Aq,A1,Af,A2,Ap,qn,qr,(λ_=>cf),(λdq=>ff Zk dq),(λ_=>a4),(λZr=>ff Z5 Zr)⟩;refine⟨λZx W1 Z3 f5 Wb Z1 _=>?_,?_⟩;obtain⟨Ne,O,Ax,Ab,Ao,Ad,Aq,A1,Af,A2,Ap,qn,qr,Ar,As,Am,Aw⟩:=f5;obtain⟨Zx,rfl⟩:=aT Ne
 have ZW:Z3 10=false:=(js Wb (i:=2) (j:=10) rfl Z1);have ZY:Z3 11=false:=(js Wb (i:=2) (j:=11) rfl Z1);have f3:au W1 (w.heap.size) 25 #[S (ae n1),S (ae d1)]:=Ar ZW;have Zq:au W1 (Av.heap.size) 25 #[S (ae n2),S (ae d2)]:=Am ZY;refine I ?_;exact⟨rfl,_,(aw _ _ _ _ _).symm,(bv rfl Ne),O,U,Ab,Ao,(λ_=>rfl),Aq,A1,Af,A2,Ap,qn,qr,(λ_=>f3),(λf7=>ff ZW f7),(λ_=>Zq),(λbd=>ff ZY bd)⟩;refine⟨λE9 ZK E7 ad ZP ZX L2=>?_,?_⟩;obtain⟨No,O,Ax,Ab,Ao,Ad,Aq,A1,Af,A2,Ap,qn,qr,Ar,As,Am,Aw⟩:=ad;obtain⟨E9,rfl⟩:=aT No;have b6:E7 2=true:=(L2 2 rfl);have b7:E7 1=true:=(L2 1 rfl);have ZO:E7 10=false:=(js ZP (i:=3) (j:=10) rfl ZX);have ZM:E7 11=false:=(js ZP (i:=3) (j:=11) rfl ZX);have cb:E9 65=S (ae d1):=Ao b7;have fu:E9 66=S (ae (n1%d1)):=Ad b6;have eg:au ZK (w.heap.size) 25 #[S (ae n1),S (ae d1)]:=Ar ZO;have cm:au ZK (Av.heap.size) 25 #[S (ae n2),S (ae d2)]:=Am ZM;refine ac (aV (vs:=[(0,S (ae d1)),(1,S (ae (n1%d1)))]) (cells:=#[S (ae d1),S (ae (n1%d1))]) (pl:=[(0,1),(1,1)]) eB aQ (by kernel_rfl) (aK cb (aK fu rfl)) (by kernel_rfl) ?_);refine I ?_
 exact⟨rfl,_,(aw _ _ _ _ _).symm,(bv rfl No),O,U,Ab,Ao,Ad,(λ_=>rfl),A1,Af,A2,Ap,qn,qr,(λ_=>eg),(λfx=>ff ZO fx),(λ_=>cm),(λfm=>ff ZM fm)⟩;refine⟨λaL bn ZS Zv T3 ZZ _=>?_,?_⟩;obtain⟨Kp,O,Ax,Ab,Ao,Ad,Aq,A1,Af,A2,Ap,qn,qr,Ar,As,Am,Aw⟩:=Zv;obtain⟨aL,rfl⟩:=aT Kp;have arr:ZS 5=false:=(js T3 (i:=4) (j:=5) rfl ZZ);have ZD:ZS 11=false:=(js T3 (i:=4) (j:=11) rfl ZZ);have a9:au bn (Av.heap.size) 25 #[S (ae n2),S (ae d2)]:=Am ZD;refine I ?_;exact⟨rfl,_,(aw _ _ _ _ _).symm,(bv rfl Kp),O,U,Ab,Ao,Ad,Aq,(λ_=>rfl),Af,A2,Ap,qn,qr,(λgs=>Ar gs),(λe4=>As e4),(λ_=>a9),(λf9=>ff ZD f9)⟩;refine⟨λK2 cq ZV f6 fi fD bT=>?_,?_⟩;obtain⟨ZU,O,Ax,Ab,Ao,Ad,Aq,A1,Af,A2,Ap,qn,qr,Ar,As,Am,Aw⟩:=f6;obtain⟨K2,rfl⟩:=aT ZU;have Zu:ZV 4=true:=(bT 4 rfl);have W3:ZV 11=false:=(js fi (i:=5) (j:=11) rfl fD);have h0:K2 68=.pointer (some ⟨Av.heap.size,1,none⟩):=A1 Zu;have Zt:au cq (Av.heap.size) 25 #[S (ae n2),S (ae d2)]:=Am W3;refine I ?_;exact⟨rfl,_,(aw _ _ _ _ _).symm,(bv rfl ZU),O,U,Ab,Ao,Ad,Aq,A1,(λ_=>rfl),A2,Ap,qn,qr,(λfc=>Ar fc),(λbL=>As bL),(λ_=>Zt),(λd6=>ff W3 d6)⟩;refine⟨λa6 cd b9 en g1 Zs _=>?_,?_⟩
 obtain⟨ZT,O,Ax,Ab,Ao,Ad,Aq,A1,Af,A2,Ap,qn,qr,Ar,As,Am,Aw⟩:=en;obtain⟨a6,rfl⟩:=aT ZT;have ZJ:b9 11=false:=(js g1 (i:=6) (j:=11) rfl Zs);have g3:au cd (Av.heap.size) 25 #[S (ae n2),S (ae d2)]:=Am ZJ;refine I ?_;exact⟨rfl,_,(aw _ _ _ _ _).symm,(bv rfl ZT),O,U,Ab,Ao,Ad,Aq,A1,Af,(λ_=>rfl),Ap,qn,qr,(λZw=>Ar Zw),(λfN=>As fN),(λ_=>g3),(λcx=>ff ZJ cx)⟩;refine⟨λG4 an EP e3 bq gb R1=>?_,?_⟩;obtain⟨W0,O,Ax,Ab,Ao,Ad,Aq,A1,Af,A2,Ap,qn,qr,Ar,As,Am,Aw⟩:=e3;obtain⟨G4,rfl⟩:=aT W0;have c9:EP 6=true:=(R1 6 rfl);have g0:EP 5=true:=(R1 5 rfl);have Wa:EP 11=false:=(js bq (i:=7) (j:=11) rfl gb);have fl:G4 69=S (ae d2):=Af g0;have ca:G4 70=S (ae (n2%d2)):=A2 c9;have e5:au an (Av.heap.size) 25 #[S (ae n2),S (ae d2)]:=Am Wa;refine ac (aV (vs:=[(0,S (ae d2)),(1,S (ae (n2%d2)))]) (cells:=#[S (ae d2),S (ae (n2%d2))]) (pl:=[(0,1),(1,1)]) eB aQ (by kernel_rfl) (aK fl (aK ca rfl)) (by kernel_rfl) ?_);refine I ?_;exact⟨rfl,_,(aw _ _ _ _ _).symm,(bv rfl W0),O,U,Ab,Ao,Ad,Aq,A1,Af,A2,(λ_=>rfl),qn,qr,(λZo=>Ar Zo),(λZz=>As Zz),(λ_=>e5),(λf0=>ff Wa f0)⟩;refine⟨λZp _ _ bf _ _ _=>?_,?_⟩
 obtain⟨ZH,O,Ax,Ab,Ao,Ad,Aq,A1,Af,A2,Ap,qn,qr,Ar,As,Am,Aw⟩:=bf;obtain⟨Zp,rfl⟩:=aT ZH;refine I ?_;exact⟨rfl,_,(aw _ _ _ _ _).symm,(bv rfl ZH),O,U,Ab,Ao,Ad,Aq,A1,Af,A2,Ap,(λ_=>rfl),qr,(λbm=>Ar bm),(λZy=>As Zy),(λdd=>Am dd),(λaH=>Aw aH)⟩;refine⟨λZ7 _ e6 ct _ _ e1=>?_,?_⟩;obtain⟨ZG,O,Ax,Ab,Ao,Ad,Aq,A1,Af,A2,Ap,qn,qr,Ar,As,Am,Aw⟩:=ct;obtain⟨Z7,rfl⟩:=aT ZG;have d0:e6 8=true:=(e1 8 rfl);have bH:Z7 72=.int .i64 (sg):=qn d0;refine ac (wb (a:=sg) bH (by unfold In64;omega) ?_);refine I ?_;exact⟨rfl,_,(aw _ _ _ _ _).symm,(bv rfl ZG),O,U,Ab,Ao,Ad,Aq,A1,Af,A2,Ap,qn,(λ_=>rfl),(λfT=>Ar fT),(λZn=>As Zn),(λco=>Am co),(λet=>Aw et)⟩;refine⟨λZC ZN F4 a7 ZL Z2 d3=>?_,?_⟩;obtain⟨Jx,O,Ax,Ab,Ao,Ad,Aq,A1,Af,A2,Ap,qn,qr,Ar,As,Am,Aw⟩:=a7;obtain⟨ZC,rfl⟩:=aT Jx;have Z0:F4 3=true:=(d3 3 rfl);have hA:F4 1=true:=(ZL 3 1 rfl Z0);have Zl:F4 11=false:=(js ZL (i:=10) (j:=11) rfl Z2);have h5:ZC 67=.agg #[S (ae d1),S (ae (n1%d1))]:=Aq Z0;have g4:au ZN (w.heap.size) 25 #[S (ae n1),S (ae d1)]:=Ar Z2;have Ix:au ZN (Av.heap.size) 25 #[S (ae n2),S (ae d2)]:=Am Zl;refine SA g4 (λ_ cw em=>?_);have⟨Ix,O,_⟩:=ks cw Ix O;refine I ?_
 exact⟨rfl,undef,rfl,Jx,O,U,Ab,Ao,Ad,Aq,A1,Af,A2,Ap,qn,qr,(λf2=>tf rfl f2),(λ_=>em),(λ_=>Ix),(λcr=>ff Zl cr)⟩;refine⟨λZR W2 E1 cT od ch TT=>?_,?_⟩;obtain⟨Z6,O,Ax,Ab,Ao,Ad,Aq,A1,Af,A2,Ap,qn,qr,Ar,As,Am,Aw⟩:=cT;obtain⟨ZR,rfl⟩:=aT Z6;have F1:E1 10=true:=(TT 10 rfl);have d4:E1 3=true:=(od 10 3 rfl F1);have h6:E1 1=true:=(od 3 1 rfl d4);have Z8:E1 7=true:=(TT 7 rfl);have h8:E1 5=true:=(od 7 5 rfl Z8);have hC:ZR 71=.agg #[S (ae d2),S (ae (n2%d2))]:=Ap Z8;have Ek:au W2 (w.heap.size) 25 #[S (ae d1),S (ae (n1%d1))]:=As F1;have bp:au W2 (Av.heap.size) 25 #[S (ae n2),S (ae d2)]:=Am ch;refine SA bp (λ_ a3 gr=>?_);have⟨Ek,O,_⟩:=ks a3 Ek O;refine I ?_;exact⟨rfl,undef,rfl,Z6,O,U,Ab,Ao,Ad,Aq,A1,Af,A2,Ap,qn,qr,(λgp=>tf F1 gp),(λ_=>Ek),(λa8=>tf rfl a8),(λ_=>gr)⟩;exact trivial;intro ZB ZI _ F6 c8;obtain⟨e2,O,Ax,Ab,Ao,Ad,Aq,A1,Af,A2,Ap,qn,qr,Ar,As,Am,Aw⟩:=c8;obtain⟨ZB,rfl⟩:=aT e2;have aB:au ZI (w.heap.size) 25 #[S (ae d1),S (ae (n1%d1))]:=As (F6 10 rfl);have ed:au ZI (Av.heap.size) 25 #[S (ae d2),S (ae (n2%d2))]:=Aw (F6 11 rfl);have hD:ZB 73=.int .i64 (-sg):=(qr (F6 9 rfl));refine I ?_
 exact c6 (hk:=by have:=Int.emod_lt_of_pos n1 p1;have:=Int.emod_nonneg n1 (Int.ne_of_gt p1);omega) ⟨d1,n1%d1,d2,n2%d2,-sg,rfl,rfl,(Ja hi p1 p2 ns np p6).2.1,(Ja hi p1 p2 ns np p6).2.2,F2,(Jb F2 p1),F8,(Jb F8 p2),U,(Ja hi p1 p2 ns np p6).1,O,aB,ed⟩;refine I ?_;refine ac (l9 (a:=sg) (b:=aG (n1/d1) (n2/d2)) (c:=sg*aG (n1/d1) (n2/d2)) rfl rfl (Nr g2) rfl ?_);refine I ?_;exact ax (t:=4) (v:=.int .i64 (sg*aG (n1/d1) (n2/d2))) rfl O (qb1 (Value.int .i64) (Vn hi p1 p2 ns)) rfl
def Jd (n:Int):Lib.itoa n=ae n:=by
 unfold Lib.itoa ae
 split
 · rw[jl]
 · rw[jl];congr 1;omega
def qR (a b:Int):R:=(ae (cG a b),ae (bK a b))
def py {b:Int}(hb:b≠0):k7 a b=some (qR a b):=by unfold k7;rw[if_neg hb];rfl
section
variable {b:Nat}
def Ns (hB:au w b 120 #[.bool false])(ht:Tb w)(hl:l=ae x)(hm:m=ae y)(fx:Fz x)(fy:Fz y)(fz:Fz (x*y)):
 CL 136 #[pT b,S l,S m] w (fp λv w'=>w.grownBy w' (some b)/\au w' b 120 #[.bool false]/\v=S (ae (x*y))):=by
 have h:=mL hB ht l m
 subst hl hm
 rw[yf fx fy fz]at h
 exact h
def Nt (hB:au w b 120 #[.bool false])(ht:Tb w)(hl:l=ae x)(hm:m=ae y)(fx:Fz x)(fy:Fz y)(fz:Fz (x+y)):
 CL 145 #[pT b,.func (.func 95) #[] #[],S l,S m] w (fp λv w'=>w.grownBy w' (some b)/\au w' b 120 #[.bool false]/\v=S (ae (x+y))):=by
 have h:=rT (o:=ku l m) hB ht Hj (λW hW=>yc _ _ W hW)
 subst hl hm
 rw[ye fx fy fz]at h
 exact h
def s5 (hB:au w b 120 #[.bool false])(ht:Tb w)(hl:l=ae x)(hm:m=ae y)(fx:Fz x)(fy:Fz y)(h0:y≠0):
 CL 116 #[pT b,S l,S m] w (fp λv w'=>w.grownBy w' (some b)/\(∃q,au w' b 120 #[.bool q])/\v=.tuple #[.agg #[S (qR x y).1,S (qR x y).2],.int .i64 0]):=by
 have h:=yj hB ht l m
 subst hl hm
 rw[wC fx.int fy.int,aO,aO,py h0]at h
 exact h
def R2 (hB:au w b 120 #[.bool false])(ht:Tb w){x y:List UInt8}{c:Nat}(hr:Rw w lo A [S x,S y])(hn:1=n)(hAb:∀ad,A=some ad->ad.block≠b)(ho:cc (x,y)=true):
 CL 135 #[pT b,.slice A n c] w (fp λv w'=>w.grownBy w' (some b)/\au w' b 120 #[.bool false]/\v=.tuple #[]):=by
 have h:=pq (rs:=[(x,y)]) (c:=c) hB ht hr hn U hAb
 rw[show da false [(x,y)]=false by simp[da,ho]]at h
 exact h
end
def uN (N D t:Int)(up:Bool):Int:=if up=true/\¬ae (N*t%D)=[48]then N*t/D+1 else N*t/D
def Qv (a b:Int):Value:=.tuple #[.agg #[S (qR a b).1,S (qR a b).2],.int .i64 0]
def Xj {t:Int}{up:Bool}(h:up=true)(h0:¬ae (N*t%D)=[48]):Qv (N*t/D+1) t=Qv (uN N D t up) t:=by unfold uN;rw[if_pos ⟨h,h0⟩]
def Xk {t:Int}{up:Bool}(h0:ae (N*t%D)=[48]):Qv (N*t/D) t=Qv (uN N D t up) t:=by unfold uN;rw[if_neg (λe=>e.2 h0)]
def Xl {t:Int}{up:Bool}(h:up=false):Qv (N*t/D) t=Qv (uN N D t up) t:=by unfold uN;rw[if_neg (λe=>by rw[h]at e;exact absurd e.1 dc)]
def Je (h:N.natAbs<10^199)(hd:0<D):Fz (N/D+1):=by
 have h1:Fz (N/D):=eD ke4 hd
 have h2:(N/D).natAbs<10^199:=by
  rcases Int.le_total 0 N with h0|h0
  · have h1:=Int.ediv_nonneg h0 (Int.le_of_lt hd)
    have h2:=Int.ediv_le_self (b:=D) h0
    omega
  · have h1:N/D<=0:=Int.ediv_nonpos_of_nonpos_of_neg h0 hd
    have h2:N<=N/D:=by
     refine Int.le_ediv_of_mul_le hd ?_
     have O:0<=(-N)*(D-1):=Int.mul_nonneg U U
     rw[Int.neg_mul,Int.mul_sub,Int.mul_one]at O
     omega
    omega
 unfold Fz;omega
def gC {b:Int}(hl:l=ae a)(hm:m=ae b)(fa:Fz a)(fb:Fz b)(h0:b≠0)(ht:Tb w):
 CL 66 #[S l,S m] w (aC w λv w'=>v=.tuple #[.agg #[S (qR a b).1,S (qR a b).2],.int .i64 0]):=by
 subst hl hm;have ib:(!isInt (ae b))=false:=by rw[fb.int];rfl
 refine aE func66 Z (I ?_);refine al aQ (λ_ Ad qr=>?_);have ht:=aa7 Ad.2 ht;have O:=Ad.2;refine I ?_;refine cl tL (iG (ae a) _) ?_;rintro _ _ Af rfl;have ht:=aa7 Af.2 ht;have⟨qr,O⟩:=bD Af.2 qr O;refine I ?_;refine tE (s:=10) Z (qb1 Value.bool (qb1 Bool.not fa.int)) (I ?_);refine tE (s:=10) Z (qb1 Value.bool (qb1 Bool.not fa.int)) ?_;refine cl tL (iG (ae b) _) ?_;rintro _ A1 Am rfl;have ht:=aa7 Am.2 ht;have⟨qr,O⟩:=bD Am.2 qr O;refine tE (s:=10) Z (qb1 Value.bool (qb1 Bool.not fa.int)) (I ?_);refine ac (tA (t:=false) (v:=.bool (!(isInt (ae b)))) (qb1 Value.bool (qb1 Bool.not fa.int)) Z ?_);refine ac (aV (vs:=[(0,.bool (!(isInt (ae b))))]) (cells:=#[.bool (!(isInt (ae b)))]) (pl:=[(0,1)]) TZ BF GS Z GS ?_);refine bx (λAs A2 Ar=>?_);have ht:=aa7 A2.2 ht;have⟨qr,O⟩:=bD A2.2 qr O;refine I ?_;have Ao:au As A1.heap.size 120 #[.bool false]:=by have h:=Ar;rw[ib]at h;exact h
 refine I ?_;refine ac (bU (vs:=[pT A1.heap.size,S (ae a),S (ae b)]) tN Z (s5 Ao ht Z Z fa fb h0) ?_);rintro _ _ ⟨W,⟨Av,qn⟩,rfl⟩;have qr:=aa0 W Hx qr;have O:=cI O W (bz O) (λg Ap=>by cases Ap;omega);refine I ?_;refine SA qr (λ_ Ab Aq=>?_);have qn:=pb Ab qn;have O:=bB Ab O;refine I ?_;refine aI (v:=.tuple #[.agg #[S (qR a b).1,S (qR a b).2],.int .i64 0]) (cn (r1:=.cell 4 25) (r2:=.tmp 5) Z ?_ ?_) O Z;refine ag (t:=4) (cs:=[S (qR a b).1,S (qR a b).2]) (b:=w.heap.size) (o:=0) eB Z aM ?_ ?_;exact Z;exact aa1 Aq (i:=0) Z;exact aD (t:=5) Rd _
def z7 {n:Int}(hn:In64 n)(ht:Tb w):
 CL 67 #[.int .i64 n] w (aC w λv w'=>v=S (ae n)):=by
 have h1:-9223372036854775808<=n:=by unfold In64 at hn;omega
 have h2:n<=9223372036854775807:=by unfold In64 at hn;omega
 refine aE func67 Z (I ?_);refine cl Hg (fM (Y:=S (ae n)) (xU _ _ h1 h2 (ht.ext (aa2 _))) (qb1 S (Jd n))) ?_;rintro _ _ O rfl;have qr:=O.2;refine I ?_;exact ax (t:=2) (v:=S (ae n)) Z qr Z Z
def Vr {n:Int}(h:In64 n):Fz n:=by unfold In64 at h;unfold Fz;omega
def yo {b:Int}(ha:In64 a)(hb:In64 b)(h0:b≠0)(ht:Tb w):
 CL 28 #[.int .i64 a,.int .i64 b] w (aC w λv w'=>v=.tuple #[.agg #[S (qR a b).1,S (qR a b).2],.int .i64 0]):=by
 refine aE func28 Z (I ?_);refine al aQ (λ_ A2 qr=>?_);have O:=A2.2;refine I ?_;refine cl tP (z7 ha (ht.ext O)) ?_;rintro _ _ W rfl;have⟨qr,O⟩:=bD W.2 qr O;refine I ?_;refine cl tP (z7 hb (ht.ext O)) ?_;rintro _ _ A1 rfl;have⟨qr,O⟩:=bD A1.2 qr O;refine cl lA (gC Z Z (Vr ha) (Vr hb) h0 (ht.ext O)) ?_;rintro _ _ Ab rfl;have⟨qr,O⟩:=bD Ab.2 qr O;refine I ?_;refine SA qr (λ_ qn Ad=>?_);have O:=bB qn O;refine I ?_;refine aI (v:=.tuple #[.agg #[S (qR a b).1,S (qR a b).2],.int .i64 0]) (cn (r1:=.cell 4 25) (r2:=.tmp 5) Z ?_ ?_) O Z;refine ag (t:=4) (cs:=[S (qR a b).1,S (qR a b).2]) (b:=w.heap.size) (o:=0) eB Z aM ?_ ?_;exact Z;exact aa1 Ad (i:=0) Z;exact aD (t:=5) Rd _
def wF {up:Bool}(ho:cc (ae N,ae D)=true)(fN:Fz N)(fD:Fz D)(hp:pl<=30)(hNT:(N*((10^pl:Nat):Int)).natAbs<10^199)(ht:Tb w):
 CL 124 #[.agg #[S (ae N),S (ae D)],.int .i64 pl,.bool up] w (aC w λv w'=>v=Qv (uN N D ((10^pl:Nat):Int) up) ((10^pl:Nat):Int)):=by
 have As:((10^pl:Nat):Int)≠0:=by have:=Nat.pow_pos (n:=pl) (show 0<10 by decide);omega
 have pD:0<D:=by have:=pr ho;rwa [aO]at this
 have fNT:Fz (N*((10^pl:Nat):Int)):=ke4;have Ao:pl<200:=U;have fT:Fi (10^pl):=Nat.pow_lt_pow_right dc U;refine aE func124 Z (I ?_);refine bx (λAv Ek qr=>?_);have ht:=aa7 Ek.2 ht;have O:=Ek.2;refine al aQ (λA1 E0 W=>?_);have ht:=aa7 E0.2 ht;have⟨qr,O⟩:=bD E0.2 qr O;refine I ?_;refine ac (aV (vs:=[(0,.bool (decide (30<(pl:Int))))]) (cells:=#[.bool (decide (30<(pl:Int)))]) (pl:=[(0,1)]) TZ BF GS Z GS ?_);refine bx (λE1 E4 F3=>?_);have ht:=aa7 E4.2 ht;have⟨qr,W,O⟩:=bC E4.2 qr W O;refine I ?_;have Ab:au E1 A1.heap.size 120 #[.bool false]:=by have h:=F3;rw[decide_eq_false U]at h;exact h
 refine I ?_;refine BS (λ_ Ay _ F7=>?_);have ht:=aa7 Ay ht;have⟨qr,W,Ab,O⟩:=bW Ay qr W Ab O;refine ac (bU (vs:=[pT A1.heap.size,.slice (some ⟨E1.heap.size,0,none⟩) 1 1]) DG Z (R2 Ab ht (aa4 F7) Z (λ_ e=>by cases e;simp;omega) ho) ?_);rintro _ _ ⟨Am,Ad,rfl⟩;have ht:=Tb.gr Am Ab dc ht;have qr:=aa0 Am Hx qr;have W:=aa0 Am Hx W;have O:=cI O Am (bz O) (λg qn=>by cases qn;omega);refine I ?_;refine clb Hh (hc:=qW [48] pl _ U dc) (hk:=?_);rintro _ _ EW rfl;have ht:=aa7 EW.2 ht;have⟨qr,W,Ad,O⟩:=bW EW.2 qr W Ad O;refine ac (km (a:=[49]) (b:=Lib.repeatL [48] pl) Z Z (by rw[rf];simp;omega) ?_);refine I ?_;refine ac (bU (vs:=[pT A1.heap.size,S (ae N),S (([49])++(Lib.repeatL [48] pl))]) rL Z (Ns Ad ht Z (pu Ao) fN fT.z fNT) ?_);rintro _ _ ⟨Aq,Ap,rfl⟩;have ht:=Tb.gr Aq Ad dc ht;have qr:=aa0 Aq Hx qr;have W:=aa0 Aq Hx W;have O:=cI O Aq (bz O) (λg qn=>by cases qn;omega);refine I ?_;refine cl Fp (fM (Y:=.tuple #[S (ae (N*((10^pl:Nat):Int)/D)),S (ae (N*((10^pl:Nat):Int)%D)),.int .i64 0]) (m9 _ _ _ ht) (qb1 nJ (kv fNT fD (Int.ne_of_gt pD) (eD fNT pD)))) ?_;rintro _ _ E9 rfl;have ht:=aa7 E9.2 ht;have⟨qr,W,Ap,O⟩:=bW E9.2 qr W Ap O;refine I ?_
 refine SO Ap (λ_ Ax Af=>?_);have ht:=Tb.put Ax Ap dc ht;have⟨qr,W⟩:=eR Ax qr W;have O:=bB Ax O;refine I ?_;rcases qa4 up with cw|cw;refine I ?_;refine Um (b:=[48]) (I ?_);by_cases wr:(ae (N*((10^pl:Nat):Int)%D))=([48]);refine I ?_;refine ac (bU (vs:=[pT A1.heap.size,S (ae (N*((10^pl:Nat):Int)/D)),S (([49])++(Lib.repeatL [48] pl))]) tN Z (s5 Af ht Z (pu Ao) (eD fNT pD) fT.z As) ?_);rintro _ _ ⟨Aw,⟨G4,EE⟩,rfl⟩;have qr:=aa0 Aw Hx qr;have W:=aa0 Aw Hx W;have O:=cI O Aw (bz O) (λg qn=>by cases qn;omega);refine I ?_;refine SA W (λ_ F1 F8=>?_);have⟨qr,EE⟩:=eR F1 qr EE;have O:=bB F1 O;refine I ?_;refine aI (v:=.tuple #[.agg #[S ((qR (N*((10^pl:Nat):Int)/D) ((10^pl:Nat):Int)).1),S ((qR (N*((10^pl:Nat):Int)/D) ((10^pl:Nat):Int)).2)],.int .i64 0]) (cn (r1:=.cell 6 25) (r2:=.tmp 7) Z ?_ ?_) O (Xk wr);refine ag (t:=6) (cs:=[S ((qR (N*((10^pl:Nat):Int)/D) ((10^pl:Nat):Int)).1),S ((qR (N*((10^pl:Nat):Int)/D) ((10^pl:Nat):Int)).2)]) (b:=Av.heap.size) (o:=0) eB Z aM ?_ ?_
 exact Z;exact aa1 F8 (i:=0) Z;exact aD (t:=7) Rd _;refine I ?_;refine ac (bU (vs:=[pT A1.heap.size,.func (.func 95) #[] #[],S (ae (N*((10^pl:Nat):Int)/D)),S [49]]) rM Z (Nt Af ht Z yh (eD fNT pD) (by unfold Fz;decide) (Je hNT pD)) ?_);rintro _ _ ⟨A2,F5,rfl⟩;have ht:=Tb.gr A2 Af dc ht;have qr:=aa0 A2 Hx qr;have W:=aa0 A2 Hx W;have O:=cI O A2 (bz O) (λg qn=>by cases qn;omega);refine I ?_;refine ac (bU (vs:=[pT A1.heap.size,S (ae (N*((10^pl:Nat):Int)/D+1)),S (([49])++(Lib.repeatL [48] pl))]) tN Z (s5 F5 ht Z (pu Ao) (Je hNT pD) fT.z As) ?_);rintro _ _ ⟨ny,⟨G3,E7⟩,rfl⟩;have qr:=aa0 ny Hx qr;have W:=aa0 ny Hx W;have O:=cI O ny (bz O) (λg qn=>by cases qn;omega);refine I ?_;refine SA W (λ_ od F4=>?_);have⟨qr,E7⟩:=eR od qr E7;have O:=bB od O;refine I ?_;refine aI (v:=.tuple #[.agg #[S ((qR (N*((10^pl:Nat):Int)/D+1) ((10^pl:Nat):Int)).1),S ((qR (N*((10^pl:Nat):Int)/D+1) ((10^pl:Nat):Int)).2)],.int .i64 0]) (cn (r1:=.cell 6 25) (r2:=.tmp 7) Z ?_ ?_) O (Xj cw wr)
 refine ag (t:=6) (cs:=[S ((qR (N*((10^pl:Nat):Int)/D+1) ((10^pl:Nat):Int)).1),S ((qR (N*((10^pl:Nat):Int)/D+1) ((10^pl:Nat):Int)).2)]) (b:=Av.heap.size) (o:=0) eB Z aM ?_ ?_;exact Z;exact aa1 F4 (i:=0) Z;exact aD (t:=7) Rd _;refine I ?_;refine ac (bU (vs:=[pT A1.heap.size,S (ae (N*((10^pl:Nat):Int)/D)),S (([49])++(Lib.repeatL [48] pl))]) tN Z (s5 Af ht Z (pu Ao) (eD fNT pD) fT.z As) ?_);rintro _ _ ⟨Ar,⟨Ix,F2⟩,rfl⟩;have qr:=aa0 Ar Hx qr;have W:=aa0 Ar Hx W;have O:=cI O Ar (bz O) (λg qn=>by cases qn;omega);refine I ?_;refine SA W (λ_ EP F6=>?_);have⟨qr,F2⟩:=eR EP qr F2;have O:=bB EP O;refine I ?_;refine aI (v:=.tuple #[.agg #[S ((qR (N*((10^pl:Nat):Int)/D) ((10^pl:Nat):Int)).1),S ((qR (N*((10^pl:Nat):Int)/D) ((10^pl:Nat):Int)).2)],.int .i64 0]) (cn (r1:=.cell 6 25) (r2:=.tmp 7) Z ?_ ?_) O (Xl cw);refine ag (t:=6) (cs:=[S ((qR (N*((10^pl:Nat):Int)/D) ((10^pl:Nat):Int)).1),S ((qR (N*((10^pl:Nat):Int)/D) ((10^pl:Nat):Int)).2)]) (b:=Av.heap.size) (o:=0) eB Z aM ?_ ?_;exact Z;exact aa1 F6 (i:=0) Z;exact aD (t:=7) Rd _
def Jf (ho:cc (ae N,ae D)=true)(fN:Fz N)(fD:Fz D)(hp:pl<=30)(hNT:(N*((10^pl:Nat):Int)).natAbs<10^199)(ht:Tb w):
 CL 71 #[.agg #[S (ae N),S (ae D)],.int .i64 pl] w (aC w λv w'=>v=.tuple #[.agg #[S ((qR (uN N D ((10^pl:Nat):Int) false) ((10^pl:Nat):Int)).1),S ((qR (uN N D ((10^pl:Nat):Int) false) ((10^pl:Nat):Int)).2)],.int .i64 0]):=by
 refine aE func71 Z (I ?_);refine bx (λA2 Af qr=>?_);have O:=Af.2;refine al aQ (λ_ Ad W=>?_);have⟨qr,O⟩:=bD Ad.2 qr O;refine I ?_;refine cl Hw (wF ho fN fD hp hNT (ht.ext O)) ?_;rintro _ _ Ab rfl;have⟨qr,W,O⟩:=bC Ab.2 qr W O;refine I ?_;refine SA W (λ_ qn A1=>?_);have qr:=pb qn qr;have O:=bB qn O;refine I ?_;refine aI (v:=.tuple #[.agg #[S ((qR (uN N D ((10^pl:Nat):Int) false) ((10^pl:Nat):Int)).1),S ((qR (uN N D ((10^pl:Nat):Int) false) ((10^pl:Nat):Int)).2)],.int .i64 0]) (cn (r1:=.cell 4 25) (r2:=.tmp 5) Z ?_ ?_) O Z;refine ag (t:=4) (cs:=[S ((qR (uN N D ((10^pl:Nat):Int) false) ((10^pl:Nat):Int)).1),S ((qR (uN N D ((10^pl:Nat):Int) false) ((10^pl:Nat):Int)).2)]) (b:=A2.heap.size) (o:=0) eB Z aM ?_ ?_;exact Z;exact aa1 A1 (i:=0) Z;exact aD (t:=5) Rd _
def R3 (ho:cc (ae N,ae D)=true)(fN:Fz N)(fD:Fz D)(hp:pl<=30)(hNT:(N*((10^pl:Nat):Int)).natAbs<10^199)(ht:Tb w):
 CL 72 #[.agg #[S (ae N),S (ae D)],.int .i64 pl] w (aC w λv w'=>v=.tuple #[.agg #[S ((qR (uN N D ((10^pl:Nat):Int) true) ((10^pl:Nat):Int)).1),S ((qR (uN N D ((10^pl:Nat):Int) true) ((10^pl:Nat):Int)).2)],.int .i64 0]):=by
 refine aE func72 Z (I ?_);refine bx (λA2 Af qr=>?_);have O:=Af.2;refine al aQ (λ_ Ad W=>?_);have⟨qr,O⟩:=bD Ad.2 qr O;refine I ?_;refine cl Hw (wF ho fN fD hp hNT (ht.ext O)) ?_;rintro _ _ Ab rfl;have⟨qr,W,O⟩:=bC Ab.2 qr W O;refine I ?_;refine SA W (λ_ qn A1=>?_);have qr:=pb qn qr;have O:=bB qn O;refine I ?_;refine aI (v:=.tuple #[.agg #[S ((qR (uN N D ((10^pl:Nat):Int) true) ((10^pl:Nat):Int)).1),S ((qR (uN N D ((10^pl:Nat):Int) true) ((10^pl:Nat):Int)).2)],.int .i64 0]) (cn (r1:=.cell 4 25) (r2:=.tmp 5) Z ?_ ?_) O Z;refine ag (t:=4) (cs:=[S ((qR (uN N D ((10^pl:Nat):Int) true) ((10^pl:Nat):Int)).1),S ((qR (uN N D ((10^pl:Nat):Int) true) ((10^pl:Nat):Int)).2)]) (b:=A2.heap.size) (o:=0) eB Z aM ?_ ?_;exact Z;exact aa1 A1 (i:=0) Z;exact aD (t:=5) Rd _
end
section
section
variable {n:Int}
def jx (hd:0<d):0<((Int.gcd n d:Nat):Int):=by have:=Int.gcd_pos_of_ne_zero_right n (show d≠0 by omega);omega
def vT (hd:0<d):cG n d*((Int.gcd n d:Nat):Int)=n:=by
 unfold cG;rw[if_neg U];exact Int.ediv_mul_cancel (Int.gcd_dvd_left ..)
def yp (hd:0<d):bK n d*((Int.gcd n d:Nat):Int)=d:=by
 unfold bK;rw[if_neg U];exact Int.ediv_mul_cancel (Int.gcd_dvd_right ..)
def ez (hd:0<d):cG n d*d=n*bK n d:=by
 have h1:=vT (n:=n) hd
 have h2:=yp (n:=n) hd
 generalize cG n d=a at *
 generalize bK n d=b at *
 generalize ((Int.gcd n d:Nat):Int)=g at *
 rw[<-h1,<-h2,Int.mul_comm b g,Int.mul_assoc]
def eY (hd:0<d):0<bK n d:=by
 have h2:=yp (n:=n) hd
 have O:=jx (n:=n) hd
 rcases Int.lt_or_le 0 (bK n d)with h|h
 · exact h
 · have:=Int.mul_nonpos_of_nonpos_of_nonneg h (Int.le_of_lt O);omega
def Eu (hd:0<d):bK n d<=d:=by
 have h2:=yp (n:=n) hd
 have qr:=jx (n:=n) hd
 have O:=eY (n:=n) hd
 have:=Int.mul_le_mul_of_nonneg_left (show(1:Int)<=((Int.gcd n d:Nat):Int)by omega) (Int.le_of_lt O)
 omega
def rh (hd:0<d):(cG n d).natAbs<=n.natAbs:=by
 have h2:=qb1 Int.natAbs (vT (n:=n) hd)
 have O:=jx (n:=n) hd
 rw[Int.natAbs_mul,Int.natAbs_natCast]at h2
 exact qa8 (Nat.le_mul_of_pos_right _ U) (Nat.le_of_eq h2)
def uO (hd:0<d):Int.gcd (cG n d) (bK n d)=1:=by
 have O:=jx (n:=n) hd
 have e:=Int.gcd_mul_right (cG n d) ((Int.gcd n d:Nat):Int) (bK n d)
 rw[vT hd,yp hd,Int.natAbs_natCast]at e
 exact Nat.eq_of_mul_eq_mul_right (show 0<Int.gcd n d by omega) U
def Vs {b:Int}(ha:Fz a)(hb:Fz b)(h0:0<b)(hg:Int.gcd a b=1):cc (ae a,ae b)=true:=by
 have e:cQ (ae a) (ae b)=some [49]:=by
  unfold cQ;rw[if_pos ka7,aO,aO,hg]
  decide +kernel
 unfold cc
 simp only[ha.int,hb.int,e]
 rw[jC hb.int,aO,decide_eq_false (by rw[bS];omega)]
 rfl
def nR (hd:0<d)(h:Fz n):Fz (cG n d):=Nat.lt_of_le_of_lt (rh hd) h
def nT (hd:0<d)(h:Fz d):Fz (bK n d):=by have:=eY (n:=n) hd;have:=Eu (n:=n) hd;unfold Fz at *;omega
def Jg (hd:0<d)(fn:Fz n)(fd:Fz d):cc (qR n d)=true:=Vs (nR hd fn) (nT hd fd) (eY hd) (uO hd)
end
def R4 {n:Int}(hd:0<d)(hg:Int.gcd n d=1):qR n d=(ae n,ae d):=by
 unfold qR cG bK;rw[hg,if_neg U,if_neg U];simp
def z8 {b:Int}(h:a∣b*c)(hg:Int.gcd a c=1):a∣b:=by
 have h1:a.natAbs∣b.natAbs*c.natAbs:=by rw[<-Int.natAbs_mul];exact Int.natAbs_dvd_natAbs.2 h
 exact Int.natAbs_dvd_natAbs.1 (Nat.Coprime.dvd_of_dvd_mul_right (show Nat.Coprime a.natAbs c.natAbs from hg) h1)
def Aa {b:Int}(hb:0<b)(hd:0<d)(h1:Int.gcd a b=1)(h2:Int.gcd c d=1)(h:a*d=c*b):a=c/\b=d:=by
 have O:b∣d:=by
  have:b∣d*a:=⟨c,by rw[Int.mul_comm d a,h,Int.mul_comm]⟩
  exact z8 this (by rw[Int.gcd_comm];exact h1)
 have qr:d∣b:=by
  have:d∣b*c:=⟨a,by rw[Int.mul_comm b c,<-h,Int.mul_comm]⟩
  exact z8 this (by rw[Int.gcd_comm];exact h2)
 have e:=Int.dvd_antisymm U U O qr
 subst e
 exact⟨Int.eq_of_mul_eq_mul_right U h,rfl⟩
def wG {b:Int}(hb:0<b)(hd:0<d)(h:a*d=c*b):cG a b=cG c d/\bK a b=bK c d:=by
 have h1:=ez (n:=a) hb
 have h2:=ez (n:=c) hd
 refine Aa (eY hb) (eY hd) (uO hb) (uO hd) ?_
 have e:cG a b*bK c d*(b*d)=cG c d*bK a b*(b*d):=by
  calc cG a b*bK c d*(b*d)=(cG a b*b)*(bK c d*d):=by grind
   _=(a*bK a b)*(bK c d*d):=by rw[h1]
   _=(a*d)*(bK a b*bK c d):=by grind
   _=(c*b)*(bK a b*bK c d):=by rw[h]
   _=(c*bK c d)*(bK a b*b):=by grind
   _=(cG c d*d)*(bK a b*b):=by rw[h2]
   _=cG c d*bK a b*(b*d):=by grind
 exact Int.eq_of_mul_eq_mul_right (Int.ne_of_gt (Int.mul_pos hb hd)) e
def aU {b:Int}(hb:0<b)(hd:0<d)(h:a*d=c*b):qR a b=qR c d:=by
 obtain⟨h1,h2⟩:=wG hb hd h
 unfold qR;rw[h1,h2]
def Jh {b:Int}(hb:0<b)(hd:0<d)(h:qR a b=qR c d):a*d=c*b:=by
 unfold qR at h
 have O:=qU (qb1 Prod.fst h)
 have qr:=qU (qb1 Prod.snd h)
 have h1:=vT (n:=a) hb
 have h2:=yp (n:=a) hb
 have h3:=vT (n:=c) hd
 have h4:=yp (n:=c) hd
 rw[<-O]at h3
 rw[<-qr]at h4
 generalize cG a b=p at *
 generalize bK a b=q at *
 rw[<-h1,<-h2,<-h3,<-h4];grind
def Ac {k:Int}(hk:0<k):aG (x*k) (y*k)=aG x y:=uM ⟨λh=>Int.lt_of_mul_lt_mul_right h (Int.le_of_lt hk),λh=>Int.mul_lt_mul_of_pos_right h hk⟩ ⟨λh=>Int.eq_of_mul_eq_mul_right U h,λh=>by rw[h]⟩
def Ev {b:Int}(hb:0<b)(hd:0<d):aG (cG a b*bK c d) (cG c d*bK a b)=aG (a*d) (c*b):=by
 rw[<-Ac (Int.mul_pos (jx (n:=a) hb) (jx (n:=c) hd))]
 have h1:=vT (n:=a) hb
 have h2:=yp (n:=a) hb
 have h3:=vT (n:=c) hd
 have h4:=yp (n:=c) hd
 generalize cG a b=p at *
 generalize bK a b=q at *
 generalize cG c d=r at *
 generalize bK c d=s at *
 generalize ((Int.gcd a b:Nat):Int)=g at *
 generalize ((Int.gcd c d:Nat):Int)=k at *
 rw[<-h1,<-h2,<-h3,<-h4,show p*s*(g*k)=p*g*(s*k)by grind,show r*q*(g*k)=r*k*(q*g)by grind]
def Ji {b:Int}(hb:0<b)(hd:0<d)(fa:Fz a)(fb:Fz b)(fc:Fz c)(fd:Fz d)(ht:Tb w):
 CL 77 #[.agg #[S (qR a b).1,S (qR a b).2],.agg #[S (qR c d).1,S (qR c d).2]] w (aC w λv _=>v=.int .i64 (aG (a*d) (c*b))):=
 fM (Jc (Jg hb fa fb) (Jg hd fc fd) (nR hb fa) (nT hb fb) (nR hd fc) (nT hd fd) ht) (qb1 (Value.int .i64) (Ev hb hd))
def gI {b:Int}:aA (qR a b).1=cG a b/\aA (qR a b).2=bK a b:=⟨aO _,aO _⟩
def Q9 (a b:Int):Prop:=a.natAbs<10^90/\0<b/\b<10^90
def Q9.fz {b:Int}(h:Q9 a b):Fz a/\Fz b:=by obtain⟨_,_,_⟩:=h;unfold Fz;omega
def Q9.red {b:Int}(h:Q9 a b):Q9 (cG a b) (bK a b):=⟨Nat.lt_of_le_of_lt (rh h.2.1) h.1,eY h.2.1,by have:=Eu (n:=a) h.2.1;have:=h.2.2;omega⟩
def Q9.ok {b:Int}(h:Q9 a b):cc (qR a b)=true:=Jg h.2.1 h.fz.1 h.fz.2
def iQ {b:Int}(ha:a.natAbs<10^90)(hb:b.natAbs<10^90):(a*b).natAbs<10^180:=by rw[Int.natAbs_mul];exact eK ha hb
def kG (h:a.natAbs<10^180):Fz a:=by unfold Fz;omega
def yq {n e:Int}(fn:Fz n)(fd:Fz d)(h:k7 n d=some (qR c e)):iz n d=some (qR c e):=by
 unfold iz;rw[fn.fits,fd.fits];exact h
def Jj {b:Int}(h1:Q9 a b)(h2:Q9 c d):q8 (qR a b) (qR c d)=some (qR (a*d+c*b) (b*d)):=by
 unfold q8
 rw[h1.ok,h2.ok,gI.1,gI.2,gI.1,gI.2]
 have r1:=h1.red
 have r2:=h2.red
 have qr:=iQ r1.1 (b:=bK c d) kb9
 have qn:=iQ r2.1 (b:=bK a b) kc0
 have O:=iQ (a:=bK a b) (b:=bK c d) kc0 kb9
 rw[(kG qr).fits,(kG qn).fits]
 have W:=Int.mul_pos r1.2.1 r2.2.1
 simp only[Bool.and_self,if_true]
 refine yq ke4 (kG O) ?_
 rw[py U]
 congr 1
 refine aU W (Int.mul_pos h1.2.1 h2.2.1) ?_
 have A1:=ez (n:=a) h1.2.1
 have A2:=ez (n:=c) h2.2.1
 generalize cG a b=p at *
 generalize bK a b=q at *
 generalize cG c d=r at *
 generalize bK c d=s at *
 grind
def Jk {b:Int}(h1:Q9 a b)(h2:Q9 c d):re (qR a b) (qR c d)=some (qR (a*d-c*b) (b*d)):=by
 unfold re
 rw[h1.ok,h2.ok,gI.1,gI.2,gI.1,gI.2]
 have r1:=h1.red
 have r2:=h2.red
 have qr:=iQ r1.1 (b:=bK c d) kb9
 have qn:=iQ r2.1 (b:=bK a b) kc0
 have O:=iQ (a:=bK a b) (b:=bK c d) kc0 kb9
 rw[(kG qr).fits,(kG qn).fits]
 have W:=Int.mul_pos r1.2.1 r2.2.1
 simp only[Bool.and_self,if_true]
 refine yq ke4 (kG O) ?_
 rw[py U]
 congr 1
 refine aU W (Int.mul_pos h1.2.1 h2.2.1) ?_
 have A1:=ez (n:=a) h1.2.1
 have A2:=ez (n:=c) h2.2.1
 generalize cG a b=p at *
 generalize bK a b=q at *
 generalize cG c d=r at *
 generalize bK c d=s at *
 grind
def Jl {b:Int}(h1:Q9 a b)(h2:Q9 c d)(hc:0<c):sy (qR a b) (qR c d)=some (qR (a*d) (b*c)):=by
 unfold sy
 rw[h1.ok,h2.ok,gI.1,gI.2,gI.1,gI.2]
 have r1:=h1.red
 have r2:=h2.red
 have qn:=iQ r1.1 (b:=bK c d) kb9
 have qr:=iQ (a:=bK a b) (b:=cG c d) kc0 r2.1
 have W:0<cG c d:=by
  have h:=vT (n:=c) h2.2.1
  have O:=jx (n:=c) h2.2.1
  rcases Int.lt_or_le 0 (cG c d)with h'|h'
  · exact h'
  · have:=Int.mul_nonpos_of_nonpos_of_nonneg h' (Int.le_of_lt O);omega
 have A1:=Int.mul_pos r1.2.1 W
 simp only[Bool.and_self,if_true]
 refine yq (kG qn) (kG qr) ?_
 rw[py U]
 congr 1
 refine aU A1 (Int.mul_pos h1.2.1 hc) ?_
 have A2:=ez (n:=a) h1.2.1
 have Ab:=ez (n:=c) h2.2.1
 generalize cG a b=p at *
 generalize bK a b=q at *
 generalize cG c d=r at *
 generalize bK c d=s at *
 grind
section
variable {b:Int}
def Nu (h1:Q9 a b)(h2:Q9 c d)(ht:Tb w):CL 49 #[.agg #[S (qR a b).1,S (qR a b).2],.agg #[S (qR c d).1,S (qR c d).2]] w (aC w λv _=>v=Qv (a*d+c*b) (b*d)):=fM (M6 _ _ _ _ _ ht) (qb1 ey (Jj h1 h2))
def Nv (h1:Q9 a b)(h2:Q9 c d)(ht:Tb w):CL 50 #[.agg #[S (qR a b).1,S (qR a b).2],.agg #[S (qR c d).1,S (qR c d).2]] w (aC w λv _=>v=Qv (a*d-c*b) (b*d)):=fM (M7 _ _ _ _ _ ht) (qb1 ey (Jk h1 h2))
def Nw (h1:Q9 a b)(h2:Q9 c d)(hc:0<c)(ht:Tb w):CL 81 #[.agg #[S (qR a b).1,S (qR a b).2],.agg #[S (qR c d).1,S (qR c d).2]] w (aC w λv _=>v=Qv (a*d) (b*c)):=fM (MZ _ _ _ _ _ ht) (qb1 ey (Jl h1 h2 hc))
end
abbrev QV (a b:Int):Value:=.agg #[S (qR a b).1,S (qR a b).2]
abbrev IV (a b c d:Int):Value:=.agg #[S (qR a b).1,S (qR a b).2,S (qR c d).1,S (qR c d).2]
abbrev kaA (ma mb sa sb ea eb la lb ha hb oa ob ga gb:Int):Array Value:=#[S (qR ma mb).1,S (qR ma mb).2,S (qR sa sb).1,S (qR sa sb).2,S (qR ea eb).1,S (qR ea eb).2,S (qR la lb).1,S (qR la lb).2,S (qR ha hb).1,S (qR ha hb).2,S (qR oa ob).1,S (qR oa ob).2,S (qR ga gb).1,S (qR ga gb).2]
end
section
attribute [local irreducible] wpListIn Code.wpIn Oper.wpIn Exit.then Exit.inBlock Exit.noGoto
set_option maxHeartbeats 40000000
def YQ:(([49],[49]):R)=qR 1 1:=by decide +kernel
def Xm:(([48],[49]):R)=qR 0 1:=by decide +kernel
def Y7:(([49],[50]):R)=qR 1 2:=by decide +kernel
section
variable {b:Int}{l' m':List UInt8}
def lf (e1:(l,m)=qR a b)(e2:(l',m')=qR c d)(h1:Q9 a b)(h2:Q9 c d)(ht:Tb w):CL 77 #[.agg #[S l,S m],.agg #[S l',S m']] w (aC w λv _=>v=.int .i64 (aG (a*d) (c*b))):=by
 rw[show l=(qR a b).1 from congrArg Prod.fst e1,show m=(qR a b).2 from congrArg Prod.snd e1,show l'=(qR c d).1 from congrArg Prod.fst e2,show m'=(qR c d).2 from congrArg Prod.snd e2]
 exact Ji h1.2.1 h2.2.1 h1.fz.1 h1.fz.2 h2.fz.1 h2.fz.2 ht
def Po (e1:(l,m)=qR a b)(e2:(l',m')=qR c d)(h1:Q9 a b)(h2:Q9 c d)(ht:Tb w):CL 49 #[.agg #[S l,S m],.agg #[S l',S m']] w (aC w λv _=>v=Qv (a*d+c*b) (b*d)):=by
 rw[show l=(qR a b).1 from congrArg Prod.fst e1,show m=(qR a b).2 from congrArg Prod.snd e1,show l'=(qR c d).1 from congrArg Prod.fst e2,show m'=(qR c d).2 from congrArg Prod.snd e2]
 exact Nu h1 h2 ht
def Jm (e1:(l,m)=qR a b)(e2:(l',m')=qR c d)(h1:Q9 a b)(h2:Q9 c d)(ht:Tb w):CL 50 #[.agg #[S l,S m],.agg #[S l',S m']] w (aC w λv _=>v=Qv (a*d-c*b) (b*d)):=by
 rw[show l=(qR a b).1 from congrArg Prod.fst e1,show m=(qR a b).2 from congrArg Prod.snd e1,show l'=(qR c d).1 from congrArg Prod.fst e2,show m'=(qR c d).2 from congrArg Prod.snd e2]
 exact Nv h1 h2 ht
def Vt (e1:(l,m)=qR a b)(e2:(l',m')=qR c d)(h1:Q9 a b)(h2:Q9 c d)(hc:0<c)(ht:Tb w):CL 81 #[.agg #[S l,S m],.agg #[S l',S m']] w (aC w λv _=>v=Qv (a*d) (b*c)):=by
 rw[show l=(qR a b).1 from congrArg Prod.fst e1,show m=(qR a b).2 from congrArg Prod.snd e1,show l'=(qR c d).1 from congrArg Prod.fst e2,show m'=(qR c d).2 from congrArg Prod.snd e2]
 exact Nw h1 h2 hc ht
end
def Xn:Q9 1 1:=⟨by decide,by decide,by decide⟩
end
section
set_option maxRecDepth 100000
def sA {c:Code}{args:Array Value}{u:FrameMode}{R:Ending->FrameMode->World->Prop}(hf:P.funcs[f]?=some fn)(hb:fn.body=some c)(h:∀(c₀:Frame) (cs:List Frame),c₀.mode=u->
 c.wpS P (bodyPostS P fn c₀ cs R) {tmps:=args++Array.replicate (fn.ntmps-args.size) undef,defers:=[]} (c₀::cs) w):
 CallsDIn Fence.wide n P f args u w R:=by
 refine⟨trivial,λc₀ cs hu _=>?_⟩
 let b:Frame:={(default:Frame)with fn:=f,kind:=.deferred}
 have henter:Frame.enter P f args .deferred=
  b.at {tmps:=args++Array.replicate (fn.ntmps-args.size) undef,defers:=[]} [.code c]:=by
  simp[Frame.enter,Frame.at,hf,hb,b]
 obtain⟨e,_,_,w',hq,qr⟩:=h c₀ cs hu b [] Z Z
 rw[<-henter]at qr
 cases e with
 | normal=>
   obtain⟨hd,O,rfl,v,hr,hR⟩:=hq
   exact⟨.returned v,O,w',_,hR,comesIn_wide.2 (Steps.trans qr (.one step_end)),rfl,rfl,rfl,hd,fn,hf,hr⟩
 | ret=>
   obtain⟨hd,O,rfl,v,hr,hR⟩:=hq
   obtain⟨W,hs⟩:=qr
   exact⟨.returned v,O,w',_,hR,comesIn_wide.2 hs,rfl,rfl,rfl,hd,fn,hf,hr⟩
 | panic chain=>
   obtain⟨hd,O,rfl,hR⟩:=hq
   obtain⟨W,hs⟩:=qr
   exact⟨.panicked chain,O,w',_,hR,comesIn_wide.2 hs,rfl,rfl,rfl,hd,fn,hf⟩
 |exit id=>exact hq.elim
 |goto l=>exact hq.elim
 | outgrown=>
   obtain⟨O,hR⟩:=hq
   exact⟨.outgrown,O,w',b,hR,qr.resolve_left (by simp[b]),rfl,rfl,trivial⟩
def Xo {c:Code}{u:FrameMode}{R:Ending->FrameMode->World->Prop}(hf:P.funcs[f]?=some fn)(hb:fn.body=some c)(h:∀(c₀:Frame) (cs:List Frame),c₀.mode=u->c.wpS P (bodyPostS P fn c₀ cs R) (act (args.length+(fn.ntmps-args.length)) (LW args) []) (c₀::cs) w):CallsDIn Fence.wide n P f args.toArray u w R:=by
 refine sA hf hb (λc₀ cs hu=>?_)
 rw[kV]
 exact h c₀ cs hu
section
variable {r:Option Nat}{N:Nat}{ds:List Deferred}{Q:Exit->Act->World->Prop}{K:Act->World->Prop}
variable {d ty:Nat}{pos:String}{af:Array Edge}{ats:Array TypeId}{g:Option (Nat×Bool)}{u:Value}{x y:Operand}{t t':TypeId}
def Ae (hx:ev N e x=.func (.func f) #[] lb.toArray)(hk:K (act N e ({target:=.fn (.func f) lb.toArray,args:=#[]}::ds)) w):
 Oper.wpIn (Fw none) n P ⟨none,.defer {callee:=.value x,args:=#[],argTypes:=ats},ty,pos,af,g⟩ (act N e ds) w K Q:=by
 refine⟨λf _=>l8 none f,?_⟩
 rw[tu,Oper.semAt_none,dI]
 have:(execOp (ev N e) (⟨none,.defer {callee:=.value x,args:=#[],argTypes:=ats},ty,pos,af,g⟩:Oper)).run P w=.ok (.defer {target:=.fn (.func f) lb.toArray,args:=#[]}) w:=by
  simp[execOp,resolve,Deferred.ofValue,hx]
 rw[this]
 exact hk
end
section
variable {N:Nat}{d id ty:Nat}{pos:String}{af:Array Edge}{ats:Array TypeId}{cs:List Frame}{Q:Exit->Act->List Frame->World->Prop}{ops:Array Oper}{rest:List Nat}{op:Op}{dst:Option Tmp}
def Jn (hn:List.range ops.size=0::rest)(h0:ops[0]?=some ⟨some d,.call {callee:=.builtin .recover,args:=#[],argTypes:=ats},ty,pos,af,none⟩)(hr:recoverD cs=none)(h:wpOpsS P ops Q rest (act N (upd e d .nilIface) []) cs w):
 (Code.region id ops false).wpS P Q (act N e []) cs w:=by
 refine wpS_region ?_
 rw[hn]
 have hx:(execOp (act N e []).eval ⟨some d,.call {callee:=.builtin .recover,args:=#[],argTypes:=ats},ty,pos,af,none⟩).run P w=.ok .recover w:=by
  simp[execOp,resolve,invoke,builtin]
 simp only[wpOpsS,h0,Region.wanted,if_true,hx,hr]
 rw[aw]
 exact h
def oG (h0:ops[i]?=some ⟨some d,op,ty,pos,af,none⟩)(hx:(execOp (ev N e) (⟨some d,op,ty,pos,af,none⟩:Oper)).run P w=.ok (.value v) w)(h:wpOpsS P ops Q rest (act N (upd e d v) []) cs w):
 wpOpsS P ops Q (i::rest) (act N e []) cs w:=by
 have hx':(execOp (act N e []).eval (⟨some d,op,ty,pos,af,none⟩:Oper)).run P w=.ok (.value v) w:=by rw[dI];exact hx
 simp only[wpOpsS,h0,Region.wanted,if_true,hx']
 show wpOpsS P ops Q rest ((act N e []).put (some d) v) cs w
 rw[aw]
 exact h
def Jo (h:Q .normal (act N e []) cs w):wpOpsS P ops Q [] (act N e []) cs w:=h
end
def Jp {N:Nat}{d id ty:Nat}{pos:String}{af:Array Edge}{ats:Array TypeId}{cs:List Frame}{Q:Exit->Act->List Frame->World->Prop}{d1 ty1 d2 ty2 d3 ty3 d4 ty4 d5 ty5 d6 ty6:Nat}{pos1 pos2 pos3 pos4 pos5 pos6:String}{af1 af2 af3 af4 af5 af6:Array Edge}{op1 op2 op3 op4 op5 op6:Op}(hr:recoverD cs=none)(h1:(execOp (ev N (upd e d .nilIface)) (⟨some d1,op1,ty1,pos1,af1,none⟩:Oper)).run P w=.ok (.value v1) w)(h2:(execOp (ev N (upd (upd e d .nilIface) d1 v1)) (⟨some d2,op2,ty2,pos2,af2,none⟩:Oper)).run P w=.ok (.value v2) w)(h3:(execOp (ev N (upd (upd (upd e d .nilIface) d1 v1) d2 v2)) (⟨some d3,op3,ty3,pos3,af3,none⟩:Oper)).run P w=.ok (.value v3) w)(h4:(execOp (ev N (upd (upd (upd (upd e d .nilIface) d1 v1) d2 v2) d3 v3)) (⟨some d4,op4,ty4,pos4,af4,none⟩:Oper)).run P w=.ok (.value v4) w)(h5:(execOp (ev N (upd (upd (upd (upd (upd e d .nilIface) d1 v1) d2 v2) d3 v3) d4 v4)) (⟨some d5,op5,ty5,pos5,af5,none⟩:Oper)).run P w=.ok (.value v5) w)(h6:(execOp (ev N (upd (upd (upd (upd (upd (upd e d .nilIface) d1 v1) d2 v2) d3 v3) d4 v4) d5 v5)) (⟨some d6,op6,ty6,pos6,af6,none⟩:Oper)).run P w=.ok (.value v6) w)(h:Q .normal (act N (upd (upd (upd (upd (upd (upd (upd e d .nilIface) d1 v1) d2 v2) d3 v3) d4 v4) d5 v5) d6 v6) []) cs w):
 (Code.region id #[⟨some d,.call {callee:=.builtin .recover,args:=#[],argTypes:=ats},ty,pos,af,none⟩,⟨some d1,op1,ty1,pos1,af1,none⟩,⟨some d2,op2,ty2,pos2,af2,none⟩,⟨some d3,op3,ty3,pos3,af3,none⟩,⟨some d4,op4,ty4,pos4,af4,none⟩,⟨some d5,op5,ty5,pos5,af5,none⟩,⟨some d6,op6,ty6,pos6,af6,none⟩] false).wpS P Q (act N e []) cs w:=
 Jn (rest:=[1,2,3,4,5,6]) Z Z hr (oG Z h1 (oG Z h2 (oG Z h3 (oG Z h4 (oG Z h5 (oG Z h6 (Jo h)))))))
def Jq :
 CallsDIn Fence.wide n prog 130 #[pT b1,pT b2] .returning w (λe u' w'=>(∃v,e=.returned v)/\u'=.returning/\w'=w):=by
 refine Xo (args:=[pT b1,pT b2]) func130 Z (λ_ _ hu=>?_)
 refine wpS_seq ?_
 refine Jp (v1:=.tuple #[.nilIface,.bool false]) (v2:=.tuple #[.nilIface,.bool false]) (v3:=.nilIface) (v4:=.bool false) (v5:=.nilIface) (v6:=.bool false) (by simp[recoverD,hu]) ?_ ?_ ?_ ?_ ?_ ?_ ?_
 · have h:(Instr.typeAssert .nilIface 20 134 true).run prog w=.ok (.tuple #[.nilIface,.bool false]) w:=by
    unfold Instr.typeAssert
    simp[run_underlying underlying134]
   simp only[execOp]
   exact qb1 (λr=>Result.andThen r λa w'=>Result.ok (Next.value a) w') h
 · rfl
 · rfl
 · rfl
 · rfl
 · rfl
 refine wpS_of_wp (wpIn_wide (n:=0).1 ?_)
 refine nK (r:=none) ?_
 refine tF (r:=none) ?_
 refine ac (r:=none) (di (v:=.bool false) Z ?_)
 refine ac (r:=none) (di (v:=.bool false) Z ?_)
 with_reducible refine rH (r:=none) (d:=12) (s:=11) ?_ ?_ ?_
 exact Z
 exact Z
 with_reducible refine rH (r:=none) (d:=13) (s:=11) ?_ ?_ ?_
 exact Z
 exact Z
 with_reducible refine rH (r:=none) (d:=14) (s:=11) ?_ ?_ ?_
 exact Z
 exact Z
 refine ac (r:=none) (tA (t:=false) (v:=.bool false) Z Z ?_)
 refine lS ?_
 refine jG ?_
 refine lz (r:=none) Z ?_
 refine oh (r:=none) ?_
 exact⟨rfl,.returning,by rw[<-hu],_,BC Z,⟨_,rfl⟩,rfl,rfl⟩
def Jr :
 CallsDIn Fence.wide n prog 253 #[pT b1,pT b2] .returning w (λe u' w'=>(∃v,e=.returned v)/\u'=.returning/\w'=w):=by
 refine Xo (args:=[pT b1,pT b2]) func253 Z (λ_ _ hu=>?_)
 refine wpS_seq ?_
 refine Jp (v1:=.tuple #[.nilIface,.bool false]) (v2:=.tuple #[.nilIface,.bool false]) (v3:=.nilIface) (v4:=.bool false) (v5:=.nilIface) (v6:=.bool false) (by simp[recoverD,hu]) ?_ ?_ ?_ ?_ ?_ ?_ ?_
 · have h:(Instr.typeAssert .nilIface 20 134 true).run prog w=.ok (.tuple #[.nilIface,.bool false]) w:=by
    unfold Instr.typeAssert
    simp[run_underlying underlying134]
   simp only[execOp]
   exact qb1 (λr=>Result.andThen r λa w'=>Result.ok (Next.value a) w') h
 · rfl
 · rfl
 · rfl
 · rfl
 · rfl
 refine wpS_of_wp (wpIn_wide (n:=0).1 ?_)
 refine nK (r:=none) ?_
 refine tF (r:=none) ?_
 refine ac (r:=none) (di (v:=.bool false) Z ?_)
 refine ac (r:=none) (di (v:=.bool false) Z ?_)
 with_reducible refine rH (r:=none) (d:=12) (s:=11) ?_ ?_ ?_
 exact Z
 exact Z
 with_reducible refine rH (r:=none) (d:=13) (s:=11) ?_ ?_ ?_
 exact Z
 exact Z
 with_reducible refine rH (r:=none) (d:=14) (s:=11) ?_ ?_ ?_
 exact Z
 exact Z
 refine ac (r:=none) (tA (t:=false) (v:=.bool false) Z Z ?_)
 refine lS ?_
 refine jG ?_
 refine lz (r:=none) Z ?_
 refine oh (r:=none) ?_
 exact⟨rfl,.returning,by rw[<-hu],_,BC Z,⟨_,rfl⟩,rfl,rfl⟩
abbrev dV (g b1 b2:Nat):Deferred:={target:=.fn (.func g) [Value.pointer (some ⟨b1,0,none⟩),Value.pointer (some ⟨b2,0,none⟩)].toArray,args:=#[]}
def Js (g b1 b2:Nat):Prop:=∀(n:Nat) (w:World),CallsDIn Fence.wide n prog g #[pT b1,pT b2] .returning w (λe u' w'=>(∃v,e=.returned v)/\u'=.returning/\w'=w)
def Ag {c:Code}{R:Ending->World->Prop}(hf:P.funcs[f]?=some fn)(hb:fn.body=some c)(h:c.wpIn (Fw none) 0 P (bodyPostDIn Fence.wide 0 P fn R) (act (args.length+(fn.ntmps-args.length)) (LW args) []) w):Calls P f args.toArray w R:=by
 refine callsIn_wide.1 (callsIn_of_wp_defers (n:=0) hf hb trivial ?_)
 rw[kV]
 exact h
def Jt {N:Nat}{R:Value->World->Prop}(hg:Enters prog g)(hc:Js g b1 b2)(hx:bF w w')(hr:(results fn (act N e [dV g b1 b2]).tmps).run prog w'=.ok v w')(hR:R v w'):
 bodyPostDIn Fence.wide 0 prog fn (aC w R) .ret (act N e [dV g b1 b2]) w':=by
 refine leavesIn_cons (f:=g) (args:=#[pT b1,pT b2]) RW (by simp[Fence.wide]) ?_ (λ_ _=>trivial) ?_
 · have h:=hg #[pT b1,pT b2] w'
   simpa[invoke]using h
 · refine CallsDIn.mono (hc _ _) ?_
   rintro _ _ _ ⟨⟨O,rfl⟩,rfl,rfl⟩
   exact⟨v,hr,hx,hR⟩
end
section
set_option maxRecDepth 100000
attribute [local irreducible] wpListIn Code.wpIn Oper.wpIn Exit.then Exit.inBlock Exit.noGoto
set_option maxHeartbeats 40000000
def y7 (x:R×R):Prop:=∃a b c d,x.1=qR a b/\x.2=qR c d/\Q9 a b/\Q9 c d/\a*d<=c*b
def jQ (l:List (R×R)):List Value:=l.flatMap λx=>[S x.1.1,S x.1.2,S x.2.1,S x.2.2]
def qq (l:List (R×R))(i:Nat):R×R:=l.getD i (([],[]),([],[]))
def uP:∀{l:List (R×R)} {i:Nat},i<l.length->(jQ l)[i*4]?=some (S (qq l i).1.1)/\(jQ l)[i*4+1]?=some (S (qq l i).1.2)/\(jQ l)[i*4+2]?=some (S (qq l i).2.1)/\(jQ l)[i*4+3]?=some (S (qq l i).2.2)
 |a::t,0,_=>by simp[jQ,qq]
 | a::t,i+1,h=>by
   have ih:=uP (l:=t) (i:=i) ka3
   rw[show(i+1)*4=i*4+4 by omega,show i*4+4+1=i*4+1+4 by omega,show i*4+4+2=i*4+2+4 by omega,show i*4+4+3=i*4+3+4 by omega]
   simpa[jQ,qq]using ih
def Nx {l:List (R×R)}(h:Rw w lo A (jQ l))(hi:i<l.length):
 ∃b o,A=some ⟨b,o,none⟩/\∀j u,[S (qq l i).1.1,S (qq l i).1.2,S (qq l i).2.1,S (qq l i).2.2][j]?=some u->w.cell? ⟨b,o+i*4+j,none⟩=some u:=by
 obtain⟨h1,h2,h3,h4⟩:=uP hi
 obtain⟨b,o,hA,qr⟩:=h.cells _ _ h1
 obtain⟨_,_,hA2,W⟩:=h.cells _ _ h2
 obtain⟨_,_,hA3,O⟩:=h.cells _ _ h3
 obtain⟨_,_,hA4,qn⟩:=h.cells _ _ h4
 rw[hA]at hA2 hA3 hA4;cases hA2;cases hA3;cases hA4
 refine⟨b,o,hA,λj u hu=>?_⟩
 match j,hu with
 |0,hu=>simp at hu;subst hu;simpa using qr
 |1,hu=>simp at hu;subst hu;simpa[Nat.add_assoc]using W
 |2,hu=>simp at hu;subst hu;simpa[Nat.add_assoc]using O
 |3,hu=>simp at hu;subst hu;simpa[Nat.add_assoc]using qn
def Ew {l:List (R×R)}(h:i<l.length):qq l i∈l:=by unfold qq;simp[h]
def Ny {b:Int}(e:(l,m)=qR a b)(h:Q9 a b):cc (l,m)=true:=e▸h.ok
def mM :
 CL 132 #[.bool true] w (aC w λv w'=>v=.tuple #[]):=by
 refine aE func132 Z (I ?_);exact TV (BC Z) (aa2 _) Z
def rX {x:R×R}(hx:y7 x)(ht:Tb w):
 CL 83 #[.agg #[S x.1.1,S x.1.2,S x.2.1,S x.2.2]] w (aC w λv w'=>v=.bool true):=by
 obtain⟨a,b,c,d,qn,W,q1,q2,A2⟩:=hx;refine aE func83 Z (I ?_);refine bx (λ_ Ad qr=>?_);have O:=Ad.2;refine I ?_;refine cl qF (cB (ep _ _ _ (ht.ext O)) (Ny qn q1)) ?_;rintro _ _ Ab rfl;have⟨qr,O⟩:=bD Ab.2 qr O;refine I ?_;refine cl qF (cB (ep _ _ _ (ht.ext O)) (Ny W q2)) ?_;rintro _ _ A1 rfl;have⟨qr,O⟩:=bD A1.2 qr O;refine I ?_;refine cl ko (lf qn W q1 q2 (ht.ext O)) ?_;rintro _ _ Af rfl;have O:=xt O Af.2;refine I ?_;exact ax (t:=2) (v:=.bool (decide ((aG (a*d) (c*b))<=0))) Z O (qb1 Value.bool (qa1 (bS.2 A2))) Z
def Cy {x:R×R}(hx:y7 x)(ht:Tb w):
 CL 134 #[.agg #[S x.1.1,S x.1.2,S x.2.1,S x.2.2]] w (aC w λv w'=>v=.bool false):=by
 refine aE func134 Z (I ?_);refine bx (λ_ qr qn=>?_);have O:=qr.2;refine I ?_;refine ac (ar (cs:=[S x.1.1,S x.1.2,S x.2.1,S x.2.2]) (b:=w.heap.size) (o:=0) aJ Z ay Z (aa1 qn (i:=0) Z) ?_);refine cl xr (rX hx (ht.ext O)) ?_;rintro _ _ W rfl;have O:=xt O W.2;refine I ?_;exact ax (t:=2) (v:=.bool false) Z O Z Z
def Cz {x:R×R}(hx:y7 x)(ht:Tb w):
 CL 254 #[.agg #[S x.1.1,S x.1.2,S x.2.1,S x.2.2]] w (aC w λv w'=>v=.bool false):=by
 refine aE func254 Z (I ?_);refine bx (λ_ qr qn=>?_);have O:=qr.2;refine I ?_;refine ac (ar (cs:=[S x.1.1,S x.1.2,S x.2.1,S x.2.2]) (b:=w.heap.size) (o:=0) aJ Z ay Z (aa1 qn (i:=0) Z) ?_);refine cl xr (rX hx (ht.ext O)) ?_;rintro _ _ W rfl;have O:=xt O W.2;refine I ?_;exact ax (t:=2) (v:=.bool false) Z O Z Z
def Ju {l:List (R×R)}(hr:Rw w lo A (jQ l))(hn:l.length=n)(hb:n<=1000)(hg:Enters prog g)(hf:∀i<n,∀W,bF w W->CL g #[.agg #[S (qq l i).1.1,S (qq l i).1.2,S (qq l i).2.1,S (qq l i).2.2]] W (aC W λv _=>v=.bool false)):
 CL 177 #[.slice A n cp,.func (.func g) #[] #[]] w (aC w λv w'=>v=.int .i64 (-1)):=by
 refine aE func177 Z (I ?_);have Ab:=aa2 w;refine JT [(4,5),(8,18)] (λqn e W=>∃i:Nat,(n-i=qn)/\(e 8=.int .i64 i)/\(i<=n)/\(bF w W)) (n-0) ⟨0,rfl,rfl,(qa7 _),Ab⟩ ?_;rintro _ _ _ ⟨i,rfl,qr,hi,O⟩;by_cases hl:i<n;obtain⟨bk,o,hA,A2⟩:=Nx (hr.ext O) (i:=i) U;refine I ?_;refine ac (ah (i:=i) (oo:=o+i*4) gE ay Z hA Z U Z ?_);refine ac (ar (cs:=[S (qq l i).1.1,S (qq l i).1.2,S (qq l i).2.1,S (qq l i).2.2]) (b:=bk) (o:=o+i*4) aJ Z ay Z A2 ?_);refine ac (uo (vs:=[.agg #[S (qq l i).1.1,S (qq l i).1.2,S (qq l i).2.1,S (qq l i).2.2]]) (lb:=[]) hg Z Z (hf i U _ O) ?_);rintro _ _ A1 rfl;have O:=xt O A1.2;refine I ?_;refine ac (bb (a:=(i:Int)) (b:=1) (c:=((i+1:Nat):Int)) qr Z L7 U ?_);refine I ?_;exact c6 ⟨i+1,rfl,rfl,U,O⟩;refine I ?_;exact ax (t:=4) (v:=.int .i64 (-1)) Z O Z Z
def rY {l:List (R×R)}(hr:Rw w lo A (jQ l))(hn:l.length=n)(hb:n<=1000)(hg:Enters prog g)(hf:∀i<n,∀W,bF w W->CL g #[.agg #[S (qq l i).1.1,S (qq l i).1.2,S (qq l i).2.1,S (qq l i).2.2]] W (aC W λv _=>v=.bool false)):
 CL 133 #[.slice A n cp,.func (.func g) #[] #[]] w (aC w λv w'=>v=.bool false):=by
 refine aE func133 Z (I ?_);refine cl Qt (Ju (hr.ext (aa2 _)) hn hb hg (λi hi W e=>hf i hi W (xt (aa2 _) e))) ?_;rintro _ _ O rfl;have qr:=O.2;refine I ?_;exact ax (t:=4) (v:=.bool false) Z qr Z Z
def mN {gf:Nat}{l:List (R×R)}{x:R×R}(hg:Enters prog gf)(hr:Rw w lo A (jQ l))(hn:l.length=n)(hb:n<=1000)(hv:∀x∈l,y7 x)(hc:∀W,bF w W->CL gf lb.toArray W (aC W λv _=>v=.agg #[S x.1.1,S x.1.2,S x.2.1,S x.2.2]))(ht:Tb w):
 CL 78 #[.func (.func gf) #[] lb.toArray,.slice A n cp] w (aC w λv w'=>v=.tuple #[.agg #[S x.1.1,S x.1.2,S x.2.1,S x.2.2],.int .i64 0]):=by
 refine Ag func78 Z (I ?_);refine al ap (λA1 Ao qn=>?_);have O:=Ao.2;refine al lT (λ_ Af qr=>?_);have⟨qn,O⟩:=bD Af.2 qn O;refine I ?_;refine ac (cL (vf:=[]) (vc:=[pT w.heap.size,pT A1.heap.size]) Z Z ?_);refine ac (Ae (lb:=[pT w.heap.size,pT A1.heap.size]) Z ?_);refine I ?_;refine clb Hu (hc:=rY (hr.ext O) hn hb Ql (λi hi W e=>Cy (hv _ (Ew U)) ((ht.ext O).ext e))) (hk:=?_);rintro _ _ Ar rfl;have⟨qn,qr,O⟩:=bC Ar.2 qn qr O;refine I ?_;refine cl BO mM ?_;rintro _ _ Am rfl;have⟨qn,qr,O⟩:=bC Am.2 qn qr O;refine I ?_;refine ac (uo (f:=gf) (lb:=lb) (vs:=[]) hg Z Z (hc _ O) ?_);rintro _ _ Ap rfl;have⟨qn,qr,O⟩:=bC Ap.2 qn qr O;refine SA qn (λ_ Ad A2=>?_);have qr:=pb Ad qr;have O:=bB Ad O;refine SO qr (λ_ Ab Aq=>?_);have A2:=pb Ab A2;have O:=bB Ab O;refine I ?_;refine Jt (b1:=w.heap.size) (b2:=A1.heap.size) (v:=.tuple #[.agg #[S x.1.1,S x.1.2,S x.2.1,S x.2.2],.int .i64 0]) Qk (λ_ _=>Jq) O (cn (r1:=.cell 4 33) (r2:=.cell 5 34) Z ?_ ?_) Z;refine ag (t:=4) (cs:=[S x.1.1,S x.1.2,S x.2.1,S x.2.2]) (b:=w.heap.size) (o:=0) aJ Z ay ?_ ?_;exact Z;exact aa1 A2 (i:=0) Z;refine dh (t:=5) (b:=A1.heap.size) (o:=0) G9 Z ?_ ?_;exact Z;exact aa9 Aq Z
def Ah {gf:Nat}{l:List (R×R)}{x:R}(hg:Enters prog gf)(hr:Rw w lo A (jQ l))(hn:l.length=n)(hb:n<=1000)(hv:∀x∈l,y7 x)(hc:∀W,bF w W->CL gf lb.toArray W (aC W λv _=>v=.agg #[S x.1,S x.2]))(ht:Tb w):
 CL 210 #[.func (.func gf) #[] lb.toArray,.slice A n cp] w (aC w λv w'=>v=.tuple #[.agg #[S x.1,S x.2],.int .i64 0]):=by
 refine Ag func210 Z (I ?_);refine al aQ (λA1 Ao qn=>?_);have O:=Ao.2;refine al lT (λ_ Af qr=>?_);have⟨qn,O⟩:=bD Af.2 qn O;refine I ?_;refine ac (cL (vf:=[]) (vc:=[pT w.heap.size,pT A1.heap.size]) Z Z ?_);refine ac (Ae (lb:=[pT w.heap.size,pT A1.heap.size]) Z ?_);refine I ?_;refine clb Hu (hc:=rY (hr.ext O) hn hb Qr (λi hi W e=>Cz (hv _ (Ew U)) ((ht.ext O).ext e))) (hk:=?_);rintro _ _ Ar rfl;have⟨qn,qr,O⟩:=bC Ar.2 qn qr O;refine I ?_;refine cl BO mM ?_;rintro _ _ Am rfl;have⟨qn,qr,O⟩:=bC Am.2 qn qr O;refine I ?_;refine ac (uo (f:=gf) (lb:=lb) (vs:=[]) hg Z Z (hc _ O) ?_);rintro _ _ Ap rfl;have⟨qn,qr,O⟩:=bC Ap.2 qn qr O;refine SA qn (λ_ Ad A2=>?_);have qr:=pb Ad qr;have O:=bB Ad O;refine SO qr (λ_ Ab Aq=>?_);have A2:=pb Ab A2;have O:=bB Ab O;refine I ?_;refine Jt (b1:=w.heap.size) (b2:=A1.heap.size) (v:=.tuple #[.agg #[S x.1,S x.2],.int .i64 0]) Qq (λ_ _=>Jr) O (cn (r1:=.cell 4 25) (r2:=.cell 5 34) Z ?_ ?_) Z;refine ag (t:=4) (cs:=[S x.1,S x.2]) (b:=w.heap.size) (o:=0) eB Z aM ?_ ?_;exact Z;exact aa1 A2 (i:=0) Z;refine dh (t:=5) (b:=A1.heap.size) (o:=0) G9 Z ?_ ?_;exact Z;exact aa9 Aq Z
def pz :
 CL 103 #[.agg #[S l,S m],.int .i64 0] w (aC w λv w'=>v=.agg #[S l,S m]):=by
 refine aE func103 Z (I ?_);refine bx (λA2 Af qr=>?_);have O:=Af.2;refine al aQ (λ_ Ad W=>?_);have⟨qr,O⟩:=bD Ad.2 qr O;refine I ?_;refine cl BO mM ?_;rintro _ _ Ab rfl;have⟨qr,W,O⟩:=bC Ab.2 qr W O;refine I ?_;refine SA W (λ_ qn A1=>?_);have qr:=pb qn qr;have O:=bB qn O;refine I ?_;refine aI (v:=.agg #[S l,S m]) (cF  rfl ?_) O Z;refine ag (t:=4) (cs:=[S l,S m]) (b:=A2.heap.size) (o:=0) eB Z aM ?_ ?_;exact Z;exact aa1 A1 (i:=0) Z
end
end Go.Proofs.YthpinljhfnodeaaGreatDoor
