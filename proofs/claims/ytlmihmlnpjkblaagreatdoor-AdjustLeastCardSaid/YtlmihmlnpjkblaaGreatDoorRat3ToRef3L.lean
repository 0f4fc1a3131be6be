/- Part of the proof of a statement about an adjustment. -/
import Derived.Test.YtlmihmlnpjkblaaGreatDoorInt13ToRat2L
set_option linter.all false
namespace Go.Proofs.YtlmihmlnpjkblaaGreatDoor
open Go Go.Eng Go.RowKit Tryz
variable {q ng:Bool}{xs X Y:List Nat}{l d:List UInt8}{i lo' k base n a j n1 c1 lo1 n2 c2 b lo2:Nat}{A1 A A2:Option Addr}{c:UInt8}{w:World}
attribute [local irreducible] wpListIn Code.wpIn Oper.wpIn Exit.then Exit.inBlock Exit.noGoto
set_option maxHeartbeats 40000000
def uh:bJ ([48],[49])=true:=by decide +kernel
def cE {a:R}(h:bJ a=true):0<ah a.2:=by
 have h2:=fK h
 simp only[bJ,Bool.and_eq_true,Bool.not_eq_true',decide_eq_false_iff_not]at h
 have:=h.1.2
 rw[gL h2,c7]at this
 omega
def Gy:dk [48] [49]=some ([48],[48]):=by decide +kernel
def zU (h:0<ah l):0<aE (body l):=by have:=dT l;omega
def Rc {a:R}(h:bJ a=true):dk a.1 a.2=some (ae (ah a.1/ah a.2),ae (ah a.1%ah a.2)):=by
 have E:=cE h
 rw[lw (by rw[ii h,fK h];rfl) (zU E)]
 have hf:fits (ah a.1/ah a.2)=true:=by
  refine j6 (eO (ii h)) ?_
  obtain⟨d,hd⟩:∃d:Nat,ah a.2=(d:Int):=⟨(ah a.2).toNat,by omega⟩
  rw[hd]at E ⊢
  rcases Int.le_total 0 (ah a.1)with h0|h0
  · have h1:=Int.ediv_nonneg h0 (Int.le_of_lt E)
    have h2:=Int.ediv_le_self (b:=(d:Int)) h0
    omega
  · have h1:ah a.1/(d:Int)<=0:=Int.ediv_nonpos_of_nonpos_of_neg h0 E
    have h2:ah a.1<=ah a.1/(d:Int):=by
     refine Int.le_ediv_of_mul_le E ?_
     have G:0<=(-ah a.1)*((d:Int)-1):=Int.mul_nonneg U U
     rw[Int.neg_mul,Int.mul_sub,Int.mul_one]at G
     omega
    omega
 unfold ba;rw[if_pos hf];rfl
def qF (x:Int):Int:=aN x 0
def JB {a:R}(h:bJ a=true):fits (ah a.1%ah a.2)=true:=by
 have E:=cE h
 refine j6 (eO (fK h)) ?_
 have h1:=Int.emod_nonneg (ah a.1) (show ah a.2≠0 by omega)
 have h2:=Int.emod_lt_of_pos (ah a.1) E
 omega
def wC {a:R}(h:bJ a=true):dH (ae (ah a.1/ah a.2)) [48]=aN (ah a.1/ah a.2) 0:=by
 have hd:=Rc h
 have hf:fits (ah a.1/ah a.2)=true:=by
  rw[lw (by rw[ii h,fK h];rfl) (zU (cE h))]at hd
  cases hh:fits (ah a.1/ah a.2)with
  |true=>rfl
  |false=>unfold ba at hd;rw[hh]at hd;simp at hd
 rw[gL (bf hf),aI]
def zV {a:R}(h:bJ a=true):(ae (ah a.1%ah a.2)=[48])↔ah a.1%ah a.2=0:=by
 rw[<-fY (bf (JB h)),aI]
def TM {a:R}(h:bJ a=true)(h1:¬dH (ae (ah a.1/ah a.2)) [48]=0):dH (ae (ah a.1/ah a.2)) [48]=qF (ah a.1):=by
 rw[wC h]at *
 have G:=cE h
 unfold qF
 refine nV ?_ ?_
 · constructor
   · intro E
     by_cases h9:ah a.1<0
     · exact h9
     · have:=Int.ediv_nonneg (Int.not_lt.1 h9) (Int.le_of_lt G);omega
   · intro E;exact Int.ediv_neg_of_neg_of_pos E G
 · constructor
   · intro E;rw[E]at h1;exact absurd (jp Z) h1
   · intro E;rw[E];simp
def JC {a:R}(h:bJ a=true)(h1:dH (ae (ah a.1/ah a.2)) [48]=0):0<=ah a.1/\ah a.1%ah a.2=ah a.1:=by
 rw[wC h]at h1
 have E:=cE h
 have hq:ah a.1/ah a.2=0:=by
  unfold aN at h1
  split at h1
  · omega
  · split at h1
    · assumption
    · omega
 have h2:=Int.emod_add_mul_ediv (ah a.1) (ah a.2)
 rw[hq]at h2
 have h3:=Int.emod_nonneg (ah a.1) (show ah a.2≠0 by omega)
 simp at h2
 exact⟨by omega,h2⟩
def TN {a:R}(h:bJ a=true)(h1:dH (ae (ah a.1/ah a.2)) [48]=0)(h2:ae (ah a.1%ah a.2)=[48]):(0:Int)=qF (ah a.1):=by
 obtain⟨_,h4⟩:=JC h h1
 rw[zV h,h4]at h2
 unfold qF;rw[jp h2]
def TO {a:R}(h:bJ a=true)(h1:dH (ae (ah a.1/ah a.2)) [48]=0)(h2:¬ae (ah a.1%ah a.2)=[48]):(1:Int)=qF (ah a.1):=by
 obtain⟨_,h4⟩:=JC h h1
 rw[zV h,h4]at h2
 unfold qF;rw[eK U]
def Oc (a b:List UInt8):-1<=dH a b/\dH a b<=1:=by
 unfold dH aN
 split
 · split
   · omega
   · split <;>omega
 · omega
set_option maxRecDepth 100000 in
def Od (x1 x2:List UInt8)(w:World)(ht:Tb w)(h:bJ (x1,x2)=true):
 CL 26 #[.agg #[S x1,S x2],.agg #[S [48],S [49]]] w (aG w λv w'=>v=.int .i64 (qF (ah x1))):=by
 have Av:=Rc h;refine aC func26 Z (I ?_);refine bx (λ_ A0 G=>?_);have ht:=ab5 A0.2 ht;have E:=A0.2;refine bx (λ_ Ab H=>?_);have ht:=ab5 Ab.2 ht;have⟨G,E⟩:=bn Ab.2 G E;refine I ?_;refine cl td (eo x1 x2 _ ht) ?_;rintro _ _ Am rfl;have ht:=ab5 Am.2 ht;have⟨G,H,E⟩:=cj Am.2 G H E;refine I ?_;refine cl td (eo [48] [49] _ ht) ?_;rintro _ _ Ao rfl;have ht:=ab5 Ao.2 ht;have⟨G,H,E⟩:=cj Ao.2 G H E;refine I ?_;refine wpIn_label (I ?_);refine cl y6 (j5 x1 x2 _ ht) ?_;rintro Ap _ Af O;have ht:=ab5 Af.2 ht;have⟨H,E⟩:=bn Af.2 H E;rw[Av]at O;have O:Ap=.tuple #[S (ae (ah x1/ah x2)),S (ae (ah x1%ah x2)),.int .i64 0]:=O;subst O;refine I ?_;refine cl y6 (j5 [48] [49] _ ht) ?_;rintro Ar _ Aq W;have E:=xt E Aq.2;rw[Gy]at W;have W:Ar=.tuple #[S [48],S [48],.int .i64 0]:=W;subst W;refine I ?_;refine cl xm (pf (ae (ah x1/ah x2)) [48] _) ?_;rintro _ _ As rfl;have E:=xt E As.2;have Aw:=Oc (ae (ah x1/ah x2)) [48];refine I ?_;by_cases cx:(dH (ae (ah x1/ah x2)) [48])=0;refine I ?_;by_cases cv:(ae (ah x1%ah x2))=([48]);refine I ?_;refine rH (b:=[48]) (I ?_);refine rH (a:=[48]) (b:=[48]) (I ?_)
 exact am (t:=4) (v:=.int .i64 0) Z E (qb2 (Value.int .i64) (TN (a:=(x1,x2)) h cx cv)) Z;refine I ?_;refine rH (b:=[48]) (I ?_);refine rH (b:=[48]) (I ?_);refine rH (a:=[48]) (b:=[48]) (I ?_);exact am (t:=4) (v:=.int .i64 1) Z E (qb2 (Value.int .i64) (TO (a:=(x1,x2)) h cx cv)) Z;refine I ?_;refine aa (qX (a:=1) (b:=dH (ae (ah x1/ah x2)) [48]) (c:=1*(dH (ae (ah x1/ah x2)) [48])) Z Z JT Z ?_);refine I ?_;exact am (t:=4) (v:=.int .i64 (1*(dH (ae (ah x1/ah x2)) [48]))) Z E (qb2 (Value.int .i64) ((Int.one_mul _).trans (TM (a:=(x1,x2)) h cx))) Z
def aj {p:Prop}(h:p:=by assumption):p:=h
def c45 :(((c.toNat:Nat):Int)=45)↔c=45:=by
 constructor
 · intro h;exact UInt8.toNat_inj.1 (by have:(45:UInt8).toNat=45:=rfl;omega)
 · intro h;subst h;rfl
def c48 :(((c.toNat:Nat):Int)=48)↔c=48:=by
 constructor
 · intro h;exact UInt8.toNat_inj.1 (by have:(48:UInt8).toNat=48:=rfl;omega)
 · intro h;subst h;rfl
def zX (hc:l[0]?=some c)(h:((c.toNat:Nat):Int)=45):neg l=true/\body l=l.drop 1:=by
 rw[c45]at h;subst h
 cases l with
 |nil=>simp at hc
 |cons a t=>simp at hc;subst hc;exact⟨rfl,rfl⟩
def EA (hc:l[0]?=some c)(h:¬((c.toNat:Nat):Int)=45):neg l=false/\body l=l:=by
 have E:l.head?≠some 45:=by rw[List.head?_eq_getElem?,hc];intro e;cases e;exact h Z
 exact⟨Jh E,xM E⟩
def JD (h:¬(0:Int)<((l.length:Nat):Int)):neg l=false/\body l=l:=by
 have:l=[]:=List.length_eq_zero_iff.1 U
 subst this;exact⟨rfl,rfl⟩
section
variable {D:List UInt8}
def HI (hb:neg l=true/\body l=D)(h:D=[48]):Value.bool false=.bool (isInt l):=by
 unfold isInt;rw[hb.1,hb.2,h];rfl
def HJ (hb:neg l=q/\body l=D)(h:¬(0:Int)<((D.length:Nat):Int)):Value.bool false=.bool (isInt l):=by
 have:D=[]:=List.length_eq_zero_iff.1 U
 unfold isInt ec;rw[hb.2,this];rfl
def HK (hb:neg l=q/\body l=D)(h:¬((D.length:Nat):Int)<=200):Value.bool false=.bool (isInt l):=by
 have:¬D.length<=200:=J
 unfold isInt ec;rw[hb.2];simp[this]
def sB (hb:neg l=q/\body l=D)(hc:D[i]?=some c)(h:b8 c=false):Value.bool false=.bool (isInt l):=by
 have:D.all b8=false:=by
  rw[List.all_eq_false]
  exact⟨c,List.mem_iff_getElem?.2 ⟨i,hc⟩,by simp[h]⟩
 unfold isInt ec;rw[hb.2,this];simp
def dig_lo (h:((c.toNat:Nat):Int)<48):b8 c=false:=by unfold b8;simp;omega
def dig_hi (h:(57:Int)<((c.toNat:Nat):Int)):b8 c=false:=by unfold b8;simp;omega
def JE (h1:¬((c.toNat:Nat):Int)<48)(h2:¬(57:Int)<((c.toNat:Nat):Int)):b8 c=true:=by unfold b8;simp;omega
def HL (hb:neg l=false/\body l=D)(h:D=[48]):Value.bool true=.bool (isInt l):=by
 unfold isInt;rw[hb.1,hb.2,h];rfl
def HM (hb:neg l=q/\body l=D)(ha:D.all b8=true)(h0:(0:Int)<((D.length:Nat):Int))(h1:((D.length:Nat):Int)<=200)(h:¬D=[48])(hc:D[0]?=some c):Value.bool (!decide (((c.toNat:Nat):Int)=48))=.bool (isInt l):=by
 have G:D.isEmpty=false:=by cases D <;>simp_all
 have e2:D.length<=200:=J
 have E:D.head?=some c:=by rw[List.head?_eq_getElem?];exact hc
 congr 1
 unfold isInt ec
 rw[hb.2]
 simp only[G,e2,ha,h,E,c48,Bool.not_false,decide_true,decide_false,Bool.and_self,Bool.true_and,Bool.false_or,Bool.and_false,Bool.not_false,Bool.and_true,ne_eq,Option.some.injEq,decide_not]
def nE (ha:(D.take i).all b8=true)(hc:D[i]?=some c)(h:b8 c=true):(D.take (i+1)).all b8=true:=by
 have hi:i<D.length:=(List.getElem?_eq_some_iff.1 hc).1
 have E:=(List.getElem?_eq_some_iff.1 hc).2
 rw[List.take_succ_eq_append_getElem hi,List.all_append,ha,E]
 simp[h]
end
structure Dg (w:World)(lo:Nat)(A:Option Addr)(n c a:Nat):Prop where
 row:Rw w lo A (ints (ao 10 a))
 len:(ao 10 a).length=n
 cap:n<=c
section
variable {w0 w':World}{lo:Nat}{c:Nat}
def Dg.ext (k:aO w w')(h:Dg w lo A n c a):Dg w' lo A n c a:=⟨h.row.ext k,h.len,h.cap⟩
def ac5:=@Dg.ext
def Dg.gr {row:Option Nat}(k:w.grownBy w' row)(hne:∀ad,A=some ad->some ad.block≠row)(h:Dg w lo A n c a):Dg w' lo A n c a:=⟨h.row.gr k hne,h.len,h.cap⟩
def Dg.mono (hl:lo'<=lo)(h:Dg w lo A n c a):Dg w lo' A n c a:=⟨h.row.mono hl,h.len,h.cap⟩
def Dg.lt (h:Dg w lo A n c a):∀x∈ao 10 a,x<10:=eH 10 U a
def Dg.val (h:Dg w lo A n c a):bO 10 (ao 10 a)=a:=cD 10 U a
def Dg.zero (w:World)(lo:Nat):Dg w lo none 0 0 0:=⟨Rw.nil w lo,rfl,qa0 _⟩
def Dg.trim {l:List Nat}{m:Nat}(hr:Rw w lo A (ints l))(hd:∀d∈l,d<10)(hv:bO 10 l=a)(ht:dz l=l.take m)(hm:m<=l.length)(hc:m<=c):Dg w lo A m c a:=by
 have h1:ao 10 a=l.take m:=by rw[<-ht,<-hv];exact(mm 10 U l hd).symm
 refine⟨?_,?_,hc⟩
 · rw[h1]
   have:=hr.take m
   simpa[ints,List.map_take]using this
 · rw[h1];simp;omega
end
def zY (hc:d[d.length-1-i]?=some c)(hi:i<d.length):ew (d.drop (d.length-i))++[c.toNat-48]=ew (d.drop (d.length-(i+1))):=by
 have hlt:d.length-(i+1)<d.length:=J
 have E:d.drop (d.length-(i+1))=c::d.drop (d.length-i):=by
  rw[List.drop_eq_getElem_cons hlt]
  have e2:d[d.length-(i+1)]?=some c:=by rw[show d.length-(i+1)=d.length-1-i by omega];exact hc
  rw[List.getElem?_eq_getElem hlt]at e2
  rw[Option.some.inj e2,show d.length-(i+1)+1=d.length-i by omega]
 rw[E];simp[ew]
set_option maxRecDepth 100000 in
def cu (l:List UInt8)(w:World)(hl:l.length<=1000000):
 CL 135 #[S l] w (aG w λv w'=>v=.bool (isInt l)):=by
 refine aC func135 Z (I ?_);by_cases cf:0<(((l).length:Nat):Int);refine I ?_;refine aa (dv (l:=l) U9 Z ?_);refine I ?_;have Am:=dp (l:=l) (i:=0) U;refine aa (im (l:=l) (i:=0) (c:=(l.getD 0 0)) U9 Z Z Am ?_);refine I ?_;by_cases lr:(((l.getD 0 0).toNat:Nat):Int)=45;have hb:=zX (dp U) lr;refine I ?_;refine aa (mc (l:=l) (i:=1) (j:=(l).length) U9 Z (.inr ⟨_,qb2 some Z⟩) (.inl ⟨rfl,rfl⟩) U U ?_);rw[show((l).take ((l).length)).drop 1=(l).drop 1 by rw[List.take_length]];refine I ?_;refine rH (b:=[48]) (I ?_);by_cases lm:((l).drop 1)=([48]);refine I ?_;exact am (t:=2) (v:=.bool false) Z (aa4 _) q3 Z;refine I ?_;have hlD:((l).drop 1).length<=1000000:=by first|omega|(simp;omega)
 have Ab:=aa4 w;refine cg [(2,3),(16,31)] (λA0 e W=>∃i:Nat,(((l).drop 1).length-i=A0)/\(e 3=.int .i64 i)/\(i<=((l).drop 1).length)/\((((l).drop 1).take i).all b8=true)/\(aO w W)) (((l).drop 1).length-0) ⟨0,rfl,rfl,(qa7 _),rfl,Ab⟩ ?_;rintro _ _ _ ⟨i,rfl,Ax,hi,G,O⟩;by_cases hlt:i<((l).drop 1).length;refine I ?_;refine aa (j2 (l:=(l).drop 1) (m:=((l).drop 1).length) U9 Z Z ?_);refine I ?_;by_cases cv:(((((l).drop 1).getD i 0).toNat:Nat):Int)<48;refine I ?_;have Ao:=dp (l:=(l).drop 1) (i:=(i)) U;refine aa (im (l:=(l).drop 1) (i:=(i)) (c:=(((l).drop 1).getD i 0)) U9 Z Z Ao ?_);refine I ?_;exact am (t:=2) (v:=.bool false) Z O q3 Z;refine I ?_;have Av:=dp (l:=(l).drop 1) (i:=(i)) U;refine aa (im (l:=(l).drop 1) (i:=(i)) (c:=(((l).drop 1).getD i 0)) U9 Z Z Av ?_);refine I ?_;have ny:=dp (l:=(l).drop 1) (i:=(i)) U;refine aa (im (l:=(l).drop 1) (i:=(i)) (c:=(((l).drop 1).getD i 0)) U9 Z Z ny ?_);refine I ?_
 by_cases ly:57<(((((l).drop 1).getD i 0).toNat:Nat):Int);refine I ?_;exact am (t:=2) (v:=.bool false) Z O q3 Z;refine I ?_;refine aa (ci (a:=(i:Int)) (b:=1) (c:=((i+1:Nat):Int)) Z Z JT U ?_);refine I ?_;exact bI ⟨i+1,rfl,rfl,U,(by first|exact nE G aj (JE aj aj)),O⟩;have E:((l).drop 1).all b8=true:=by rw[<-List.take_length (l:=(l).drop 1),show((l).drop 1).length=i by omega];exact G
 refine I ?_;refine aa (j2 (l:=(l).drop 1) (m:=((l).drop 1).length) U9 Z Z ?_);refine I ?_;by_cases cr:0<((((l).drop 1).length:Nat):Int);by_cases cw:((((l).drop 1).length:Nat):Int)<=200;refine I ?_;refine aa (dv (l:=(l).drop 1) U9 Z ?_);refine I ?_;refine aa (dv (l:=(l).drop 1) U9 Z ?_);refine I ?_;refine rH (b:=[48]) (I ?_);have od:=dp (l:=(l).drop 1) (i:=0) U;refine aa (im (l:=(l).drop 1) (i:=0) (c:=(((l).drop 1).getD 0 0)) U9 Z Z od ?_);refine I ?_;exact am (t:=2) (v:=.bool (!decide ((((((l).drop 1).getD 0 0).toNat:Nat):Int)=48))) Z O q3 Z;refine I ?_;refine aa (dv (l:=(l).drop 1) U9 Z ?_);refine I ?_;refine aa (dv (l:=(l).drop 1) U9 Z ?_);refine I ?_
 exact am (t:=2) (v:=.bool false) Z O q3 Z;refine I ?_;refine aa (dv (l:=(l).drop 1) U9 Z ?_);refine I ?_;exact am (t:=2) (v:=.bool false) Z O q3 Z;have hb:=EA (dp U) lr;refine I ?_;have hlD:(l).length<=1000000:=by first|omega|(simp;omega)
 have Aq:=aa4 w;refine cg [(2,3),(16,31)] (λA0 e W=>∃i:Nat,((l).length-i=A0)/\(e 3=.int .i64 i)/\(i<=(l).length)/\(((l).take i).all b8=true)/\(aO w W)) ((l).length-0) ⟨0,rfl,rfl,(qa7 _),rfl,Aq⟩ ?_;rintro _ _ _ ⟨i,rfl,Aw,hi,G,H⟩;by_cases hlt:i<(l).length;refine I ?_;refine aa (j2 (l:=l) (m:=(l).length) U9 Z Z ?_);refine I ?_;by_cases cx:(((l.getD i 0).toNat:Nat):Int)<48;refine I ?_;have Ap:=dp (l:=l) (i:=(i)) U;refine aa (im (l:=l) (i:=(i)) (c:=(l.getD i 0)) U9 Z Z Ap ?_);refine I ?_;exact am (t:=2) (v:=.bool false) Z H q3 Z;refine I ?_;have Af:=dp (l:=l) (i:=(i)) U;refine aa (im (l:=l) (i:=(i)) (c:=(l.getD i 0)) U9 Z Z Af ?_);refine I ?_;have Ar:=dp (l:=l) (i:=(i)) U;refine aa (im (l:=l) (i:=(i)) (c:=(l.getD i 0)) U9 Z Z Ar ?_);refine I ?_;by_cases mq:57<(((l.getD i 0).toNat:Nat):Int);refine I ?_
 exact am (t:=2) (v:=.bool false) Z H q3 Z;refine I ?_;refine aa (ci (a:=(i:Int)) (b:=1) (c:=((i+1:Nat):Int)) Z Z JT U ?_);refine I ?_;exact bI ⟨i+1,rfl,rfl,U,(by first|exact nE G aj (JE aj aj)),H⟩;have E:(l).all b8=true:=by rw[<-List.take_length (l:=l),show(l).length=i by omega];exact G
 refine I ?_;refine aa (j2 (l:=l) (m:=(l).length) U9 Z Z ?_);refine I ?_;by_cases cm:(((l).length:Nat):Int)<=200;by_cases cy:l=([48]);refine I ?_;refine aa (dv (l:=l) U9 Z ?_);refine I ?_;refine aa (dv (l:=l) U9 Z ?_);refine I ?_;refine rH (b:=[48]) (I ?_);exact am (t:=2) (v:=.bool true) Z H q3 Z;refine I ?_;refine aa (dv (l:=l) U9 Z ?_);refine I ?_;refine aa (dv (l:=l) U9 Z ?_);refine I ?_;refine rH (b:=[48]) (I ?_);have As:=dp (l:=l) (i:=0) U;refine aa (im (l:=l) (i:=0) (c:=(l.getD 0 0)) U9 Z Z As ?_);refine I ?_;exact am (t:=2) (v:=.bool (!decide ((((l.getD 0 0).toNat:Nat):Int)=48))) Z H q3 Z;refine I ?_
 refine aa (dv (l:=l) U9 Z ?_);refine I ?_;refine aa (dv (l:=l) U9 Z ?_);refine I ?_;exact am (t:=2) (v:=.bool false) Z H q3 Z;have hb:=JD cf;refine I ?_;refine aa (dv (l:=l) U9 Z ?_);refine I ?_;have hlD:(l).length<=1000000:=by first|omega|(simp;omega)
 have wr:=aa4 w;refine cg [(2,3),(16,31)] (λA0 e W=>∃i:Nat,((l).length-i=A0)/\(e 3=.int .i64 i)/\(i<=(l).length)/\(((l).take i).all b8=true)/\(aO w W)) ((l).length-0) ⟨0,rfl,rfl,(qa7 _),rfl,wr⟩ ?_;rintro _ _ _ ⟨i,rfl,Ay,hi,G,nm⟩;by_cases hlt:i<(l).length;exact absurd hlt U;have E:(l).all b8=true:=by rw[<-List.take_length (l:=l),show(l).length=i by omega];exact G
 refine I ?_;refine aa (j2 (l:=l) (m:=(l).length) U9 Z Z ?_);refine I ?_;refine aa (dv (l:=l) U9 Z ?_);refine I ?_;exact am (t:=2) (v:=.bool false) Z nm q3 Z
set_option maxRecDepth 100000
def kJ (h:isInt l=true):0<l.length/\l.length<=201:=by
 have h1:=kG (em h)
 cases hn:neg l with
 |true=>have:=tQ hn;rw[this];simp;omega
 |false=>rw[o4 hn]at h1;omega
def ui (d:List UInt8):ew (d.drop (d.length-0))=[]:=by simp[ew]
def pm (hd:ec d=true)(h:k=d.length/\¬d=[48]\/k=0/\d=[48]):ew (d.drop (d.length-k))=ao 10 (aE d):=by
 rcases h with⟨rfl,h⟩|⟨rfl,rfl⟩
 · rw[Nat.sub_self,List.drop_zero];exact zF hd h
 · rfl
def x6 (h:d.all b8=true)(hi:i<d.length):48<=(d.getD i 0).toNat/\(d.getD i 0).toNat<=57:=by
 have hc:=dp hi
 have:=List.all_eq_true.1 h _ (List.mem_iff_getElem?.2 ⟨i,hc⟩)
 simpa[b8]using this
def qG {v:Value}(h:w.ownsRow base 3 1 v n (ints xs))(hx:xs=ao 10 a):∃A c,v=.slice A n c/\Dg w base A n c a:=by
 subst hx
 obtain⟨A,c,rfl,hc,-⟩:=eM h
 refine⟨A,c,rfl,aa8 h,?_,hc⟩
 have:=h.1
 rw[iX]at this;omega
def Xe (l:List UInt8):List Value:=l.map λb=>Value.int .u8 b.toNat
def uj (hn:X.length=n)(hk:k<n):cK (X.drop (n-(k+1)))=cK (X.drop (n-k))++[UInt8.ofNat (48+X.getD (n-1-k) 0)]:=by
 have h1:X.drop (n-(k+1))=X.getD (n-(k+1)) 0::X.drop (n-(k+1)+1):=drop_at U
 rw[h1,show n-(k+1)+1=n-k by omega,show n-(k+1)=n-1-k by omega]
 simp[cK]
def wD {d:Nat}(h:d<10):(((UInt8.ofNat (48+d)).toNat:Nat):Int)=48+(d:Int):=by
 have e:(UInt8.ofNat (48+d)).toNat=48+d:=by rw[UInt8.toNat_ofNat'];omega
 rw[e];omega
def jv (h:∀x∈xs,x<10)(i:Nat):xs.getD i 0<10:=by
 rcases Nat.lt_or_ge i xs.length with hi|hi
 · have E:xs[i]? =some xs[i]:=qa5 hi
   rw[List.getD,E];exact h _ (List.getElem_mem hi)
 · rw[lu hi];omega
def rJ (ng:Bool)(a:Nat):List UInt8:=if a=0 then[48]else if ng then 45::bo a else bo a
def vJ (a:Nat):Bool:=decide (a=0)||decide ((ao 10 a).length<=200)
def JF (h:a=0):Value.tuple #[S [48],.bool true]=.tuple #[S (rJ ng a),.bool (vJ a)]:=by subst h;rfl
def EB (h:0<a)(hn:(ao 10 a).length=n)(hl:l=(if ng then[45]else[])++cK (ao 10 a)):Value.tuple #[S l,.bool (decide ((n:Int)<=200))]=.tuple #[S (rJ ng a),.bool (vJ a)]:=by
 have G:rJ ng a=l:=by
  have E:¬a=0:=J
  unfold rJ bo
  rw[if_neg E,if_neg E,hl]
  cases ng <;>rfl
 have e2:vJ a=decide ((n:Int)<=200):=by
  have E:¬a=0:=J
  unfold vJ;rw[hn,decide_eq_false E,Bool.false_or,decide_eq_decide];omega
 rw[G,e2]
def EC (B:Nat)(xs:List Nat)(h:j<xs.length):bO B xs=bO B (xs.take j)+B^j*(xs.getD j 0+B*bO B (xs.drop (j+1))):=by
 conv=>lhs;rw[<-List.take_append_drop j xs]
 rw[b7,List.length_take,Nat.min_eq_left U,drop_at h]
 rfl
def wE (hn:X.length=n)(hm:Y.length=n)(h:∀i,j<=i->i<n->X.getD i 0=Y.getD i 0):X.drop j=Y.drop j:=by
 apply List.ext_getElem?
 intro i
 rw[List.getElem?_drop,List.getElem?_drop]
 by_cases hi:j+i<n
 · have:=h (j+i) U hi
   rw[List.getD,List.getD,List.getElem?_eq_getElem U,List.getElem?_eq_getElem U]at this
   rw[List.getElem?_eq_getElem U,List.getElem?_eq_getElem U]
   exact qb2 some this
 · rw[List.getElem?_eq_none U,List.getElem?_eq_none U]
def JG (hX:∀d∈X,d<10)(hn:X.length=n)(hm:Y.length=n)(hj:j<n)(h:∀i,j+1<=i->i<n->X.getD i 0=Y.getD i 0)(hl:X.getD j 0<Y.getD j 0):bO 10 X<bO 10 Y:=by
 rw[EC 10 X (show j<X.length by omega),EC 10 Y (show j<Y.length by omega),wE (n:=n) (j:=j+1) hn hm h]
 have h1:bO 10 (X.take j)<10^j:=by
  have:=lg 10 (X.take j) (λd hd=>hX d (List.mem_of_mem_take hd))
  rwa [List.length_take,Nat.min_eq_left U]at this
 have h2:10^j*(X.getD j 0+10*bO 10 (Y.drop (j+1))+1)<=10^j*(Y.getD j 0+10*bO 10 (Y.drop (j+1))):=Nat.mul_le_mul_left _ U
 rw[Nat.mul_add,Nat.mul_one]at h2
 omega
section
def zZ (h1:(ao 10 a).length=n1)(h2:(ao 10 b).length=n2)(h:n1<n2):a<b:=by
 rcases Nat.lt_or_ge a b with h3|h3
 · exact h3
 · have:=ek (B:=10) U h3;omega
def uk (h1:(ao 10 a).length=n1)(h2:(ao 10 b).length=n2)(h:n1<n2):(-1:Int)=aN (a:Int) (b:Int):=by
 rw[fV];have:=zZ h1 h2 h;omega
def ul (h1:(ao 10 a).length=n1)(h2:(ao 10 b).length=n2)(h:n2<n1):(1:Int)=aN (a:Int) (b:Int):=by
 rw[eK];have:=zZ h2 h1 h;omega
def pn (h1:(ao 10 a).length=n1)(h2:(ao 10 b).length=n2)(hn:n1=n2)(hk:k<n1)(h:∀i,n1-k<=i->i<n1->(ao 10 a).getD i 0=(ao 10 b).getD i 0)(hl:(ao 10 a).getD (n1-1-k) 0<(ao 10 b).getD (n1-1-k) 0):(-1:Int)=aN (a:Int) (b:Int):=by
 subst hn
 have:=JG (eH 10 U a) h1 h2 (j:=n1-1-k) U (λi _=>h i U) hl
 rw[cD 10 U,cD 10 U]at this
 rw[fV];omega
def po (h1:(ao 10 a).length=n1)(h2:(ao 10 b).length=n2)(hn:n1=n2)(hk:k<n1)(h:∀i,n1-k<=i->i<n1->(ao 10 a).getD i 0=(ao 10 b).getD i 0)(hl:(ao 10 b).getD (n1-1-k) 0<(ao 10 a).getD (n1-1-k) 0):(1:Int)=aN (a:Int) (b:Int):=by
 subst hn
 have:=JG (eH 10 U b) h2 h1 (j:=n1-1-k) U (λi _ E=>(h i U E).symm) hl
 rw[cD 10 U,cD 10 U]at this
 rw[eK];omega
def um (h1:(ao 10 a).length=n1)(h2:(ao 10 b).length=n2)(hn:n1=n2)(h:∀i,i<n1->(ao 10 a).getD i 0=(ao 10 b).getD i 0):(0:Int)=aN (a:Int) (b:Int):=by
 subst hn
 have e:=wE (j:=0) h1 h2 (λi _ hi=>h i hi)
 simp only[List.drop_zero]at e
 have:=qb2 (bO 10) e
 rw[cD 10 U,cD 10 U]at this
 rw[jp];omega
end
def eA (l:List UInt8)(w:World)(h:isInt l=true):
 CL 177 #[S l] w (aG w λv w'=>∃A n c,v=.tuple #[.bool (neg l),.slice A n c]/\Dg w' w.heap.size A n c (aE (body l))):=by
 have hl:=kJ h;have Ap:=em h;refine aC func177 Z (I ?_);have CG:=dp (l:=l) (i:=0) U;refine aa (im (l:=l) (i:=0) (c:=(l.getD 0 0)) U9 Z Z CG ?_);refine I ?_;by_cases cw:(((l.getD 0 0).toNat:Nat):Int)=45;have hb:=zX (dp U) cw;have Ab:neg l=true:=hb.1;have hD:ec ((l).drop 1)=true:=by rw[<-hb.2];exact Ap
 have hlD:=kG hD;have hdD:=jG hD;have hvD:aE (body l)=aE ((l).drop 1):=by rw[hb.2]
 refine I ?_;refine aa (mc (l:=l) (i:=1) (j:=(l).length) U9 Z (.inr ⟨_,qb2 some Z⟩) (.inl ⟨rfl,rfl⟩) U U ?_);rw[show((l).take ((l).length)).drop 1=(l).drop 1 by rw[List.take_length]];refine I ?_;refine aa (dv (l:=(l).drop 1) U9 Z ?_);refine oE (I ?_);have Af:World.ownsRow w w.heap.size 3 1 (.slice none 0 0) 0 (ints (ew (((l).drop 1).drop (((l).drop 1).length-0)))):=by rw[ui];exact bK
 have B1:=aa4 w;refine cg [(5,6),(16,31)] (λAm e W=>∃k:Nat,∃G:Value,(((l).drop 1).length-k=Am)/\(e 6=.int .i64 (((((l).drop 1).length:Nat):Int)-1-(k:Int)))/\(e 5=G)/\(k<=((l).drop 1).length)/\((l).drop 1=[48]->k=0)/\(aO w W)/\(W.ownsRow w.heap.size 3 1 G k (ints (ew (((l).drop 1).drop (((l).drop 1).length-k)))))) (((l).drop 1).length-0) ⟨0,.slice none 0 0,rfl,(qb2 (Value.int .i64) U),rfl,(qa7 _),(λ_=>rfl),B1,Af⟩ ?_;rintro _ _ _ ⟨k,G,rfl,E1,Az,hk,h4,H,ho⟩;have E4:=bz H;by_cases h48:(l).drop 1=[48];by_cases hlt:k<((l).drop 1).length;obtain⟨Ao,E,rfl,A0⟩:=qG ho (pm hD DE);refine I ?_;refine aa (s7 (a:=(l).drop 1) (b:=[48]) (q:=false) Z Z (by rw[decide_eq_true h48];rfl) ?_);refine I ?_;exact bu (t:=2) (u:=3) (v1:=.bool (decide ((((l.getD 0 0).toNat:Nat):Int)=45))) (v2:=.slice Ao k E) Z H ⟨Ao,k,E,by rw[Ab,decide_eq_true CA],by rw[hvD];exact A0⟩ Z Z;exfalso;have CB:=h4 h48;have E0:((l).drop 1).length=1:=by rw[h48];rfl
 omega;by_cases hlt:k<((l).drop 1).length;have hlD1:=hlD.1;refine I ?_;refine aa (s7 (a:=(l).drop 1) (b:=[48]) (q:=true) Z Z (by rw[decide_eq_false h48];rfl) ?_);refine I ?_;refine aa (aW (v:=G) Az ?_);refine I ?_;have nm:=dp (l:=(l).drop 1) (i:=((l).drop 1).length-1-k) U;refine aa (im (l:=(l).drop 1) (i:=((l).drop 1).length-1-k) (c:=(((l).drop 1).getD (((l).drop 1).length-1-k) 0)) U9 Z (dw Z U) nm ?_);refine aa (IL (k:=.u8) (a:=(((((l).drop 1).getD (((l).drop 1).length-1-k) 0).toNat:Nat):Int)) (b:=48) (c:=(((((l).drop 1).getD (((l).drop 1).length-1-k) 0).toNat-48:Nat):Int)) Z Z (by have:=x6 hdD (i:=((l).drop 1).length-1-k) U;rw[wrap_u8 U];omega) ?_);refine aa (fU (k:=.u8) (k':=.i64) (a:=(((((l).drop 1).getD (((l).drop 1).length-1-k) 0).toNat-48:Nat):Int)) (c:=(((((l).drop 1).getD (((l).drop 1).length-1-k) 0).toNat-48:Nat):Int)) U5 U3 Z (by have:=x6 hdD (i:=((l).drop 1).length-1-k) U;rw[wrap_i64 U]) ?_);refine BS (λ_ Av _ C1=>?_);have ho:=ab Av ho;have H:=xt H Av;refine AP ho (aa8 C1) (λAq _ Aw B2 _=>?_);have H:=bm ho U U H B2;refine aa (aK (v:=Aq) Z ?_);refine I ?_
 refine aa (jk (a:=((((l).drop 1).length:Nat):Int)-1-(k:Int)) (b:=1) (c:=((((l).drop 1).length:Nat):Int)-1-((k+1:Nat):Int)) Z Z JT U ?_);refine I ?_;exact bI ⟨k+1,Aq,rfl,rfl,rfl,U,(λh=>absurd h h48),H,(aM Aw Z (by rw[<-zY (dp U) U,mw];rfl))⟩;obtain⟨Ao,E,rfl,A0⟩:=qG ho (pm hD DE);refine I ?_;exact bu (t:=2) (u:=3) (v1:=.bool (decide ((((l.getD 0 0).toNat:Nat):Int)=45))) (v2:=.slice Ao k E) Z H ⟨Ao,k,E,by rw[Ab,decide_eq_true CA],by rw[hvD];exact A0⟩ Z Z;have hb:=EA (dp U) cw;have Ab:neg l=false:=hb.1;have hD:ec l=true:=by rw[<-hb.2];exact Ap
 have hlD:=kG hD;have hdD:=jG hD;have hvD:aE (body l)=aE (l):=by rw[hb.2]
 refine I ?_;refine aa (dv (l:=l) U9 Z ?_);refine oE (I ?_);have Af:World.ownsRow w w.heap.size 3 1 (.slice none 0 0) 0 (ints (ew ((l).drop ((l).length-0)))):=by rw[ui];exact bK
 have Ax:=aa4 w;refine cg [(5,6),(16,31)] (λAm e W=>∃k:Nat,∃G:Value,((l).length-k=Am)/\(e 6=.int .i64 ((((l).length:Nat):Int)-1-(k:Int)))/\(e 5=G)/\(k<=(l).length)/\(l=[48]->k=0)/\(aO w W)/\(W.ownsRow w.heap.size 3 1 G k (ints (ew ((l).drop ((l).length-k)))))) ((l).length-0) ⟨0,.slice none 0 0,rfl,(qb2 (Value.int .i64) U),rfl,(qa7 _),(λ_=>rfl),Ax,Af⟩ ?_;rintro _ _ _ ⟨k,G,rfl,E5,Cr,hk,h4,O,ho⟩;have E6:=bz O;by_cases h48:l=[48];by_cases hlt:k<(l).length;obtain⟨Ao,E,rfl,A0⟩:=qG ho (pm hD DM);refine I ?_;refine aa (s7 (a:=l) (b:=[48]) (q:=false) Z Z (by rw[decide_eq_true h48];rfl) ?_);refine I ?_;exact bu (t:=2) (u:=3) (v1:=.bool (decide ((((l.getD 0 0).toNat:Nat):Int)=45))) (v2:=.slice Ao k E) Z O ⟨Ao,k,E,by rw[Ab,decide_eq_false CA],by rw[hvD];exact A0⟩ Z Z;exfalso;have CB:=h4 h48;have E0:(l).length=1:=by rw[h48];rfl
 omega;by_cases hlt:k<(l).length;have hlD1:=hlD.1;refine I ?_;refine aa (s7 (a:=l) (b:=[48]) (q:=true) Z Z (by rw[decide_eq_false h48];rfl) ?_);refine I ?_;refine aa (aW (v:=G) Cr ?_);refine I ?_;have CY:=dp (l:=l) (i:=(l).length-1-k) U;refine aa (im (l:=l) (i:=(l).length-1-k) (c:=(l.getD ((l).length-1-k) 0)) U9 Z (dw Z U) CY ?_);refine aa (IL (k:=.u8) (a:=(((l.getD ((l).length-1-k) 0).toNat:Nat):Int)) (b:=48) (c:=((((l).getD ((l).length-1-k) 0).toNat-48:Nat):Int)) Z Z (by have:=x6 hdD (i:=(l).length-1-k) U;rw[wrap_u8 U];omega) ?_);refine aa (fU (k:=.u8) (k':=.i64) (a:=((((l).getD ((l).length-1-k) 0).toNat-48:Nat):Int)) (c:=((((l).getD ((l).length-1-k) 0).toNat-48:Nat):Int)) U5 U3 Z (by have:=x6 hdD (i:=(l).length-1-k) U;rw[wrap_i64 U]) ?_);refine BS (λ_ Ar _ ny=>?_);have ho:=ab Ar ho;have O:=xt O Ar;refine AP ho (aa8 ny) (λAs _ od Ay _=>?_);have O:=bm ho U U O Ay;refine aa (aK (v:=As) Z ?_);refine I ?_;refine aa (jk (a:=(((l).length:Nat):Int)-1-(k:Int)) (b:=1) (c:=(((l).length:Nat):Int)-1-((k+1:Nat):Int)) Z Z JT U ?_);refine I ?_
 exact bI ⟨k+1,As,rfl,rfl,rfl,U,(λh=>absurd h h48),O,(aM od Z (by rw[<-zY (dp U) U,mw];rfl))⟩;obtain⟨Ao,E,rfl,A0⟩:=qG ho (pm hD DM);refine I ?_;exact bu (t:=2) (u:=3) (v1:=.bool (decide ((((l.getD 0 0).toNat:Nat):Int)=45))) (v2:=.slice Ao k E) Z O ⟨Ao,k,E,by rw[Ab,decide_eq_false CA],by rw[hvD];exact A0⟩ Z Z
def kK (h1:Dg w lo1 A1 n1 c1 a)(s1:n1<=100000)(ng:Bool):
 CL 140 #[.bool ng,.slice A1 n1 c1] w (aG w λv w'=>v=.tuple #[S (rJ ng a),.bool (vJ a)]):=by
 have FR:=h1.len;refine aC func140 Z (I ?_);by_cases ly:(n1:Int)=0;have A0:a=0:=jo (B:=10) U (h1.len.trans U);refine I ?_;exact bu (t:=4) (u:=5) (v1:=S [48]) (v2:=.bool true) Z (aa4 _) (JF A0) Z Z;have A0:0<a:=mz (B:=10) U kb4;have O:World.ownsRow w w.heap.size 5 1 (.slice none 0 0) 0 (Xe []):=bK;refine I ?_;rcases qa4 ng with cr|cr;refine I ?_;refine BS (λ_ Aq _ E5=>?_);have O:=ab Aq O;have Af:=Aq;have H4:=bz Aq;refine AP O (aa8 E5) (λAx _ CG nm _=>?_);have Af:=bm O U U Af nm;refine aa (aK (v:=Ax) Z ?_);refine I ?_;refine oE (I ?_);refine cg [(6,7),(18,30)] (λAp e W=>∃k:Nat,∃E:Value,(n1-k=Ap)/\(e 7=.int .i64 ((n1:Int)-1-(k:Int)))/\(e 6=E)/\(k<=n1)/\(aO w W)/\(W.ownsRow w.heap.size 5 1 E (k+1) (Xe ([45]++cK ((ao 10 a).drop (n1-k)))))) (n1-0) ⟨0,Ax,rfl,(qb2 (Value.int .i64) U),rfl,(qa7 _),Af,(aM CG Wf (by rw[Nat.sub_zero,List.drop_eq_nil_of_le U];rfl))⟩ ?_;rintro _ _ _ ⟨k,E,rfl,H3,E6,hk,G,ho⟩;have G0:=bz G;by_cases hlt:k<n1;have E0:=jv h1.lt (n1-1-k);refine I ?_;refine aa (aW (v:=E) E6 ?_)
 refine I ?_;obtain⟨B1,Aw,E9,CY⟩:=((h1.row).ext G).cells (n1-1-k) _ (bE (xs:=(ao 10 a)) U);refine aa (aB (i:=n1-1-k) (oo:=Aw+(n1-1-k)) ks iT Z E9 (dw Z U) U Nd ?_);refine aa (bB (v:=.int .i64 (((ao 10 a).getD (n1-1-k) 0:Nat):Int)) (b:=B1) (o:=Aw+(n1-1-k)) U3 Z Z CY ?_);refine gP ?_;refine aa (fU (k:=.i64) (k':=.u8) (a:=48+((((ao 10 a).getD (n1-1-k) 0):Nat):Int)) (c:=(((UInt8.ofNat (48+((ao 10 a).getD (n1-1-k) 0))).toNat:Nat):Int)) U3 U5 Z kb0 ?_);refine BS (λ_ As _ wr=>?_);have ho:=ab As ho;have G:=xt G As;refine AP ho (aa8 wr) (λAr _ Cr ES _=>?_);have G:=bm ho U U G ES;refine aa (aK (v:=Ar) Z ?_);refine I ?_;refine aa (jk (a:=(n1:Int)-1-(k:Int)) (b:=1) (c:=(n1:Int)-1-((k+1:Nat):Int)) Z Z JT U ?_);refine I ?_;exact bI ⟨k+1,Ar,rfl,rfl,rfl,U,G,(aM Cr U (by rw[uj h1.len U];simp[Xe]))⟩;obtain⟨Ao,Ab,rfl,E4,-⟩:=eM ho;have Am:([45]++cK ((ao 10 a).drop (n1-k)))=(if true=true then[45]else[])++cK (ao 10 a):=by rw[show n1-k=0 by omega,List.drop_zero];rfl
 refine I ?_;refine aa (QO (l:=[45]++cK ((ao 10 a).drop (n1-k))) (A:=Ao) (m:=(k+1)) (c:=Ab) VG U5 U9 Z (aa8 ho) (by simp[cI];rw[h1.len];omega) ?_);refine I ?_;exact bu (t:=4) (u:=5) (v1:=S ([45]++cK ((ao 10 a).drop (n1-k)))) (v2:=.bool (decide ((n1:Int)<=200))) Z G (EB (ng:=ng) A0 h1.len (by rw[cr];exact Am)) Z Z;refine I ?_;refine oE (I ?_);have E7:=aa4 w;refine cg [(6,7),(18,30)] (λAp e W=>∃k:Nat,∃E:Value,(n1-k=Ap)/\(e 7=.int .i64 ((n1:Int)-1-(k:Int)))/\(e 6=E)/\(k<=n1)/\(aO w W)/\(W.ownsRow w.heap.size 5 1 E (k+0) (Xe (cK ((ao 10 a).drop (n1-k)))))) (n1-0) ⟨0,.slice none 0 0,rfl,(qb2 (Value.int .i64) U),rfl,(qa7 _),E7,(aM O Wf (by rw[Nat.sub_zero,List.drop_eq_nil_of_le U];rfl))⟩ ?_;rintro _ _ _ ⟨k,E,rfl,GC,ny,hk,H,ho⟩;have H2:=bz H;by_cases hlt:k<n1;have E0:=jv h1.lt (n1-1-k);refine I ?_;refine aa (aW (v:=E) ny ?_);refine I ?_;obtain⟨od,Ay,E1,B2⟩:=((h1.row).ext H).cells (n1-1-k) _ (bE (xs:=(ao 10 a)) U);refine aa (aB (i:=n1-1-k) (oo:=Ay+(n1-1-k)) ks iT Z E1 (dw Z U) U Nd ?_);refine aa (bB (v:=.int .i64 (((ao 10 a).getD (n1-1-k) 0:Nat):Int)) (b:=od) (o:=Ay+(n1-1-k)) U3 Z Z B2 ?_);refine gP ?_
 refine aa (fU (k:=.i64) (k':=.u8) (a:=48+((((ao 10 a).getD (n1-1-k) 0):Nat):Int)) (c:=(((UInt8.ofNat (48+((ao 10 a).getD (n1-1-k) 0))).toNat:Nat):Int)) U3 U5 Z kb0 ?_);refine BS (λ_ Az _ CB=>?_);have ho:=ab Az ho;have H:=xt H Az;refine AP ho (aa8 CB) (λAv _ EW C1 _=>?_);have H:=bm ho U U H C1;refine aa (aK (v:=Av) Z ?_);refine I ?_;refine aa (jk (a:=(n1:Int)-1-(k:Int)) (b:=1) (c:=(n1:Int)-1-((k+1:Nat):Int)) Z Z JT U ?_);refine I ?_;exact bI ⟨k+1,Av,rfl,rfl,rfl,U,H,(aM EW U (by rw[uj h1.len U];simp[Xe]))⟩;obtain⟨Ao,Ab,rfl,E4,-⟩:=eM ho;have Am:(cK ((ao 10 a).drop (n1-k)))=(if false=true then[45]else[])++cK (ao 10 a):=by rw[show n1-k=0 by omega,List.drop_zero];rfl
 refine I ?_;refine aa (QO (l:=cK ((ao 10 a).drop (n1-k))) (A:=Ao) (m:=(k+0)) (c:=Ab) VG U5 U9 Z (aa8 ho) (by simp[cI];rw[h1.len];omega) ?_);refine I ?_;exact bu (t:=4) (u:=5) (v1:=S (cK ((ao 10 a).drop (n1-k)))) (v2:=.bool (decide ((n1:Int)<=200))) Z H (EB (ng:=ng) A0 h1.len (by rw[cr];exact Am)) Z Z
def qH {c lo:Nat}(hr:Rw w lo A (ints xs))(hn:xs.length=n)(hc:n<=c)(hb:n<=1000000):
 CL 217 #[.slice A n c] w (aG w λv w'=>∃m,v=.slice A m c/\dz xs=xs.take m/\m<=n):=by
 refine aC func217 Z (I ?_);have Ap:=aa4 w;refine cg [(0,0),(3,19)] (λAb e W=>∃m:Nat,(m=Ab)/\(e 0=.slice A m c)/\(m<=n)/\(dz xs=dz (xs.take m))/\(aO w W)) (n) ⟨n,rfl,rfl,(qa0 _),(by rw[List.take_of_length_le U]),Ap⟩ ?_;rintro _ _ _ ⟨m,rfl,As,q1,G,E⟩;by_cases hm:0<m;by_cases hz:xs.getD (m-1) 0=0;refine I ?_;refine oE (I ?_);obtain⟨A0,O,Ar,Am⟩:=((hr).ext E).cells (m-1) _ (bE (xs:=xs) U);refine aa (aB (i:=m-1) (oo:=O+(m-1)) ks iT Z Ar (dw Z U) U Nd ?_);refine I ?_;refine aa (bB (v:=.int .i64 ((xs.getD (m-1) 0:Nat):Int)) (b:=A0) (o:=O+(m-1)) U3 Z Z Am ?_);refine I ?_;refine oE ?_;refine aa (oL (j:=m-1) ks iT Z (dw Z U) U ?_);refine I ?_;exact bI ⟨m-1,rfl,rfl,U,(G.trans (wn (n:=n) U hz)),E⟩;refine I ?_;refine oE (I ?_);obtain⟨Af,H,Ao,Aq⟩:=((hr).ext E).cells (m-1) _ (bE (xs:=xs) U);refine aa (aB (i:=m-1) (oo:=H+(m-1)) ks iT Z Ao (dw Z U) U Nd ?_);refine I ?_;refine aa (bB (v:=.int .i64 ((xs.getD (m-1) 0:Nat):Int)) (b:=Af) (o:=H+(m-1)) U3 Z Z Aq ?_);refine I ?_
 exact am (t:=2) (v:=.slice A m c) Z E ⟨m,rfl,G.trans (mP (n:=n) U DA),by omega⟩ Z;refine I ?_;exact am (t:=2) (v:=.slice A m c) Z E ⟨m,rfl,G.trans (mP (n:=n) U DA),by omega⟩ Z
def jK (h1:Dg w lo1 A1 n1 c1 a)(s1:n1<=100000)(h2:Dg w lo2 A2 n2 c2 b)(s2:n2<=100000):
 CL 178 #[.slice A1 n1 c1,.slice A2 n2 c2] w (aG w λv w'=>v=.int .i64 (aN (a:Int) (b:Int))):=by
 have K2:=h1.len;have e2:=h2.len;refine aC func178 Z (I ?_);by_cases p6:(n1:Int)=(n2:Int);have K3:n1=n2:=J
 refine I ?_;refine oE (I ?_);have EW:=aa4 w;refine cg [(4,5),(19,40)] (λH2 e W=>∃k:Nat,(n1-k=H2)/\(e 5=.int .i64 ((n1:Int)-1-(k:Int)))/\(k<=n1)/\(∀i,n1-k<=i->i<n1->(ao 10 a).getD i 0=(ao 10 b).getD i 0)/\(aO w W)) (n1-0) ⟨0,rfl,(qb2 (Value.int .i64) U),(qa7 _),(λi h1 h2=>by omega),EW⟩ ?_;rintro _ _ _ ⟨k,rfl,KC,q1,G,E⟩;by_cases hlt:k<n1;by_cases he:(ao 10 a).getD (n1-1-k) 0=(ao 10 b).getD (n1-1-k) 0;have Ax:n1-1-k<n1:=J
 obtain⟨E7,C1,E9,Aq⟩:=((h1.row).ext E).cells (n1-1-k) _ (bE (xs:=(ao 10 a)) U);obtain⟨E1,Aw,E6,Ar⟩:=((h2.row).ext E).cells (n1-1-k) _ (bE (xs:=(ao 10 b)) U);refine I ?_;refine bL 8 ?_;refine sf ?_;refine aA (λ_ _ _ _=>by refine aa (aB (i:=n1-1-k) (oo:=C1+(n1-1-k)) ks iT Z E9 (dw Z U) U Nd ?_);refine I ?_;exact aH) ?_;refine aA (λ_ _ G0 _=>by have Aq:=Cf.ext G0 Aq;refine aa (bB (v:=.int .i64 (((ao 10 a).getD (n1-1-k) 0:Nat):Int)) (b:=E7) (o:=C1+(n1-1-k)) U3 Z Z Aq ?_);refine I ?_;exact aH) ?_;refine sf ?_;refine aA (λ_ _ _ _=>by refine aa (aB (i:=n1-1-k) (oo:=Aw+(n1-1-k)) ks iT Z E6 (dw Z U) U Nd ?_);refine I ?_;exact aH) ?_;refine aA (λ_ _ FR _=>by have Ar:=Cf.ext FR Ar;refine aa (bB (v:=.int .i64 (((ao 10 b).getD (n1-1-k) 0:Nat):Int)) (b:=E1) (o:=Aw+(n1-1-k)) U3 Z Z Ar ?_);refine I ?_;exact aH) ?_;refine sf ?_;intro _ _ CY _;have E:=xt E CY.2;refine I ?_;refine aa (jk (a:=(n1:Int)-1-(k:Int)) (b:=1) (c:=(n1:Int)-1-((k+1:Nat):Int)) Z Z JT U ?_);refine I ?_;exact bI ⟨k+1,rfl,rfl,U,(λi hi h=>by by_cases hik:i=n1-1-k;subst hik;omega;exact G i U h),E⟩
 by_cases hl:(ao 10 a).getD (n1-1-k) 0<(ao 10 b).getD (n1-1-k) 0;have Ax:n1-1-k<n1:=J
 obtain⟨Ay,Af,Av,H⟩:=((h1.row).ext E).cells (n1-1-k) _ (bE (xs:=(ao 10 a)) U);obtain⟨CG,Am,Az,A0⟩:=((h2.row).ext E).cells (n1-1-k) _ (bE (xs:=(ao 10 b)) U);refine I ?_;refine bL 8 ?_;refine sf ?_;refine aA (λ_ _ _ _=>by refine aa (aB (i:=n1-1-k) (oo:=Af+(n1-1-k)) ks iT Z Av (dw Z U) U Nd ?_);refine I ?_;exact aH) ?_;refine aA (λ_ _ E5 _=>by have H:=Cf.ext E5 H;refine aa (bB (v:=.int .i64 (((ao 10 a).getD (n1-1-k) 0:Nat):Int)) (b:=Ay) (o:=Af+(n1-1-k)) U3 Z Z H ?_);refine I ?_;exact aH) ?_;refine sf ?_;refine aA (λ_ _ _ _=>by refine aa (aB (i:=n1-1-k) (oo:=Am+(n1-1-k)) ks iT Z Az (dw Z U) U Nd ?_);refine I ?_;exact aH) ?_;refine aA (λ_ _ Cr _=>by have A0:=Cf.ext Cr A0;refine aa (bB (v:=.int .i64 (((ao 10 b).getD (n1-1-k) 0:Nat):Int)) (b:=CG) (o:=Am+(n1-1-k)) U3 Z Z A0 ?_);refine I ?_;exact aH) ?_;refine sf ?_;intro _ _ As _;have H:=Cf.ext As.2 H;have A0:=Cf.ext As.2 A0;have E:=xt E As.2;refine I ?_;refine bL 8 ?_;refine sf ?_;refine aA (λ_ _ _ _=>by refine aa (aB (i:=n1-1-k) (oo:=Af+(n1-1-k)) ks iT Z Av (dw Z U) U Nd ?_);refine I ?_;exact aH) ?_
 refine aA (λ_ _ H4 _=>by have H:=Cf.ext H4 H;refine aa (bB (v:=.int .i64 (((ao 10 a).getD (n1-1-k) 0:Nat):Int)) (b:=Ay) (o:=Af+(n1-1-k)) U3 Z Z H ?_);refine I ?_;exact aH) ?_;refine sf ?_;refine aA (λ_ _ _ _=>by refine aa (aB (i:=n1-1-k) (oo:=Am+(n1-1-k)) ks iT Z Az (dw Z U) U Nd ?_);refine I ?_;exact aH) ?_;refine aA (λ_ _ H3 _=>by have A0:=Cf.ext H3 A0;refine aa (bB (v:=.int .i64 (((ao 10 b).getD (n1-1-k) 0:Nat):Int)) (b:=CG) (o:=Am+(n1-1-k)) U3 Z Z A0 ?_);refine I ?_;exact aH) ?_;refine sf ?_;intro _ _ ny _;have E:=xt E ny.2;refine I ?_;exact am (t:=4) (v:=.int .i64 (-1)) Z E (qb2 (Value.int .i64) WD) Z;have Ax:n1-1-k<n1:=J
 obtain⟨B2,Ao,B1,O⟩:=((h1.row).ext E).cells (n1-1-k) _ (bE (xs:=(ao 10 a)) U);obtain⟨nm,Ap,CB,Ab⟩:=((h2.row).ext E).cells (n1-1-k) _ (bE (xs:=(ao 10 b)) U);refine I ?_;refine bL 8 ?_;refine sf ?_;refine aA (λ_ _ _ _=>by refine aa (aB (i:=n1-1-k) (oo:=Ao+(n1-1-k)) ks iT Z B1 (dw Z U) U Nd ?_);refine I ?_;exact aH) ?_;refine aA (λ_ _ GC _=>by have O:=Cf.ext GC O;refine aa (bB (v:=.int .i64 (((ao 10 a).getD (n1-1-k) 0:Nat):Int)) (b:=B2) (o:=Ao+(n1-1-k)) U3 Z Z O ?_);refine I ?_;exact aH) ?_;refine sf ?_;refine aA (λ_ _ _ _=>by refine aa (aB (i:=n1-1-k) (oo:=Ap+(n1-1-k)) ks iT Z CB (dw Z U) U Nd ?_);refine I ?_;exact aH) ?_;refine aA (λ_ _ E4 _=>by have Ab:=Cf.ext E4 Ab;refine aa (bB (v:=.int .i64 (((ao 10 b).getD (n1-1-k) 0:Nat):Int)) (b:=nm) (o:=Ap+(n1-1-k)) U3 Z Z Ab ?_);refine I ?_;exact aH) ?_;refine sf ?_;intro _ _ od _;have O:=Cf.ext od.2 O;have Ab:=Cf.ext od.2 Ab;have E:=xt E od.2;refine I ?_;refine bL 8 ?_;refine sf ?_;refine aA (λ_ _ _ _=>by refine aa (aB (i:=n1-1-k) (oo:=Ao+(n1-1-k)) ks iT Z B1 (dw Z U) U Nd ?_);refine I ?_;exact aH) ?_
 refine aA (λ_ _ Ix _=>by have O:=Cf.ext Ix O;refine aa (bB (v:=.int .i64 (((ao 10 a).getD (n1-1-k) 0:Nat):Int)) (b:=B2) (o:=Ao+(n1-1-k)) U3 Z Z O ?_);refine I ?_;exact aH) ?_;refine sf ?_;refine aA (λ_ _ _ _=>by refine aa (aB (i:=n1-1-k) (oo:=Ap+(n1-1-k)) ks iT Z CB (dw Z U) U Nd ?_);refine I ?_;exact aH) ?_;refine aA (λ_ _ ES _=>by have Ab:=Cf.ext ES Ab;refine aa (bB (v:=.int .i64 (((ao 10 b).getD (n1-1-k) 0:Nat):Int)) (b:=nm) (o:=Ap+(n1-1-k)) U3 Z Z Ab ?_);refine I ?_;exact aH) ?_;refine sf ?_;intro _ _ E0 _;have E:=xt E E0.2;refine I ?_;exact am (t:=4) (v:=.int .i64 1) Z E (qb2 (Value.int .i64) WD) Z;refine I ?_;exact am (t:=4) (v:=.int .i64 0) Z E (qb2 (Value.int .i64) WD) Z;refine I ?_;by_cases apl:(n1:Int)<(n2:Int);refine I ?_
 exact am (t:=4) (v:=.int .i64 (-1)) Z (aa4 _) (qb2 (Value.int .i64) WD) Z;refine I ?_;exact am (t:=4) (v:=.int .i64 1) Z (aa4 _) (qb2 (Value.int .i64) WD) Z
end Go.Proofs.YtlmihmlnpjkblaaGreatDoor
def cS {xs:List Nat}{i:Nat}(h:xs.length<=i):xs.getD i 0=0:=by simp[List.getD,List.getElem?_eq_none h]
def eY (B:Nat)(xs:List Nat)(k:Nat):bO B (xs.take (k+1))=bO B (xs.take k)+B^k*xs.getD k 0:=by
 rcases Nat.lt_or_ge k xs.length with h|h
 · rw[List.take_succ_eq_append_getElem h,b7,List.length_take,Nat.min_eq_left J]
   simp[bO,List.getD,h]
 · rw[List.take_of_length_le J,List.take_of_length_le h,cS h];simp
def gF (X Y:List Nat):Nat->Nat×List Nat
 |0=>(0,[])
 |k+1=>(((gF X Y k).1+X.getD k 0+Y.getD k 0)/10,(gF X Y k).2++[((gF X Y k).1+X.getD k 0+Y.getD k 0)%10])
def x7 (X Y:List Nat):∀k,(gF X Y k).2.length=k
 |0=>rfl
 |k+1=>by simp[gF,x7 X Y k]
def JH (X Y:List Nat):∀k,∀d∈(gF X Y k).2,d<10
 |0=>by simp[gF]
 | k+1=>by
   intro d hd
   rcases List.mem_append.1 hd with h|h
   · exact JH X Y k d h
   · rw[List.mem_singleton.1 h];exact Nat.mod_lt _ J
def dt {X Y:List Nat}(hX:∀i,X.getD i 0<10)(hY:∀i,Y.getD i 0<10):∀k,(gF X Y k).1<=1
 |0=>by simp[gF]
 |k+1=>by have:=dt hX hY k;have:=hX k;have:=hY k;simp only[gF];omega
def x8 (X Y:List Nat):∀k,bO 10 (gF X Y k).2+10^k*(gF X Y k).1=bO 10 (X.take k)+bO 10 (Y.take k)
 |0=>by simp[gF,bO]
 | k+1=>by
   have ih:=x8 X Y k
   simp only[gF]
   rw[b7,x7,eY,eY,Nat.pow_succ]
   have E:=Nat.div_add_mod ((gF X Y k).1+X.getD k 0+Y.getD k 0) 10
   simp only[bO]
   generalize ((gF X Y k).1+X.getD k 0+Y.getD k 0)/10=u at *
   generalize ((gF X Y k).1+X.getD k 0+Y.getD k 0)%10=v at *
   generalize X.getD k 0=x at *
   generalize Y.getD k 0=y at *
   generalize (gF X Y k).1=c at *
   grind
def j8 {X Y:List Nat}{k:Nat}(hX:X.length<=k)(hY:Y.length<=k)(h:(gF X Y k).1<=1):(gF X Y (k+1)).1=0:=by
 simp only[gF,cS hX,cS hY];omega
def un {a k:Nat}(h:k<(ao 10 a).length):10^k<=a:=by
 rcases Nat.lt_or_ge a (10^k)with h1|h1
 · have:=(a7 10 J a k).2 h1;omega
 · exact h1
def Oe {a b n1 n2 k:Nat}(h1:(ao 10 a).length=n1)(h2:(ao 10 b).length=n2)(hk1:n1<=k)(hk2:n2<=k)(hc:(gF (ao 10 a) (ao 10 b) k).1=0)(hm:k<=max n1 n2\/k=max n1 n2+1/\0<(gF (ao 10 a) (ao 10 b) (max n1 n2)).1):(gF (ao 10 a) (ao 10 b) k).2=ao 10 (a+b):=by
 have hv:=x8 (ao 10 a) (ao 10 b) k
 rw[hc,Nat.mul_zero,Nat.add_zero,List.take_of_length_le J,List.take_of_length_le J,cD 10 J,cD 10 J]at hv
 have O:=x7 (ao 10 a) (ao 10 b) k
 have hlt:=JH (ao 10 a) (ao 10 b) k
 have A0:0<k->10^(k-1)<=a+b:=by
  intro G
  rcases hm with hm|⟨hm,hp⟩
  · have:n1=k\/n2=k:=J
    rcases this with h|h
    · have:=un (a:=a) (k:=k-1) J;omega
    · have:=un (a:=b) (k:=k-1) J;omega
  · have Ab:=x8 (ao 10 a) (ao 10 b) (max n1 n2)
    rw[List.take_of_length_le J,List.take_of_length_le J,cD 10 J,cD 10 J]at Ab
    have:10^max n1 n2*1<=10^max n1 n2*(gF (ao 10 a) (ao 10 b) (max n1 n2)).1:=Nat.mul_le_mul_left _ hp
    rw[hm,Nat.add_sub_cancel]
    omega
 generalize (gF (ao 10 a) (ao 10 b) k).2=l at *
 rw[<-hv]
 refine ml J ⟨hlt,?_⟩
 intro E
 have G:0<k:=by
  rcases Nat.eq_zero_or_pos k with h|h
  · subst h;rw[List.length_eq_zero_iff.1 O]at E;simp at E
  · exact h
 obtain⟨l',rfl⟩:∃l',l=l'++[0]:=by
  have W:l≠[]:=by intro e;subst e;simp at E
  refine⟨l.dropLast,?_⟩
  have H:=List.dropLast_concat_getLast W
  rw[List.getLast?_eq_some_getLast W]at E
  rw[Option.some.inj E]at H
  exact H.symm
 have h3:=lg 10 l' (λd hd=>hlt d (List.mem_append_left _ hd))
 rw[b7]at hv
 simp only[bO,Nat.mul_zero,Nat.add_zero]at hv
 simp at O
 have:=A0 G
 rw[show k-1=l'.length by omega]at this
 omega
def i7 (X Y:List Nat):Nat->Nat×List Nat
 |0=>(0,[])
 |k+1=>if X.getD k 0<(i7 X Y k).1+Y.getD k 0 then(1,(i7 X Y k).2++[X.getD k 0+10-(i7 X Y k).1-Y.getD k 0])else(0,(i7 X Y k).2++[X.getD k 0-(i7 X Y k).1-Y.getD k 0])
def mW (X Y:List Nat):∀k,(i7 X Y k).2.length=k
 |0=>rfl
 |k+1=>by simp only[i7];split <;>simp[mW X Y k]
def gG (X Y:List Nat):∀k,(i7 X Y k).1<=1
 |0=>by simp[i7]
 |k+1=>by simp only[i7];split <;>simp
def CE {X Y:List Nat}(hX:∀i,X.getD i 0<10)(hY:∀i,Y.getD i 0<10):∀k,∀d∈(i7 X Y k).2,d<10
 |0=>by simp[i7]
 | k +1=>by
   have hb:=gG X Y k
   have hx:=hX k
   have hy:=hY k
   intro d hd
   simp only[i7]at hd
   split at hd
   all_goals
    rcases List.mem_append.1 hd with h|h
    · exact CE hX hY k d h
    · rw[List.mem_singleton.1 h];omega
def ED {X Y:List Nat}(hY:∀i,Y.getD i 0<10):∀k,bO 10 (i7 X Y k).2+bO 10 (Y.take k)=bO 10 (X.take k)+10^k*(i7 X Y k).1
 |0=>by simp[i7,bO]
 | k +1=>by
   have ih:=ED (X:=X) hY k
   have hb:=gG X Y k
   have hy:=hY k
   rw[eY,eY,Nat.pow_succ]
   simp only[i7]
   split
   · next h=>
     rw[b7,mW]
     simp only[bO]
     obtain⟨t,ht⟩:∃t,X.getD k 0+10-(i7 X Y k).1-Y.getD k 0=t:=⟨_,rfl⟩
     have hs:t+(i7 X Y k).1+Y.getD k 0=X.getD k 0+10:=J
     rw[ht]
     generalize X.getD k 0=x at *
     generalize Y.getD k 0=y at *
     generalize (i7 X Y k).1=c at *
     grind
   · next h=>
     rw[b7,mW]
     simp only[bO]
     obtain⟨t,ht⟩:∃t,X.getD k 0-(i7 X Y k).1-Y.getD k 0=t:=⟨_,rfl⟩
     have hs:t+(i7 X Y k).1+Y.getD k 0=X.getD k 0:=J
     rw[ht]
     generalize X.getD k 0=x at *
     generalize Y.getD k 0=y at *
     generalize (i7 X Y k).1=c at *
     grind
def Of {a b n1 n2:Nat}(h1:(ao 10 a).length=n1)(h2:(ao 10 b).length=n2)(hle:b<=a):bO 10 (i7 (ao 10 a) (ao 10 b) n1).2=a-b:=by
 have E:∀(c i:Nat),(ao 10 c).getD i 0<10:=by
  intro c i
  rcases Nat.lt_or_ge i (ao 10 c).length with hi|hi
  · have G:(ao 10 c)[i]? =some (ao 10 c)[i]:=qa5 hi
    rw[List.getD,G];exact eH 10 J c _ (List.getElem_mem hi)
  · rw[cS hi];omega
 have hv:=ED (X:=ao 10 a) (E b) n1
 have H:n2<=n1:=by rw[<-h1,<-h2];exact ek J hle
 rw[List.take_of_length_le J,List.take_of_length_le J,cD 10 J,cD 10 J]at hv
 have hlt:=lg 10 _ (CE (E a) (E b) n1)
 rw[mW]at hlt
 have hb:=gG (ao 10 a) (ao 10 b) n1
 generalize (i7 (ao 10 a) (ao 10 b) n1).1=c at *
 rcases Nat.eq_zero_or_pos c with hc|hc
 · subst hc;omega
 · obtain rfl:c=1:=J
   omega
def EE (B:Nat):∀(l:List Nat) (j v:Nat),j<l.length->bO B (l.set j v)+B^j*l.getD j 0=bO B l+B^j*v
 |x::l,0,v,_=>by simp[bO];omega
 | x::l,j+1,v,h=>by
   have ih:=EE B l j v ka6
   simp only[List.set_cons_succ,bO,List.getD_cons_succ,Nat.pow_succ]
   generalize l.getD j 0=y at *
   generalize bO B (l.set j v)=p at *
   generalize bO B l=q at *
   generalize B^j=t at *
   grind
structure HN (X Y:List Nat)(i n:Nat)(k c:Nat)(l:List Nat):Prop where
 len:l.length=n
 lt:∀d∈l,d<10
 c9:c<=9
 val:bO 10 l+10^(i+k)*c=(bO 10 (X.take i)*bO 10 Y)+10^i*(X.getD i 0*bO 10 (Y.take k))
def TP {l:List Nat}{j v:Nat}(h:∀d∈l,d<10)(hv:v<10):∀d∈l.set j v,d<10:=by
 intro d hd
 rcases List.mem_or_eq_of_mem_set hd with h1|h1
 · exact h d h1
 · rw[h1];exact hv
def jL {xs:List Nat}(h:∀x∈xs,x<10)(i:Nat):xs.getD i 0<10:=by
 rcases Nat.lt_or_ge i xs.length with hi|hi
 · have E:xs[i]? =some xs[i]:=qa5 hi
   rw[List.getD,E];exact h _ (List.getElem_mem hi)
 · rw[cS hi];omega
def HN.step {X Y l:List Nat}{i n k c:Nat}(hX:∀x∈X,x<10)(hY:∀x∈Y,x<10)(h:HN X Y i n k c l)(hj:i+k<n):
 HN X Y i n (k+1) ((l.getD (i+k) 0+c+X.getD i 0*Y.getD k 0)/10) (l.set (i+k) ((l.getD (i+k) 0+c+X.getD i 0*Y.getD k 0)%10)):=by
 have h1:=jL h.lt (i+k)
 have h2:=jL hX i
 have h3:=jL hY k
 have h4:X.getD i 0*Y.getD k 0<=9*9:=qb9 J J
 have hc:=h.c9
 refine⟨by rw[List.length_set];exact h.len,TP h.lt (Nat.mod_lt _ J),by omega,?_⟩
 have hs:=EE 10 l (i+k) ((l.getD (i+k) 0+c+X.getD i 0*Y.getD k 0)%10) (by rw[h.len];exact hj)
 have hv:=h.val
 have G:=Nat.div_add_mod (l.getD (i+k) 0+c+X.getD i 0*Y.getD k 0) 10
 rw[eY,show i+(k+1)=(i+k)+1 by omega,Nat.pow_succ]
 have E:(10:Nat)^(i+k)=10^i*10^k:=Nat.pow_add ..
 generalize (l.getD (i+k) 0+c+X.getD i 0*Y.getD k 0)/10=u at *
 generalize (l.getD (i+k) 0+c+X.getD i 0*Y.getD k 0)%10=v at *
 generalize bO 10 (l.set (i+k) v)=p at *
 generalize l.getD (i+k) 0=z at *
 generalize X.getD i 0=x at *
 generalize Y.getD k 0=y at *
 generalize bO 10 (Y.take k)=yk at *
 generalize bO 10 (X.take i)*bO 10 Y=W at *
 generalize (10:Nat)^(i+k)=t at *
 generalize (10:Nat)^i=ti at *
 generalize (10:Nat)^k=tk at *
 grind
def HN.done {X Y l:List Nat}{i n n2 k:Nat}(hn2:Y.length=n2)(h:HN X Y i n k 0 l)(hk:n2<=k):HN X Y (i+1) n 0 0 l:=by
 refine⟨h.len,h.lt,by omega,?_⟩
 have hv:=h.val
 rw[List.take_of_length_le (l:=Y) J]at hv
 rw[eY]
 simp only[Nat.mul_zero,Nat.add_zero,List.take_zero,bO]at hv ⊢
 rw[hv]
 generalize bO 10 (X.take i)=p
 generalize bO 10 Y=q
 generalize X.getD i 0=x
 generalize (10:Nat)^i=t
 grind
def HN.start (X Y:List Nat)(n:Nat):HN X Y 0 n 0 0 (List.replicate n 0):=by
 refine⟨by simp,λd hd=>by rw[(List.mem_replicate.1 hd).2];omega,by omega,?_⟩
 have:∀m,bO 10 (List.replicate m 0)=0:=by
  intro m;induction m with
  |zero=>rfl
  |succ m ih=>simp[List.replicate_succ,bO,ih]
 simp[this,bO]
def HN.fin {X Y l:List Nat}{n n1:Nat}(hn1:X.length=n1)(h:HN X Y n1 n 0 0 l):bO 10 l=bO 10 X*bO 10 Y:=by
 have hv:=h.val
 rw[List.take_of_length_le (l:=X) J]at hv
 simp only[Nat.mul_zero,Nat.add_zero,List.take_zero,bO]at hv
 exact hv
def HN.rem {X Y l:List Nat}{i n n2 k c:Nat}(hn2:Y.length=n2)(hX:∀x∈X,x<10)(hY:∀x∈Y,x<10)(h:HN X Y i n k c l)(hk:n2<=k):(l.getD (i+k) 0+c+X.getD i 0*Y.getD k 0)=l.getD (i+k) 0+c:=by
 rw[cS (xs:=Y) J];simp
structure MX (X:List Nat)(b:Nat)(i r:Nat)(T:List Nat):Prop where
 len:T.length+i=X.length
 lt:∀d∈T,d<10
 val:bO 10 T*b+r=bO 10 (X.drop i)
 rlt:r<b
def MX.start {X:List Nat}{b:Nat}(hb:0<b):MX X b X.length 0 []:=⟨by simp,by simp,by simp[bO],hb⟩
def MX.step {X T:List Nat}{b i r c r2:Nat}(hX:∀x∈X,x<10)(h:MX X b (i+1) r T)(hc:c*b+r2=r*10+X.getD i 0)(hr:r2<b):MX X b i r2 (c::T):=by
 have hl:=h.len
 have hx:=jL hX i
 have G:=h.rlt
 have E:c<10:=by
  rcases Nat.lt_or_ge c 10 with h1|h1
  · exact h1
  · have h2:10*b<=c*b:=Nat.mul_le_mul_right _ h1
    omega
 refine⟨by simp;omega,λd hd=>?_,?_,hr⟩
 · rcases List.mem_cons.1 hd with rfl|h1
   · exact E
   · exact h.lt d h1
 · have e:X.drop i=X.getD i 0::X.drop (i+1):=by
    rw[List.drop_eq_getElem_cons J];simp[show i<X.length by omega]
   rw[e]
   simp only[bO]
   have hv:=h.val
   generalize X.getD i 0=x at *
   generalize bO 10 T=t at *
   generalize bO 10 (X.drop (i+1))=u at *
   grind
def MX.fin {X T:List Nat}{b r:Nat}(hb:0<b)(h:MX X b 0 r T):bO 10 T=bO 10 X/b/\r=bO 10 X%b:=by
 have hv:=h.val
 rw[List.drop_zero]at hv
 have hr:=h.rlt
 rw[<-hv]
 constructor
 · rw[Nat.mul_comm,Nat.mul_add_div hb,Nat.div_eq_of_lt hr];omega
 · rw[Nat.mul_comm,Nat.mul_add_mod,Nat.mod_eq_of_lt hr]
namespace Go.Proofs.YtlmihmlnpjkblaaGreatDoor
variable {a lo b n c i n1 n2 c1 lo1 c2 lo2:Nat}{A A1 A2:Option Addr}{w w':World}
set_option maxRecDepth 100000
open Go Go.Eng Go.RowKit Tryz
attribute [local irreducible] wpListIn Code.wpIn Oper.wpIn Exit.then Exit.inBlock Exit.noGoto
set_option maxHeartbeats 40000000
def dP {a:Int}(h:In64 a:=by unfold In64;omega):In64 a:=h
def jM (a i:Nat):(ao 10 a).getD i 0<10:=jL (eH 10 U a) i
def e7 (l:List Nat)(x:Nat):ints l++[Value.int .i64 x]=ints (l++[x]):=by simp[ints]
def CF (m:Nat):(madeCells (Value.int IntKind.i64 0).cells (m*1)).toList=ints (List.replicate m 0):=qx m
def Dg.put (k:eE w w' b)(hb:b<lo)(h:Dg w lo A n c a):Dg w' lo A n c a:=⟨h.row.put k hb,h.len,h.cap⟩
def Dg.hi (h:Dg w lo A n c a):∀ad,A=some ad->ad.block<w.heap.size:=h.row.hi
def QL (i:Nat)(T:List Nat):List Nat:=List.replicate i 0++T
def x9 (i:Nat)(T:List Nat):(QL i T).length=i+T.length:=by simp[QL]
def Og (T:List Nat)(h:0<i):QL i T=QL (i-1) (0::T):=by
 obtain⟨j,rfl⟩:∃j,i=j+1:=⟨i-1,by omega⟩
 simp[QL,List.replicate_succ']
def TQ (i c:Nat)(T:List Nat):(QL i (c::T)).getD i 0=c:=by simp[QL,List.getD]
def TR (i c d:Nat)(T:List Nat):(QL i (c::T)).set i d=QL i (d::T):=by
 induction i with
 |zero=>rfl
 |succ i ih=>unfold QL at *;rw[List.replicate_succ,List.cons_append,List.cons_append,List.set_cons_succ,ih]
def JI (n:Nat):QL n []=List.replicate n 0:=by simp[QL]
def TS (r d:Nat)(hd:d<10):dz (d::ao 10 r)=ao 10 (r*10+d):=by
 rw[mm 10 U (d::ao 10 r) (λx hx=>by
  rcases List.mem_cons.1 hx with rfl|hx
  · exact hd
  · exact eH 10 U r x hx)]
 simp only[bO,cD 10 (show 2<=10 by omega)]
 congr 1;omega
def JJ (h1:(ao 10 a).length=n1)(h2:(ao 10 b).length=n2)(h:a<b*10):n1<=n2+1:=by
 rw[<-h1,<-h2,a7 10 U,Nat.pow_succ]
 have:=nU (B:=10) U b
 omega
def Oh (h:b<=a):(0:Int)<=aN (a:Int) (b:Int):=by
 rcases Nat.eq_or_lt_of_le h with h1|h1
 · rw[jp U];omega
 · rw[eK U];omega
def Oi (h:¬b<=a):¬(0:Int)<=aN (a:Int) (b:Int):=by
 rw[fV U];omega
def JK {r r2 x:Nat}(h:c*b+r2=r*10+x)(hr:r<b)(hx:x<10):c<10:=by
 rcases Nat.lt_or_ge c 10 with h1|h1
 · exact h1
 · have:=Nat.mul_le_mul_right b h1;omega
def wF (h1:Dg w lo1 A1 n1 c1 a)(s1:n1<=100000)(h2:Dg w lo2 A2 n2 c2 b)(s2:n2<=100000):
 CL 182 #[.slice A1 n1 c1,.slice A2 n2 c2] w (aG w λv w'=>∃A n c,v=.slice A n c/\Dg w' w.heap.size A n c (a+b)):=by
 have L3:=h1.len;have e2:=h2.len;refine aC func182 Z (I ?_);have E7:World.ownsRow w w.heap.size 3 1 (.slice none 0 0) 0 (ints []):=bK;have H3:=aa4 w;refine cg [(5,52)] (λK2 e W=>∃k:Nat,∃H:Value,((max n1 n2)+1-k=K2)/\(e 6=.int .i64 (((gF (ao 10 a) (ao 10 b) k).1:Nat):Int))/\(e 7=.int .i64 k)/\(e 5=H)/\(k<=(max n1 n2)\/k=(max n1 n2)+1/\0<(gF (ao 10 a) (ao 10 b) (max n1 n2)).1)/\(aO w W)/\(W.ownsRow w.heap.size 3 1 H k (ints (gF (ao 10 a) (ao 10 b) k).2))) ((max n1 n2)+1-0) ⟨0,.slice none 0 0,rfl,rfl,rfl,rfl,(Or.inl (qa7 _)),H3,E7⟩ ?_;rintro _ _ _ ⟨k,H,rfl,L4,La,Ap,q1,E,ho⟩;have Li:=bz E;by_cases hka:k<n1;by_cases hkb:k<n2;have Af:(gF (ao 10 a) (ao 10 b) k).1<=1:=dt (jM a) (jM b) k;have O:=jM a k;have Ab:=jM b k;have Am:n1<=k->(ao 10 a).getD k 0=0:=λh=>cS U;have A0:n2<=k->(ao 10 b).getD k 0=0:=λh=>cS U;refine I ?_;obtain⟨od,Az,CG,H4⟩:=((h1.row).ext E).cells k _ (bE (xs:=(ao 10 a)) U);refine aa (aB (i:=(k)) (oo:=Az+k) ks iT Z CG Z U Nd ?_);refine aa (bB (v:=.int .i64 (((ao 10 a).getD k 0:Nat):Int)) (b:=od) (o:=Az+k) U3 Z Z H4 ?_);refine aa (ci (a:=(((gF (ao 10 a) (ao 10 b) k).1:Nat):Int)) (b:=(((ao 10 a).getD k 0:Nat):Int)) (c:=(((gF (ao 10 a) (ao 10 b) k).1+(ao 10 a).getD k 0:Nat):Int)) Z Z dP U ?_)
 refine I ?_;obtain⟨E6,Aq,Cr,K3⟩:=((h2.row).ext E).cells k _ (bE (xs:=(ao 10 b)) U);refine aa (aB (i:=(k)) (oo:=Aq+k) ks iT Z Cr Z U Nd ?_);refine aa (bB (v:=.int .i64 (((ao 10 b).getD k 0:Nat):Int)) (b:=E6) (o:=Aq+k) U3 Z Z K3 ?_);refine aa (ci (a:=(((gF (ao 10 a) (ao 10 b) k).1+(ao 10 a).getD k 0:Nat):Int)) (b:=(((ao 10 b).getD k 0:Nat):Int)) (c:=(((gF (ao 10 a) (ao 10 b) k).1+(ao 10 a).getD k 0+(ao 10 b).getD k 0:Nat):Int)) Z Z dP U ?_);refine I ?_;refine aa (aW (v:=H) Ap ?_);refine I ?_;refine aa (l8 (a:=(((gF (ao 10 a) (ao 10 b) k).1+(ao 10 a).getD k 0+(ao 10 b).getD k 0:Nat):Int)) (b:=10) (c:=((((gF (ao 10 a) (ao 10 b) k).1+(ao 10 a).getD k 0+(ao 10 b).getD k 0)%10:Nat):Int)) Z Z U U U ?_);refine BS (λ_ CB _ Ix=>?_);have ho:=ab CB ho;have E:=xt E CB;refine AP ho (aa8 Ix) (λAv _ KC H2 _=>?_);have E:=bm ho U U E H2;refine aa (aK (v:=Av) Z ?_);refine I ?_;refine aa (vW (a:=(((gF (ao 10 a) (ao 10 b) k).1+(ao 10 a).getD k 0+(ao 10 b).getD k 0:Nat):Int)) (b:=10) (c:=(((gF (ao 10 a) (ao 10 b) (k+1)).1:Nat):Int)) Z Z U U dP kc7 ?_);refine I ?_
 refine aa (ci (a:=(k:Int)) (b:=1) (c:=((k+1:Nat):Int)) Z Z dP U ?_);refine I ?_;exact bI (hk:=by first|omega|(rcases q1 with h|⟨h,-⟩;omega;exfalso;have G:=j8 (X:=(ao 10 a)) (Y:=(ao 10 b)) (k:=(max n1 n2)) U U (dt (jM a) (jM b) _);rw[show(max n1 n2)+1=k by omega]at G;omega)) ⟨k+1,Av,rfl,rfl,rfl,rfl,(by rcases q1 with h|⟨h,-⟩ <;>first|(left;omega)|(right;refine⟨by omega,?_⟩;rw[show(max n1 n2)=k by omega];omega)|(exfalso;have G:=j8 (X:=(ao 10 a)) (Y:=(ao 10 b)) (k:=(max n1 n2)) U U (dt (jM a) (jM b) _);rw[show(max n1 n2)+1=k by omega]at G;omega)),E,(aM KC Z (by rw[e7];rfl))⟩;have Af:(gF (ao 10 a) (ao 10 b) k).1<=1:=dt (jM a) (jM b) k;have O:=jM a k;have Ab:=jM b k;have Am:n1<=k->(ao 10 a).getD k 0=0:=λh=>cS U;have A0:n2<=k->(ao 10 b).getD k 0=0:=λh=>cS U;refine I ?_;obtain⟨E9,B1,L1,CY⟩:=((h1.row).ext E).cells k _ (bE (xs:=(ao 10 a)) U);refine aa (aB (i:=(k)) (oo:=B1+k) ks iT Z L1 Z U Nd ?_);refine aa (bB (v:=.int .i64 (((ao 10 a).getD k 0:Nat):Int)) (b:=E9) (o:=B1+k) U3 Z Z CY ?_);refine aa (ci (a:=(((gF (ao 10 a) (ao 10 b) k).1:Nat):Int)) (b:=(((ao 10 a).getD k 0:Nat):Int)) (c:=(((gF (ao 10 a) (ao 10 b) k).1+(ao 10 a).getD k 0:Nat):Int)) Z Z dP U ?_);refine I ?_;refine aa (aW (v:=H) Ap ?_);refine I ?_;refine aa (l8 (a:=(((gF (ao 10 a) (ao 10 b) k).1+(ao 10 a).getD k 0:Nat):Int)) (b:=10) (c:=((((gF (ao 10 a) (ao 10 b) k).1+(ao 10 a).getD k 0+(ao 10 b).getD k 0)%10:Nat):Int)) Z Z U U U ?_);refine BS (λ_ Ax _ EW=>?_);have ho:=ab Ax ho;have E:=xt E Ax;refine AP ho (aa8 EW) (λC1 _ G0 wr _=>?_);have E:=bm ho U U E wr;refine aa (aK (v:=C1) Z ?_)
 refine I ?_;refine aa (vW (a:=(((gF (ao 10 a) (ao 10 b) k).1+(ao 10 a).getD k 0:Nat):Int)) (b:=10) (c:=(((gF (ao 10 a) (ao 10 b) (k+1)).1:Nat):Int)) Z Z U U dP kc7 ?_);refine I ?_;refine aa (ci (a:=(k:Int)) (b:=1) (c:=((k+1:Nat):Int)) Z Z dP U ?_);refine I ?_;exact bI (hk:=by first|omega|(rcases q1 with h|⟨h,-⟩;omega;exfalso;have G:=j8 (X:=(ao 10 a)) (Y:=(ao 10 b)) (k:=(max n1 n2)) U U (dt (jM a) (jM b) _);rw[show(max n1 n2)+1=k by omega]at G;omega)) ⟨k+1,C1,rfl,rfl,rfl,rfl,(by rcases q1 with h|⟨h,-⟩ <;>first|(left;omega)|(right;refine⟨by omega,?_⟩;rw[show(max n1 n2)=k by omega];omega)|(exfalso;have G:=j8 (X:=(ao 10 a)) (Y:=(ao 10 b)) (k:=(max n1 n2)) U U (dt (jM a) (jM b) _);rw[show(max n1 n2)+1=k by omega]at G;omega)),E,(aM G0 Z (by rw[e7];rfl))⟩;by_cases hkb:k<n2;have Af:(gF (ao 10 a) (ao 10 b) k).1<=1:=dt (jM a) (jM b) k;have O:=jM a k;have Ab:=jM b k;have Am:n1<=k->(ao 10 a).getD k 0=0:=λh=>cS U;have A0:n2<=k->(ao 10 b).getD k 0=0:=λh=>cS U;refine I ?_;obtain⟨ES,Ar,E1,Kp⟩:=((h2.row).ext E).cells k _ (bE (xs:=(ao 10 b)) U);refine aa (aB (i:=(k)) (oo:=Ar+k) ks iT Z E1 Z U Nd ?_);refine aa (bB (v:=.int .i64 (((ao 10 b).getD k 0:Nat):Int)) (b:=ES) (o:=Ar+k) U3 Z Z Kp ?_);refine aa (ci (a:=(((gF (ao 10 a) (ao 10 b) k).1:Nat):Int)) (b:=(((ao 10 b).getD k 0:Nat):Int)) (c:=(((gF (ao 10 a) (ao 10 b) k).1+(ao 10 a).getD k 0+(ao 10 b).getD k 0:Nat):Int)) Z Z dP U ?_);refine I ?_;refine aa (aW (v:=H) Ap ?_);refine I ?_;refine aa (l8 (a:=(((gF (ao 10 a) (ao 10 b) k).1+(ao 10 a).getD k 0+(ao 10 b).getD k 0:Nat):Int)) (b:=10) (c:=((((gF (ao 10 a) (ao 10 b) k).1+(ao 10 a).getD k 0+(ao 10 b).getD k 0)%10:Nat):Int)) Z Z U U U ?_);refine BS (λ_ Ay _ E0=>?_);have ho:=ab Ay ho;have E:=xt E Ay;refine AP ho (aa8 E0) (λB2 _ E4 FR _=>?_);have E:=bm ho U U E FR
 refine aa (aK (v:=B2) Z ?_);refine I ?_;refine aa (vW (a:=(((gF (ao 10 a) (ao 10 b) k).1+(ao 10 a).getD k 0+(ao 10 b).getD k 0:Nat):Int)) (b:=10) (c:=(((gF (ao 10 a) (ao 10 b) (k+1)).1:Nat):Int)) Z Z U U dP kc7 ?_);refine I ?_;refine aa (ci (a:=(k:Int)) (b:=1) (c:=((k+1:Nat):Int)) Z Z dP U ?_);refine I ?_;exact bI (hk:=by first|omega|(rcases q1 with h|⟨h,-⟩;omega;exfalso;have G:=j8 (X:=(ao 10 a)) (Y:=(ao 10 b)) (k:=(max n1 n2)) U U (dt (jM a) (jM b) _);rw[show(max n1 n2)+1=k by omega]at G;omega)) ⟨k+1,B2,rfl,rfl,rfl,rfl,(by rcases q1 with h|⟨h,-⟩ <;>first|(left;omega)|(right;refine⟨by omega,?_⟩;rw[show(max n1 n2)=k by omega];omega)|(exfalso;have G:=j8 (X:=(ao 10 a)) (Y:=(ao 10 b)) (k:=(max n1 n2)) U U (dt (jM a) (jM b) _);rw[show(max n1 n2)+1=k by omega]at G;omega)),E,(aM E4 Z (by rw[e7];rfl))⟩;by_cases hcr:0<(gF (ao 10 a) (ao 10 b) k).1;have Af:(gF (ao 10 a) (ao 10 b) k).1<=1:=dt (jM a) (jM b) k;have O:=jM a k;have Ab:=jM b k;have Am:n1<=k->(ao 10 a).getD k 0=0:=λh=>cS U;have A0:n2<=k->(ao 10 b).getD k 0=0:=λh=>cS U;refine I ?_;refine aa (aW (v:=H) Ap ?_);refine I ?_;refine aa (l8 (a:=(((gF (ao 10 a) (ao 10 b) k).1:Nat):Int)) (b:=10) (c:=((((gF (ao 10 a) (ao 10 b) k).1+(ao 10 a).getD k 0+(ao 10 b).getD k 0)%10:Nat):Int)) Z Z U U U ?_);refine BS (λ_ ny _ KM=>?_);have ho:=ab ny ho;have E:=xt E ny;refine AP ho (aa8 KM) (λAw _ E5 L2 _=>?_);have E:=bm ho U U E L2;refine aa (aK (v:=Aw) Z ?_);refine I ?_;refine aa (vW (a:=(((gF (ao 10 a) (ao 10 b) k).1:Nat):Int)) (b:=10) (c:=(((gF (ao 10 a) (ao 10 b) (k+1)).1:Nat):Int)) Z Z U U dP kc7 ?_);refine I ?_;refine aa (ci (a:=(k:Int)) (b:=1) (c:=((k+1:Nat):Int)) Z Z dP U ?_);refine I ?_;exact bI (hk:=by first|omega|(rcases q1 with h|⟨h,-⟩;omega;exfalso;have G:=j8 (X:=(ao 10 a)) (Y:=(ao 10 b)) (k:=(max n1 n2)) U U (dt (jM a) (jM b) _);rw[show(max n1 n2)+1=k by omega]at G;omega)) ⟨k+1,Aw,rfl,rfl,rfl,rfl,(by rcases q1 with h|⟨h,-⟩ <;>first|(left;omega)|(right;refine⟨by omega,?_⟩;rw[show(max n1 n2)=k by omega];omega)|(exfalso;have G:=j8 (X:=(ao 10 a)) (Y:=(ao 10 b)) (k:=(max n1 n2)) U U (dt (jM a) (jM b) _);rw[show(max n1 n2)+1=k by omega]at G;omega)),E,(aM E5 Z (by rw[e7];rfl))⟩
 have Af:(gF (ao 10 a) (ao 10 b) k).1<=1:=dt (jM a) (jM b) k;have O:=jM a k;have Ab:=jM b k;have Am:n1<=k->(ao 10 a).getD k 0=0:=λh=>cS U;have A0:n2<=k->(ao 10 b).getD k 0=0:=λh=>cS U;have GC:=Oe h1.len h2.len (k:=k) U U U U;obtain⟨Ao,As,rfl,KY⟩:=qG ho GC;refine I ?_;exact am (t:=4) (v:=.slice Ao k As) Z E ⟨Ao,k,As,rfl,KY⟩ Z
theorem lz (h1:Dg w lo1 A1 n1 c1 a)(s1:n1<=100000)(h2:Dg w lo2 A2 n2 c2 b)(s2:n2<=100000)(hle:b<=a):
 CL 183 #[.slice A1 n1 c1,.slice A2 n2 c2] w (aG w λv w'=>∃A n c,v=.slice A n c/\Dg w' w.heap.size A n c (a-b)):=by
 have P2:=h1.len;have e2:=h2.len;refine aC func183 rfl ?_;refine I ?_;have L3:World.ownsRow w w.heap.size 3 1 (.slice none 0 0) 0 (ints []):=bK;have La:=aa4 w;refine cg [(5,38)] (λG0 e W=>∃k:Nat,∃H:Value,(n1-k=G0)/\(e 6=.int .i64 ((((i7 (ao 10 a) (ao 10 b) k).1:Nat):Int)))/\(e 7=.int .i64 k)/\(e 5=H)/\(k<=n1)/\(aO w W)/\(W.ownsRow w.heap.size 3 1 H k (ints (i7 (ao 10 a) (ao 10 b) k).2))) (n1-0) ⟨0,.slice none 0 0,rfl,rfl,rfl,rfl,(qa7 _),La,L3⟩ ?_;rintro _ _ _ ⟨k,H,rfl,Q0,S0,O,q1,E,ho⟩;have Rm:=bz E;by_cases hka:k<n1;by_cases hkb:k<n2;by_cases hng:(ao 10 a).getD k 0<(i7 (ao 10 a) (ao 10 b) k).1+(ao 10 b).getD k 0;have Af:(i7 (ao 10 a) (ao 10 b) k).1<=1:=gG _ _ k;have A0:=jM a k;have Ab:=jM b k;have Am:n2<=k->(ao 10 b).getD k 0=0:=λh=>cS U;have G:(i7 (ao 10 a) (ao 10 b) (k+1))=(1,(i7 (ao 10 a) (ao 10 b) k).2++[(ao 10 a).getD k 0+10-(i7 (ao 10 a) (ao 10 b) k).1-(ao 10 b).getD k 0]):=if_pos hng;refine I ?_;obtain⟨E5,B2,Kp,K3⟩:=((h1.row).ext E).cells k _ (bE (xs:=(ao 10 a)) U);refine aa (aB (i:=(k)) (oo:=B2+k) ks iT rfl Kp rfl U (by rw[Nat.mul_one]) ?_);refine aa (bB (v:=.int .i64 ((((ao 10 a).getD k 0:Nat):Int))) (b:=E5) (o:=B2+k) U3 rfl rfl K3 ?_)
 refine I ?_;refine oE ?_;refine I ?_;obtain⟨P0,C1,KY,EW⟩:=((h2.row).ext E).cells k _ (bE (xs:=(ao 10 b)) U);refine aa (aB (i:=(k)) (oo:=C1+k) ks iT rfl KY rfl U (by rw[Nat.mul_one]) ?_);refine aa (bB (v:=.int .i64 ((((ao 10 b).getD k 0:Nat):Int))) (b:=P0) (o:=C1+k) U3 rfl rfl EW ?_);refine oE ?_;refine I ?_;refine aa (ci (a:=((((ao 10 a).getD k 0:Nat):Int)-(((i7 (ao 10 a) (ao 10 b) k).1:Nat):Int))-(((ao 10 b).getD k 0:Nat):Int)) (b:=10) (c:=(((ao 10 a).getD k 0+10-(i7 (ao 10 a) (ao 10 b) k).1-(ao 10 b).getD k 0:Nat):Int)) rfl rfl dP U ?_);refine I ?_;refine aa (aW (v:=H) O ?_);refine I ?_;refine BS (λ_ CB _ L1=>?_);have ho:=ab CB ho;have E:=xt E CB;refine AP ho (aa8 L1) (λwr _ P1 E7 _=>?_);have E:=bm ho U U E E7;refine aa (aK (v:=wr) rfl ?_);refine I ?_;refine aa (ci (a:=(k:Int)) (b:=1) (c:=((k+1:Nat):Int)) rfl rfl dP U ?_);refine I ?_;exact bI ⟨k+1,wr,rfl,(by rw[G];rfl),rfl,rfl,U,E,(aM P1 rfl (by rw[e7,G]))⟩;have Af:(i7 (ao 10 a) (ao 10 b) k).1<=1:=gG _ _ k;have A0:=jM a k;have Ab:=jM b k;have Am:n2<=k->(ao 10 b).getD k 0=0:=λh=>cS U
 have G:(i7 (ao 10 a) (ao 10 b) (k+1))=(0,(i7 (ao 10 a) (ao 10 b) k).2++[(ao 10 a).getD k 0-(i7 (ao 10 a) (ao 10 b) k).1-(ao 10 b).getD k 0]):=if_neg hng;refine I ?_;obtain⟨Lk,Aw,E1,KC⟩:=((h1.row).ext E).cells k _ (bE (xs:=(ao 10 a)) U);refine aa (aB (i:=(k)) (oo:=Aw+k) ks iT rfl E1 rfl U (by rw[Nat.mul_one]) ?_);refine aa (bB (v:=.int .i64 ((((ao 10 a).getD k 0:Nat):Int))) (b:=Lk) (o:=Aw+k) U3 rfl rfl KC ?_);refine I ?_;refine oE ?_;refine I ?_;obtain⟨E9,CY,Cr,ny⟩:=((h2.row).ext E).cells k _ (bE (xs:=(ao 10 b)) U);refine aa (aB (i:=(k)) (oo:=CY+k) ks iT rfl Cr rfl U (by rw[Nat.mul_one]) ?_);refine aa (bB (v:=.int .i64 ((((ao 10 b).getD k 0:Nat):Int))) (b:=E9) (o:=CY+k) U3 rfl rfl ny ?_);refine aa (jk (a:=(((ao 10 a).getD k 0:Nat):Int)-(((i7 (ao 10 a) (ao 10 b) k).1:Nat):Int)) (b:=(((ao 10 b).getD k 0:Nat):Int)) (c:=(((ao 10 a).getD k 0-(i7 (ao 10 a) (ao 10 b) k).1-(ao 10 b).getD k 0:Nat):Int)) rfl rfl dP U ?_);refine I ?_;refine aa (aW (v:=H) O ?_);refine I ?_;refine BS (λ_ As _ H3=>?_);have ho:=ab As ho;have E:=xt E As;refine AP ho (aa8 H3) (λAr _ E4 K2 _=>?_);have E:=bm ho U U E K2;refine aa (aK (v:=Ar) rfl ?_);refine I ?_
 refine aa (ci (a:=(k:Int)) (b:=1) (c:=((k+1:Nat):Int)) rfl rfl dP U ?_);refine I ?_;exact bI ⟨k+1,Ar,rfl,(by rw[G];rfl),rfl,rfl,U,E,(aM E4 rfl (by rw[e7,G]))⟩;by_cases hng:(ao 10 a).getD k 0<(i7 (ao 10 a) (ao 10 b) k).1+(ao 10 b).getD k 0;have Af:(i7 (ao 10 a) (ao 10 b) k).1<=1:=gG _ _ k;have A0:=jM a k;have Ab:=jM b k;have Am:n2<=k->(ao 10 b).getD k 0=0:=λh=>cS U;have G:(i7 (ao 10 a) (ao 10 b) (k+1))=(1,(i7 (ao 10 a) (ao 10 b) k).2++[(ao 10 a).getD k 0+10-(i7 (ao 10 a) (ao 10 b) k).1-(ao 10 b).getD k 0]):=if_pos hng;refine I ?_;obtain⟨Lj,od,H4,L2⟩:=((h1.row).ext E).cells k _ (bE (xs:=(ao 10 a)) U);refine aa (aB (i:=(k)) (oo:=od+k) ks iT rfl H4 rfl U (by rw[Nat.mul_one]) ?_);refine aa (bB (v:=.int .i64 ((((ao 10 a).getD k 0:Nat):Int))) (b:=Lj) (o:=od+k) U3 rfl rfl L2 ?_);refine I ?_;refine oE ?_;refine I ?_;refine aa (ci (a:=(((ao 10 a).getD k 0:Nat):Int)-(((i7 (ao 10 a) (ao 10 b) k).1:Nat):Int)) (b:=10) (c:=(((ao 10 a).getD k 0+10-(i7 (ao 10 a) (ao 10 b) k).1-(ao 10 b).getD k 0:Nat):Int)) rfl rfl dP U ?_)
 refine I ?_;refine aa (aW (v:=H) O ?_);refine I ?_;refine BS (λ_ Ay _ E6=>?_);have ho:=ab Ay ho;have E:=xt E Ay;refine AP ho (aa8 E6) (λAv _ N0 KM _=>?_);have E:=bm ho U U E KM;refine aa (aK (v:=Av) rfl ?_);refine I ?_;refine aa (ci (a:=(k:Int)) (b:=1) (c:=((k+1:Nat):Int)) rfl rfl dP U ?_);refine I ?_;exact bI ⟨k+1,Av,rfl,(by rw[G];rfl),rfl,rfl,U,E,(aM N0 rfl (by rw[e7,G]))⟩;have Af:(i7 (ao 10 a) (ao 10 b) k).1<=1:=gG _ _ k;have A0:=jM a k;have Ab:=jM b k;have Am:n2<=k->(ao 10 b).getD k 0=0:=λh=>cS U;have G:(i7 (ao 10 a) (ao 10 b) (k+1))=(0,(i7 (ao 10 a) (ao 10 b) k).2++[(ao 10 a).getD k 0-(i7 (ao 10 a) (ao 10 b) k).1-(ao 10 b).getD k 0]):=if_neg hng;refine I ?_;obtain⟨FR,Aq,E0,ES⟩:=((h1.row).ext E).cells k _ (bE (xs:=(ao 10 a)) U);refine aa (aB (i:=(k)) (oo:=Aq+k) ks iT rfl E0 rfl U (by rw[Nat.mul_one]) ?_);refine aa (bB (v:=.int .i64 ((((ao 10 a).getD k 0:Nat):Int))) (b:=FR) (o:=Aq+k) U3 rfl rfl ES ?_);refine I ?_;refine aa (jk (a:=(((ao 10 a).getD k 0:Nat):Int)) (b:=(((i7 (ao 10 a) (ao 10 b) k).1:Nat):Int)) (c:=(((ao 10 a).getD k 0-(i7 (ao 10 a) (ao 10 b) k).1-(ao 10 b).getD k 0:Nat):Int)) rfl rfl dP U ?_)
 refine I ?_;refine aa (aW (v:=H) O ?_);refine I ?_;refine BS (λ_ Az _ GC=>?_);have ho:=ab Az ho;have E:=xt E Az;refine AP ho (aa8 GC) (λCG _ L4 Ix _=>?_);have E:=bm ho U U E Ix;refine aa (aK (v:=CG) rfl ?_);refine I ?_;refine aa (ci (a:=(k:Int)) (b:=1) (c:=((k+1:Nat):Int)) rfl rfl dP U ?_);refine I ?_;exact bI ⟨k+1,CG,rfl,(by rw[G];rfl),rfl,rfl,U,E,(aM L4 rfl (by rw[e7,G]))⟩;have No:k=n1:=by omega
 obtain⟨Ao,Ap,rfl,Li,-⟩:=eM ho;refine I ?_;refine clb Ic (hc:=qH (aa8 ho) (mW _ _ _) Li U) (hk:=?_);rintro _ _ B1 ⟨Ax,rfl,H2,Ne⟩;have ho:=ab B1.2 ho;have E:=xt E B1.2;refine I ?_;exact am (t:=4) (v:=.slice Ao Ax Ap) rfl E ⟨Ao,Ax,Ap,rfl,Dg.trim (aa8 ho) (CE (jM a) (jM b) k) (by rw[No];exact Of h1.len h2.len hle) H2 (by rw[mW];exact Ne) U⟩ rfl
def z6 (h1:Dg w lo1 A1 n1 c1 a)(s1:n1<=90000)(h2:Dg w lo2 A2 n2 c2 b)(s2:n2<=90000)(hb0:0<b):
 CL 180 #[.slice A1 n1 c1,.slice A2 n2 c2] w (aG w λv w'=>∃A n c B m d,v=.tuple #[.slice A n c,.slice B m d]/\Dg w' w.heap.size A n c (a/b)/\Dg w' w.heap.size B m d (a%b)):=by
 have No:=h1.len;have e2:=h2.len;refine aC func180 Z (I ?_);refine aa (md (m:=n1) ks k7 Z Z U RC (λH4 Ne _ E9=>?_));have N0:=Ne;have hq:=D6 E9;rw[CF]at hq;clear E9;refine I ?_;refine oE (I ?_);rw[<-JI]at hq;have KM:Dg H4 (w.heap.size+1) none 0 0 0:=Dg.zero _ _;refine cg [(7,8),(15,39)] (λAz e W=>∃i:Nat,∃T:List Nat,∃Ar:Option Addr,∃Ao:Nat,∃Ap:Nat,∃r:Nat,(i=Az)/\(e 8=.int .i64 ((i:Int)-1))/\(e 7=.slice Ar Ao Ap)/\(i<=n1)/\(MX (ao 10 a) b i r T)/\(aO w W)/\(ap W w.heap.size 3 (ints (QL i T)).toArray)/\(Dg W (w.heap.size+1) Ar Ao Ap r)) (n1) ⟨n1,[],none,0,0,0,rfl,(qb2 (Value.int .i64) U),rfl,(qa0 _),(by rw[<-h1.len];exact MX.start hb0),N0,hq,KM⟩ ?_;rintro _ _ ny ⟨i,T,Ar,Ao,Ap,r,rfl,P1,od,P0,O,G,hq,hr⟩;by_cases hi:0<i;have Ay:=bt hq;have E7:=hr.hi;have Ax:=jM a (i-1);have E0:=O.rlt;have KY:=O.len;have P2:Ao<=n2+1:=JJ hr.len h2.len U;refine I ?_;obtain⟨L1,FR,wr,Li⟩:=((h1.row).ext G).cells (i-1) _ (bE (xs:=(ao 10 a)) U);refine aa (aB (i:=i-1) (oo:=FR+(i-1)) ks iT Z wr (dw Z U) U Nd ?_);refine aa (bB (v:=.int .i64 (((ao 10 a).getD (i-1) 0:Nat):Int)) (b:=L1) (o:=FR+(i-1)) U3 Z Z Li ?_)
 refine BS (λ_ As _ E1=>?_);have hq:=be As hq;have hr:=ac5 As hr;have G:=xt G As;have S9:=bz As;refine I ?_;refine aa (jz (v:=.slice (some ⟨ny.heap.size,0,none⟩) (1) (1)) (k:=1) ks k7 Z dc Z E1 Z hr.row (by rw[iX,hr.len];omega) tJ RC U U (λ_ Ix E5 B1 _=>?_));have hq:=aa3 B1 RW hq;have hr:=Dg.gr B1 (λKp e=>by have:=E7 Kp e;simp[Value.ownBlock];omega) hr;have G:=cL G B1 (bz G) (λg L2=>by have:=(E1.lt g L2).1;omega);obtain⟨Aw,EW,rfl,L4,S0,-,-⟩:=eM E5;have hs:Rw Ix ny.heap.size Aw (ints (((ao 10 a).getD (i-1) 0)::ao 10 r)):=aa8 E5;refine clb Ic (hc:=qH hs (by rw[List.length_cons,hr.len];omega) L4 U) (hk:=?_);rintro _ Lj Aq ⟨CG,rfl,Ab,G0⟩;have hq:=be Aq.2 hq;have hr:=ac5 Aq.2 hr;have G:=xt G Aq.2;rw[TS _ _ Ax]at Ab;have GC:Dg Lj (w.heap.size+1) Aw CG EW (r*10+((ao 10 a).getD (i-1) 0)):=by
  refine⟨?_,?_,by omega⟩
  rw[Ab];have:=((hs.ext Aq.2).take CG).mono (lo':=w.heap.size+1) U;simpa[ints,List.map_take]using this;rw[Ab,List.length_take,List.length_cons,hr.len];omega
 rw[Og T hi]at hq;refine I ?_;refine cg [(7,7),(27,39)] (λAz e W=>∃c:Nat,∃Ar2:Option Addr,∃A0:Nat,∃Av:Nat,∃r2:Nat,(r2=Az)/\(e 7=.slice Ar2 A0 Av)/\(c*b+r2=(r*10+((ao 10 a).getD (i-1) 0)))/\(aO w W)/\(ap W w.heap.size 3 (ints (QL (i-1) (c::T))).toArray)/\(Dg W (w.heap.size+1) Ar2 A0 Av r2)) (r*10+((ao 10 a).getD (i-1) 0)) ⟨0,Aw,CG,EW,(r*10+((ao 10 a).getD (i-1) 0)),rfl,rfl,U,G,hq,GC⟩ ?_;rintro _ _ _ ⟨c,Ar2,A0,Av,r2,rfl,L3,CY,E,hq,H⟩;by_cases hge:b<=r2;have Ay:=bt hq;have hcR:r2<=(r*10+((ao 10 a).getD (i-1) 0)):=by have:=qa7 (c*b);omega
 have La:A0<=n2+1:=JJ H.len h2.len U;have H2:c<10:=JK CY E0 Ax;refine I ?_;refine clb za (hc:=jK H U (h2.ext E) U) (hk:=?_);rintro _ _ C1 rfl;have hq:=be C1.2 hq;have H:=ac5 C1.2 H;have E:=xt E C1.2;have Rm:=Oh hge;refine I ?_;refine clb DO (hc:=lz H U (h2.ext E) U hge) (hk:=?_);rintro _ _ Lk ⟨Am,nm,K2,rfl,Af⟩;have⟨hq,E⟩:=bn Lk.2 hq E;have Af:=Af.mono (lo':=w.heap.size+1) U;refine I ?_;refine aa (aB (A:=some ⟨w.heap.size,0,none⟩) (bk:=w.heap.size) (o:=0) (m:=n1) (c:=n1) (i:=i-1) (oo:=i-1) ks iT Z Z (dw Z U) U U ?_);refine aa (bB (v:=.int .i64 (((QL (i-1) (c::T)).getD (i-1) 0:Nat):Int)) U3 Z Z (ab4 hq (by rw[List.getElem?_toArray];exact bE (by rw[x9,List.length_cons];omega))) ?_);rw[TQ];refine aa (ci (a:=(c:Int)) (b:=1) (c:=((c+1:Nat):Int)) Z Z dP U ?_);refine aa (aB (A:=some ⟨w.heap.size,0,none⟩) (bk:=w.heap.size) (o:=0) (m:=n1) (c:=n1) (i:=i-1) (oo:=i-1) ks iT Z Z (dw Z U) U U ?_);refine aa (cC (b:=w.heap.size) (o:=i-1) (v:=.int .i64 ((c+1:Nat):Int)) iT Z Z Z hq (by rw[List.size_toArray,iX];rw[x9,List.length_cons];omega) (λ_ E6 K3=>?_));have Af:=Dg.put E6 U Af;have E:=bi E6 E;have hq:=K3;rw[ints_set]at hq
 refine I ?_;exact bI ⟨c+1,Am,nm,K2,r2-b,rfl,rfl,(by rw[Nat.add_mul];omega),E,(by rw[TR]at hq;exact hq),Af⟩;have Ay:=bt hq;have hcR:r2<=(r*10+((ao 10 a).getD (i-1) 0)):=by have:=qa7 (c*b);omega
 have La:A0<=n2+1:=JJ H.len h2.len U;have H2:c<10:=JK CY E0 Ax;refine I ?_;refine clb za (hc:=jK H U (h2.ext E) U) (hk:=?_);rintro _ _ B2 rfl;have hq:=be B2.2 hq;have H:=ac5 B2.2 H;have E:=xt E B2.2;have Q0:=Oi hge;refine I ?_;refine aa (jk (a:=(i:Int)-1) (b:=1) (c:=((i-1:Nat):Int)-1) Z Z dP U ?_);refine I ?_;exact bI ⟨i-1,c::T,Ar2,A0,Av,r2,rfl,rfl,L3,U,(MX.step (eH 10 U a) (by rw[show i-1+1=i by omega];exact O) CY U),E,hq,H⟩;have Ay:=bt hq;have H3:i=0:=J
 rw[H3]at O hq;have KY:=O.len;obtain⟨Cr,ES⟩:=O.fin hb0;rw[h1.val]at Cr ES;have E7:=hr.hi;refine I ?_;have KC:=ae0 hq (qa0 _);refine clb Ic (hc:=qH KC (by rw[x9];omega) (qa0 _) U) (hk:=?_);rintro _ _ CB ⟨E4,rfl,Ab,G0⟩;have hq:=be CB.2 hq;have hr:=ac5 CB.2 hr;have G:=xt G CB.2;refine I ?_;exact bu (t:=4) (u:=5) (v1:=.slice (some ⟨w.heap.size,0,none⟩) E4 n1) (v2:=.slice Ar Ao Ap) Z G ⟨_,E4,_,_,_,_,rfl,(Dg.trim (ae0 hq (qa0 _)) (by rw[show QL 0 T=T from rfl];exact O.lt) (by rw[show QL 0 T=T from rfl];exact Cr) Ab (by rw[x9];omega) G0).mono U,by rw[<-ES];exact hr.mono U⟩ Z Z
end Go.Proofs.YtlmihmlnpjkblaaGreatDoor
