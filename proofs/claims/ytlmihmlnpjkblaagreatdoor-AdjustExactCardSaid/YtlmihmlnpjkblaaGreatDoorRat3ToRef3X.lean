/- Part of the proof of a statement about an adjustment. -/
import Derived.Test.YtlmihmlnpjkblaaGreatDoorInt13ToRat2X
set_option linter.all false
namespace Go.Proofs.YtlmihmlnpjkblaaGreatDoor
open Go Go.Eng Go.RowKit Tryz
variable {q ng:Bool}{xs X Y:List Nat}{l d:List UInt8}{i lo' k base n a j n1 c1 lo1 n2 c2 b lo2:Nat}{A1 A A2:Option Addr}{c:UInt8}{w:World}
attribute [local irreducible] wpListIn Code.wpIn Oper.wpIn Exit.then Exit.inBlock Exit.noGoto
set_option maxHeartbeats 40000000
def us:bL ([48],[49])=true:=by decide +kernel
def cX {a:R}(h:bL a=true):0<aj a.2:=by
 have h2:=gu h
 simp only[bL,Bool.and_eq_true,Bool.not_eq_true',decide_eq_false_iff_not]at h
 have:=h.1.2
 rw[gP h2,da]at this
 omega
def GE:dm [48] [49]=some ([48],[48]):=by decide +kernel
def zY (h:0<aj l):0<aH (body l):=by have:=dX l;omega
def Re {a:R}(h:bL a=true):dm a.1 a.2=some (ae (aj a.1/aj a.2),ae (aj a.1%aj a.2)):=by
 have E:=cX h
 rw[lz (by rw[jo h,gu h];rfl) (zY E)]
 have hf:fits (aj a.1/aj a.2)=true:=by
  refine j7 (eU (jo h)) ?_
  obtain⟨d,hd⟩:∃d:Nat,aj a.2=(d:Int):=⟨(aj a.2).toNat,by omega⟩
  rw[hd]at E ⊢
  rcases Int.le_total 0 (aj a.1)with h0|h0
  · have h1:=Int.ediv_nonneg h0 (Int.le_of_lt E)
    have h2:=Int.ediv_le_self (b:=(d:Int)) h0
    omega
  · have h1:aj a.1/(d:Int)<=0:=Int.ediv_nonpos_of_nonpos_of_neg h0 E
    have h2:aj a.1<=aj a.1/(d:Int):=by
     refine Int.le_ediv_of_mul_le E ?_
     have G:0<=(-aj a.1)*((d:Int)-1):=Int.mul_nonneg U U
     rw[Int.neg_mul,Int.mul_sub,Int.mul_one]at G
     omega
    omega
 unfold bc;rw[if_pos hf];rfl
def qP (x:Int):Int:=aO x 0
def JF {a:R}(h:bL a=true):fits (aj a.1%aj a.2)=true:=by
 have E:=cX h
 refine j7 (eU (gu h)) ?_
 have h1:=Int.emod_nonneg (aj a.1) (show aj a.2≠0 by omega)
 have h2:=Int.emod_lt_of_pos (aj a.1) E
 omega
def wE {a:R}(h:bL a=true):dM (ae (aj a.1/aj a.2)) [48]=aO (aj a.1/aj a.2) 0:=by
 have hd:=Re h
 have hf:fits (aj a.1/aj a.2)=true:=by
  rw[lz (by rw[jo h,gu h];rfl) (zY (cX h))]at hd
  cases hh:fits (aj a.1/aj a.2)with
  |true=>rfl
  |false=>unfold bc at hd;rw[hh]at hd;simp at hd
 rw[gP (bi hf),aK]
def zZ {a:R}(h:bL a=true):(ae (aj a.1%aj a.2)=[48])↔aj a.1%aj a.2=0:=by
 rw[<-fY (bi (JF h)),aK]
def TL {a:R}(h:bL a=true)(h1:¬dM (ae (aj a.1/aj a.2)) [48]=0):dM (ae (aj a.1/aj a.2)) [48]=qP (aj a.1):=by
 rw[wE h]at *
 have G:=cX h
 unfold qP
 refine oc ?_ ?_
 · constructor
   · intro E
     by_cases h9:aj a.1<0
     · exact h9
     · have:=Int.ediv_nonneg (Int.not_lt.1 h9) (Int.le_of_lt G);omega
   · intro E;exact Int.ediv_neg_of_neg_of_pos E G
 · constructor
   · intro E;rw[E]at h1;exact absurd (jr Z) h1
   · intro E;rw[E];simp
def JG {a:R}(h:bL a=true)(h1:dM (ae (aj a.1/aj a.2)) [48]=0):0<=aj a.1/\aj a.1%aj a.2=aj a.1:=by
 rw[wE h]at h1
 have E:=cX h
 have hq:aj a.1/aj a.2=0:=by
  unfold aO at h1
  split at h1
  · omega
  · split at h1
    · assumption
    · omega
 have h2:=Int.emod_add_mul_ediv (aj a.1) (aj a.2)
 rw[hq]at h2
 have h3:=Int.emod_nonneg (aj a.1) (show aj a.2≠0 by omega)
 simp at h2
 exact⟨by omega,h2⟩
def TM {a:R}(h:bL a=true)(h1:dM (ae (aj a.1/aj a.2)) [48]=0)(h2:ae (aj a.1%aj a.2)=[48]):(0:Int)=qP (aj a.1):=by
 obtain⟨_,h4⟩:=JG h h1
 rw[zZ h,h4]at h2
 unfold qP;rw[jr h2]
def TN {a:R}(h:bL a=true)(h1:dM (ae (aj a.1/aj a.2)) [48]=0)(h2:¬ae (aj a.1%aj a.2)=[48]):(1:Int)=qP (aj a.1):=by
 obtain⟨_,h4⟩:=JG h h1
 rw[zZ h,h4]at h2
 unfold qP;rw[eL U]
def Oq (a b:List UInt8):-1<=dM a b/\dM a b<=1:=by
 unfold dM aO
 split
 · split
   · omega
   · split <;>omega
 · omega
set_option maxRecDepth 100000 in
def Ot (x1 x2:List UInt8)(w:World)(ht:Tb w)(h:bL (x1,x2)=true):
 CL 26 #[.agg #[S x1,S x2],.agg #[S [48],S [49]]] w (aI w λv w'=>v=.int .i64 (qP (aj x1))):=by
 have Av:=Re h;refine aE func26 Z (I ?_);refine bx (λ_ Af G=>?_);have ht:=ab6 Af.2 ht;have E:=Af.2;refine bx (λ_ Ao H=>?_);have ht:=ab6 Ao.2 ht;have⟨G,E⟩:=bn Ao.2 G E;refine I ?_;refine cl r9 (dU x1 x2 _ ht) ?_;rintro _ _ A0 rfl;have ht:=ab6 A0.2 ht;have⟨G,H,E⟩:=cj A0.2 G H E;refine I ?_;refine cl r9 (dU [48] [49] _ ht) ?_;rintro _ _ Ab rfl;have ht:=ab6 Ab.2 ht;have⟨G,H,E⟩:=cj Ab.2 G H E;refine I ?_;refine wpIn_label (I ?_);refine cl za (j6 x1 x2 _ ht) ?_;rintro Ar _ Am O;have ht:=ab6 Am.2 ht;have⟨H,E⟩:=bn Am.2 H E;rw[Av]at O;have O:Ar=.tuple #[S (ae (aj x1/aj x2)),S (ae (aj x1%aj x2)),.int .i64 0]:=O;subst O;refine I ?_;refine cl za (j6 [48] [49] _ ht) ?_;rintro Aq _ Ap W;have E:=xt E Ap.2;rw[GE]at W;have W:Aq=.tuple #[S [48],S [48],.int .i64 0]:=W;subst W;refine I ?_;refine cl xr (pm (ae (aj x1/aj x2)) [48] _) ?_;rintro _ _ As rfl;have E:=xt E As.2;have Aw:=Oq (ae (aj x1/aj x2)) [48];refine I ?_;by_cases cx:(dM (ae (aj x1/aj x2)) [48])=0;refine I ?_;by_cases cv:(ae (aj x1%aj x2))=([48]);refine I ?_;refine sh (b:=[48]) (I ?_);refine sh (a:=[48]) (b:=[48]) (I ?_)
 exact am (t:=4) (v:=.int .i64 0) Z E (qb2 (Value.int .i64) (TM (a:=(x1,x2)) h cx cv)) Z;refine I ?_;refine sh (b:=[48]) (I ?_);refine sh (b:=[48]) (I ?_);refine sh (a:=[48]) (b:=[48]) (I ?_);exact am (t:=4) (v:=.int .i64 1) Z E (qb2 (Value.int .i64) (TN (a:=(x1,x2)) h cx cv)) Z;refine I ?_;refine aa (ri (a:=1) (b:=dM (ae (aj x1/aj x2)) [48]) (c:=1*(dM (ae (aj x1/aj x2)) [48])) Z Z zd Z ?_);refine I ?_;exact am (t:=4) (v:=.int .i64 (1*(dM (ae (aj x1/aj x2)) [48]))) Z E (qb2 (Value.int .i64) ((Int.one_mul _).trans (TL (a:=(x1,x2)) h cx))) Z
def ak {p:Prop}(h:p:=by assumption):p:=h
def c45 :(((c.toNat:Nat):Int)=45)↔c=45:=by
 constructor
 · intro h;exact UInt8.toNat_inj.1 (by have:(45:UInt8).toNat=45:=rfl;omega)
 · intro h;subst h;rfl
def c48 :(((c.toNat:Nat):Int)=48)↔c=48:=by
 constructor
 · intro h;exact UInt8.toNat_inj.1 (by have:(48:UInt8).toNat=48:=rfl;omega)
 · intro h;subst h;rfl
def z6 (hc:l[0]?=some c)(h:((c.toNat:Nat):Int)=45):neg l=true/\body l=l.drop 1:=by
 rw[c45]at h;subst h
 cases l with
 |nil=>simp at hc
 |cons a t=>simp at hc;subst hc;exact⟨rfl,rfl⟩
def EJ (hc:l[0]?=some c)(h:¬((c.toNat:Nat):Int)=45):neg l=false/\body l=l:=by
 have E:l.head?≠some 45:=by rw[List.head?_eq_getElem?,hc];intro e;cases e;exact h Z
 exact⟨Jl E,xP E⟩
def JH (h:¬(0:Int)<((l.length:Nat):Int)):neg l=false/\body l=l:=by
 have:l=[]:=List.length_eq_zero_iff.1 U
 subst this;exact⟨rfl,rfl⟩
section
variable {D:List UInt8}
def HO (hb:neg l=true/\body l=D)(h:D=[48]):Value.bool false=.bool (isInt l):=by
 unfold isInt;rw[hb.1,hb.2,h];rfl
def HP (hb:neg l=q/\body l=D)(h:¬(0:Int)<((D.length:Nat):Int)):Value.bool false=.bool (isInt l):=by
 have:D=[]:=List.length_eq_zero_iff.1 U
 unfold isInt ef;rw[hb.2,this];rfl
def HQ (hb:neg l=q/\body l=D)(h:¬((D.length:Nat):Int)<=200):Value.bool false=.bool (isInt l):=by
 have:¬D.length<=200:=J
 unfold isInt ef;rw[hb.2];simp[this]
def sS (hb:neg l=q/\body l=D)(hc:D[i]?=some c)(h:ca c=false):Value.bool false=.bool (isInt l):=by
 have:D.all ca=false:=by
  rw[List.all_eq_false]
  exact⟨c,List.mem_iff_getElem?.2 ⟨i,hc⟩,by simp[h]⟩
 unfold isInt ef;rw[hb.2,this];simp
def dig_lo (h:((c.toNat:Nat):Int)<48):ca c=false:=by unfold ca;simp;omega
def dig_hi (h:(57:Int)<((c.toNat:Nat):Int)):ca c=false:=by unfold ca;simp;omega
def JI (h1:¬((c.toNat:Nat):Int)<48)(h2:¬(57:Int)<((c.toNat:Nat):Int)):ca c=true:=by unfold ca;simp;omega
def HR (hb:neg l=false/\body l=D)(h:D=[48]):Value.bool true=.bool (isInt l):=by
 unfold isInt;rw[hb.1,hb.2,h];rfl
def HS (hb:neg l=q/\body l=D)(ha:D.all ca=true)(h0:(0:Int)<((D.length:Nat):Int))(h1:((D.length:Nat):Int)<=200)(h:¬D=[48])(hc:D[0]?=some c):Value.bool (!decide (((c.toNat:Nat):Int)=48))=.bool (isInt l):=by
 have E:D.isEmpty=false:=by cases D <;>simp_all
 have e2:D.length<=200:=J
 have G:D.head?=some c:=by rw[List.head?_eq_getElem?];exact hc
 congr 1
 unfold isInt ef
 rw[hb.2]
 simp only[E,e2,ha,h,G,c48,Bool.not_false,decide_true,decide_false,Bool.and_self,Bool.true_and,Bool.false_or,Bool.and_false,Bool.not_false,Bool.and_true,ne_eq,Option.some.injEq,decide_not]
def nE (ha:(D.take i).all ca=true)(hc:D[i]?=some c)(h:ca c=true):(D.take (i+1)).all ca=true:=by
 have hi:i<D.length:=(List.getElem?_eq_some_iff.1 hc).1
 have E:=(List.getElem?_eq_some_iff.1 hc).2
 rw[List.take_succ_eq_append_getElem hi,List.all_append,ha,E]
 simp[h]
end
structure Dg (w:World)(lo:Nat)(A:Option Addr)(n c a:Nat):Prop where
 row:Rw w lo A (ints (ap 10 a))
 len:(ap 10 a).length=n
 cap:n<=c
section
variable {w0 w':World}{lo:Nat}{c:Nat}
def Dg.ext (k:aP w w')(h:Dg w lo A n c a):Dg w' lo A n c a:=⟨h.row.ext k,h.len,h.cap⟩
def ac4:=@Dg.ext
def Dg.gr {row:Option Nat}(k:w.grownBy w' row)(hne:∀ad,A=some ad->some ad.block≠row)(h:Dg w lo A n c a):Dg w' lo A n c a:=⟨h.row.gr k hne,h.len,h.cap⟩
def Dg.mono (hl:lo'<=lo)(h:Dg w lo A n c a):Dg w lo' A n c a:=⟨h.row.mono hl,h.len,h.cap⟩
def Dg.lt (h:Dg w lo A n c a):∀x∈ap 10 a,x<10:=eI 10 U a
def Dg.val (h:Dg w lo A n c a):bP 10 (ap 10 a)=a:=cG 10 U a
def Dg.zero (w:World)(lo:Nat):Dg w lo none 0 0 0:=⟨Rw.nil w lo,rfl,qa0 _⟩
def Dg.trim {l:List Nat}{m:Nat}(hr:Rw w lo A (ints l))(hd:∀d∈l,d<10)(hv:bP 10 l=a)(ht:dA l=l.take m)(hm:m<=l.length)(hc:m<=c):Dg w lo A m c a:=by
 have h1:ap 10 a=l.take m:=by rw[<-ht,<-hv];exact(mo 10 U l hd).symm
 refine⟨?_,?_,hc⟩
 · rw[h1]
   have:=hr.take m
   simpa[ints,List.map_take]using this
 · rw[h1];simp;omega
end
def z7 (hc:d[d.length-1-i]?=some c)(hi:i<d.length):eA (d.drop (d.length-i))++[c.toNat-48]=eA (d.drop (d.length-(i+1))):=by
 have hlt:d.length-(i+1)<d.length:=J
 have E:d.drop (d.length-(i+1))=c::d.drop (d.length-i):=by
  rw[List.drop_eq_getElem_cons hlt]
  have e2:d[d.length-(i+1)]?=some c:=by rw[show d.length-(i+1)=d.length-1-i by omega];exact hc
  rw[List.getElem?_eq_getElem hlt]at e2
  rw[Option.some.inj e2,show d.length-(i+1)+1=d.length-i by omega]
 rw[E];simp[eA]
set_option maxRecDepth 100000 in
def cF (l:List UInt8)(w:World)(hl:l.length<=1000000):
 CL 135 #[S l] w (aI w λv w'=>v=.bool (isInt l)):=by
 refine aE func135 Z (I ?_);by_cases cf:0<(((l).length:Nat):Int);refine I ?_;refine aa (du (l:=l) U9 Z ?_);refine I ?_;have Af:=dr (l:=l) (i:=0) U;refine aa (io (l:=l) (i:=0) (c:=(l.getD 0 0)) U9 Z Z Af ?_);refine I ?_;by_cases lr:(((l.getD 0 0).toNat:Nat):Int)=45;have hb:=z6 (dr U) lr;refine I ?_;refine aa (me (l:=l) (i:=1) (j:=(l).length) U9 Z (.inr ⟨_,qb2 some Z⟩) (.inl ⟨rfl,rfl⟩) U U ?_);rw[show((l).take ((l).length)).drop 1=(l).drop 1 by rw[List.take_length]];refine I ?_;refine sh (b:=[48]) (I ?_);by_cases lm:((l).drop 1)=([48]);refine I ?_;exact am (t:=2) (v:=.bool false) Z (aa1 _) q3 Z;refine I ?_;have hlD:((l).drop 1).length<=1000000:=by first|omega|(simp;omega)
 have Ap:=aa1 w;refine cg [(2,3),(16,31)] (λA0 e W=>∃i:Nat,(((l).drop 1).length-i=A0)/\(e 3=.int .i64 i)/\(i<=((l).drop 1).length)/\((((l).drop 1).take i).all ca=true)/\(aP w W)) (((l).drop 1).length-0) ⟨0,rfl,rfl,(qa7 _),rfl,Ap⟩ ?_;rintro _ _ _ ⟨i,rfl,Ay,hi,G,H⟩;by_cases hlt:i<((l).drop 1).length;refine I ?_;refine aa (j3 (l:=(l).drop 1) (m:=((l).drop 1).length) U9 Z Z ?_);refine I ?_;by_cases cv:(((((l).drop 1).getD i 0).toNat:Nat):Int)<48;refine I ?_;have As:=dr (l:=(l).drop 1) (i:=(i)) U;refine aa (io (l:=(l).drop 1) (i:=(i)) (c:=(((l).drop 1).getD i 0)) U9 Z Z As ?_);refine I ?_;exact am (t:=2) (v:=.bool false) Z H q3 Z;refine I ?_;have Aq:=dr (l:=(l).drop 1) (i:=(i)) U;refine aa (io (l:=(l).drop 1) (i:=(i)) (c:=(((l).drop 1).getD i 0)) U9 Z Z Aq ?_);refine I ?_;have ny:=dr (l:=(l).drop 1) (i:=(i)) U;refine aa (io (l:=(l).drop 1) (i:=(i)) (c:=(((l).drop 1).getD i 0)) U9 Z Z ny ?_);refine I ?_
 by_cases ly:57<(((((l).drop 1).getD i 0).toNat:Nat):Int);refine I ?_;exact am (t:=2) (v:=.bool false) Z H q3 Z;refine I ?_;refine aa (cC (a:=(i:Int)) (b:=1) (c:=((i+1:Nat):Int)) Z Z zd U ?_);refine I ?_;exact bJ ⟨i+1,rfl,rfl,U,(by first|exact nE G ak (JI ak ak)),H⟩;have E:((l).drop 1).all ca=true:=by rw[<-List.take_length (l:=(l).drop 1),show((l).drop 1).length=i by omega];exact G
 refine I ?_;refine aa (j3 (l:=(l).drop 1) (m:=((l).drop 1).length) U9 Z Z ?_);refine I ?_;by_cases cr:0<((((l).drop 1).length:Nat):Int);by_cases cw:((((l).drop 1).length:Nat):Int)<=200;refine I ?_;refine aa (du (l:=(l).drop 1) U9 Z ?_);refine I ?_;refine aa (du (l:=(l).drop 1) U9 Z ?_);refine I ?_;refine sh (b:=[48]) (I ?_);have od:=dr (l:=(l).drop 1) (i:=0) U;refine aa (io (l:=(l).drop 1) (i:=0) (c:=(((l).drop 1).getD 0 0)) U9 Z Z od ?_);refine I ?_;exact am (t:=2) (v:=.bool (!decide ((((((l).drop 1).getD 0 0).toNat:Nat):Int)=48))) Z H q3 Z;refine I ?_;refine aa (du (l:=(l).drop 1) U9 Z ?_);refine I ?_;refine aa (du (l:=(l).drop 1) U9 Z ?_);refine I ?_
 exact am (t:=2) (v:=.bool false) Z H q3 Z;refine I ?_;refine aa (du (l:=(l).drop 1) U9 Z ?_);refine I ?_;exact am (t:=2) (v:=.bool false) Z H q3 Z;have hb:=EJ (dr U) lr;refine I ?_;have hlD:(l).length<=1000000:=by first|omega|(simp;omega)
 have Ao:=aa1 w;refine cg [(2,3),(16,31)] (λA0 e W=>∃i:Nat,((l).length-i=A0)/\(e 3=.int .i64 i)/\(i<=(l).length)/\(((l).take i).all ca=true)/\(aP w W)) ((l).length-0) ⟨0,rfl,rfl,(qa7 _),rfl,Ao⟩ ?_;rintro _ _ _ ⟨i,rfl,Aw,hi,G,O⟩;by_cases hlt:i<(l).length;refine I ?_;refine aa (j3 (l:=l) (m:=(l).length) U9 Z Z ?_);refine I ?_;by_cases cx:(((l.getD i 0).toNat:Nat):Int)<48;refine I ?_;have Ab:=dr (l:=l) (i:=(i)) U;refine aa (io (l:=l) (i:=(i)) (c:=(l.getD i 0)) U9 Z Z Ab ?_);refine I ?_;exact am (t:=2) (v:=.bool false) Z O q3 Z;refine I ?_;have Av:=dr (l:=l) (i:=(i)) U;refine aa (io (l:=l) (i:=(i)) (c:=(l.getD i 0)) U9 Z Z Av ?_);refine I ?_;have Ar:=dr (l:=l) (i:=(i)) U;refine aa (io (l:=l) (i:=(i)) (c:=(l.getD i 0)) U9 Z Z Ar ?_);refine I ?_;by_cases mq:57<(((l.getD i 0).toNat:Nat):Int);refine I ?_
 exact am (t:=2) (v:=.bool false) Z O q3 Z;refine I ?_;refine aa (cC (a:=(i:Int)) (b:=1) (c:=((i+1:Nat):Int)) Z Z zd U ?_);refine I ?_;exact bJ ⟨i+1,rfl,rfl,U,(by first|exact nE G ak (JI ak ak)),O⟩;have E:(l).all ca=true:=by rw[<-List.take_length (l:=l),show(l).length=i by omega];exact G
 refine I ?_;refine aa (j3 (l:=l) (m:=(l).length) U9 Z Z ?_);refine I ?_;by_cases cm:(((l).length:Nat):Int)<=200;by_cases cy:l=([48]);refine I ?_;refine aa (du (l:=l) U9 Z ?_);refine I ?_;refine aa (du (l:=l) U9 Z ?_);refine I ?_;refine sh (b:=[48]) (I ?_);exact am (t:=2) (v:=.bool true) Z O q3 Z;refine I ?_;refine aa (du (l:=l) U9 Z ?_);refine I ?_;refine aa (du (l:=l) U9 Z ?_);refine I ?_;refine sh (b:=[48]) (I ?_);have Am:=dr (l:=l) (i:=0) U;refine aa (io (l:=l) (i:=0) (c:=(l.getD 0 0)) U9 Z Z Am ?_);refine I ?_;exact am (t:=2) (v:=.bool (!decide ((((l.getD 0 0).toNat:Nat):Int)=48))) Z O q3 Z;refine I ?_
 refine aa (du (l:=l) U9 Z ?_);refine I ?_;refine aa (du (l:=l) U9 Z ?_);refine I ?_;exact am (t:=2) (v:=.bool false) Z O q3 Z;have hb:=JH cf;refine I ?_;refine aa (du (l:=l) U9 Z ?_);refine I ?_;have hlD:(l).length<=1000000:=by first|omega|(simp;omega)
 have wr:=aa1 w;refine cg [(2,3),(16,31)] (λA0 e W=>∃i:Nat,((l).length-i=A0)/\(e 3=.int .i64 i)/\(i<=(l).length)/\(((l).take i).all ca=true)/\(aP w W)) ((l).length-0) ⟨0,rfl,rfl,(qa7 _),rfl,wr⟩ ?_;rintro _ _ _ ⟨i,rfl,Ax,hi,G,nm⟩;by_cases hlt:i<(l).length;exact absurd hlt U;have E:(l).all ca=true:=by rw[<-List.take_length (l:=l),show(l).length=i by omega];exact G
 refine I ?_;refine aa (j3 (l:=l) (m:=(l).length) U9 Z Z ?_);refine I ?_;refine aa (du (l:=l) U9 Z ?_);refine I ?_;exact am (t:=2) (v:=.bool false) Z nm q3 Z
set_option maxRecDepth 100000
def kN (h:isInt l=true):0<l.length/\l.length<=201:=by
 have h1:=kK (eu h)
 cases hn:neg l with
 |true=>have:=tY hn;rw[this];simp;omega
 |false=>rw[o8 hn]at h1;omega
def ut (d:List UInt8):eA (d.drop (d.length-0))=[]:=by simp[eA]
def pq (hd:ef d=true)(h:k=d.length/\¬d=[48]\/k=0/\d=[48]):eA (d.drop (d.length-k))=ap 10 (aH d):=by
 rcases h with⟨rfl,h⟩|⟨rfl,rfl⟩
 · rw[Nat.sub_self,List.drop_zero];exact zI hd h
 · rfl
def x9 (h:d.all ca=true)(hi:i<d.length):48<=(d.getD i 0).toNat/\(d.getD i 0).toNat<=57:=by
 have hc:=dr hi
 have:=List.all_eq_true.1 h _ (List.mem_iff_getElem?.2 ⟨i,hc⟩)
 simpa[ca]using this
def qQ {v:Value}(h:w.ownsRow base 3 1 v n (ints xs))(hx:xs=ap 10 a):∃A c,v=.slice A n c/\Dg w base A n c a:=by
 subst hx
 obtain⟨A,c,rfl,hc,-⟩:=eO h
 refine⟨A,c,rfl,aa7 h,?_,hc⟩
 have:=h.1
 rw[iY]at this;omega
def Xf (l:List UInt8):List Value:=l.map λb=>Value.int .u8 b.toNat
def uu (hn:X.length=n)(hk:k<n):cN (X.drop (n-(k+1)))=cN (X.drop (n-k))++[UInt8.ofNat (48+X.getD (n-1-k) 0)]:=by
 have h1:X.drop (n-(k+1))=X.getD (n-(k+1)) 0::X.drop (n-(k+1)+1):=drop_at U
 rw[h1,show n-(k+1)+1=n-k by omega,show n-(k+1)=n-1-k by omega]
 simp[cN]
def wF {d:Nat}(h:d<10):(((UInt8.ofNat (48+d)).toNat:Nat):Int)=48+(d:Int):=by
 have e:(UInt8.ofNat (48+d)).toNat=48+d:=by rw[UInt8.toNat_ofNat'];omega
 rw[e];omega
def jz (h:∀x∈xs,x<10)(i:Nat):xs.getD i 0<10:=by
 rcases Nat.lt_or_ge i xs.length with hi|hi
 · have E:xs[i]? =some xs[i]:=qa5 hi
   rw[List.getD,E];exact h _ (List.getElem_mem hi)
 · rw[lw hi];omega
def sj (ng:Bool)(a:Nat):List UInt8:=if a=0 then[48]else if ng then 45::br a else br a
def vU (a:Nat):Bool:=decide (a=0)||decide ((ap 10 a).length<=200)
def JJ (h:a=0):Value.tuple #[S [48],.bool true]=.tuple #[S (sj ng a),.bool (vU a)]:=by subst h;rfl
def EK (h:0<a)(hn:(ap 10 a).length=n)(hl:l=(if ng then[45]else[])++cN (ap 10 a)):Value.tuple #[S l,.bool (decide ((n:Int)<=200))]=.tuple #[S (sj ng a),.bool (vU a)]:=by
 have G:sj ng a=l:=by
  have E:¬a=0:=J
  unfold sj br
  rw[if_neg E,if_neg E,hl]
  cases ng <;>rfl
 have e2:vU a=decide ((n:Int)<=200):=by
  have E:¬a=0:=J
  unfold vU;rw[hn,decide_eq_false E,Bool.false_or,decide_eq_decide];omega
 rw[G,e2]
def EL (B:Nat)(xs:List Nat)(h:j<xs.length):bP B xs=bP B (xs.take j)+B^j*(xs.getD j 0+B*bP B (xs.drop (j+1))):=by
 conv=>lhs;rw[<-List.take_append_drop j xs]
 rw[b9,List.length_take,Nat.min_eq_left U,drop_at h]
 rfl
def wG (hn:X.length=n)(hm:Y.length=n)(h:∀i,j<=i->i<n->X.getD i 0=Y.getD i 0):X.drop j=Y.drop j:=by
 apply List.ext_getElem?
 intro i
 rw[List.getElem?_drop,List.getElem?_drop]
 by_cases hi:j+i<n
 · have:=h (j+i) U hi
   rw[List.getD,List.getD,List.getElem?_eq_getElem U,List.getElem?_eq_getElem U]at this
   rw[List.getElem?_eq_getElem U,List.getElem?_eq_getElem U]
   exact qb2 some this
 · rw[List.getElem?_eq_none U,List.getElem?_eq_none U]
def JK (hX:∀d∈X,d<10)(hn:X.length=n)(hm:Y.length=n)(hj:j<n)(h:∀i,j+1<=i->i<n->X.getD i 0=Y.getD i 0)(hl:X.getD j 0<Y.getD j 0):bP 10 X<bP 10 Y:=by
 rw[EL 10 X (show j<X.length by omega),EL 10 Y (show j<Y.length by omega),wG (n:=n) (j:=j+1) hn hm h]
 have h1:bP 10 (X.take j)<10^j:=by
  have:=lh 10 (X.take j) (λd hd=>hX d (List.mem_of_mem_take hd))
  rwa [List.length_take,Nat.min_eq_left U]at this
 have h2:10^j*(X.getD j 0+10*bP 10 (Y.drop (j+1))+1)<=10^j*(Y.getD j 0+10*bP 10 (Y.drop (j+1))):=Nat.mul_le_mul_left _ U
 rw[Nat.mul_add,Nat.mul_one]at h2
 omega
section
def z8 (h1:(ap 10 a).length=n1)(h2:(ap 10 b).length=n2)(h:n1<n2):a<b:=by
 rcases Nat.lt_or_ge a b with h3|h3
 · exact h3
 · have:=ep (B:=10) U h3;omega
def uv (h1:(ap 10 a).length=n1)(h2:(ap 10 b).length=n2)(h:n1<n2):(-1:Int)=aO (a:Int) (b:Int):=by
 rw[fV];have:=z8 h1 h2 h;omega
def uw (h1:(ap 10 a).length=n1)(h2:(ap 10 b).length=n2)(h:n2<n1):(1:Int)=aO (a:Int) (b:Int):=by
 rw[eL];have:=z8 h2 h1 h;omega
def pr (h1:(ap 10 a).length=n1)(h2:(ap 10 b).length=n2)(hn:n1=n2)(hk:k<n1)(h:∀i,n1-k<=i->i<n1->(ap 10 a).getD i 0=(ap 10 b).getD i 0)(hl:(ap 10 a).getD (n1-1-k) 0<(ap 10 b).getD (n1-1-k) 0):(-1:Int)=aO (a:Int) (b:Int):=by
 subst hn
 have:=JK (eI 10 U a) h1 h2 (j:=n1-1-k) U (λi _=>h i U) hl
 rw[cG 10 U,cG 10 U]at this
 rw[fV];omega
def pt (h1:(ap 10 a).length=n1)(h2:(ap 10 b).length=n2)(hn:n1=n2)(hk:k<n1)(h:∀i,n1-k<=i->i<n1->(ap 10 a).getD i 0=(ap 10 b).getD i 0)(hl:(ap 10 b).getD (n1-1-k) 0<(ap 10 a).getD (n1-1-k) 0):(1:Int)=aO (a:Int) (b:Int):=by
 subst hn
 have:=JK (eI 10 U b) h2 h1 (j:=n1-1-k) U (λi _ E=>(h i U E).symm) hl
 rw[cG 10 U,cG 10 U]at this
 rw[eL];omega
def ux (h1:(ap 10 a).length=n1)(h2:(ap 10 b).length=n2)(hn:n1=n2)(h:∀i,i<n1->(ap 10 a).getD i 0=(ap 10 b).getD i 0):(0:Int)=aO (a:Int) (b:Int):=by
 subst hn
 have e:=wG (j:=0) h1 h2 (λi _ hi=>h i hi)
 simp only[List.drop_zero]at e
 have:=qb2 (bP 10) e
 rw[cG 10 U,cG 10 U]at this
 rw[jr];omega
end
def eH (l:List UInt8)(w:World)(h:isInt l=true):
 CL 177 #[S l] w (aI w λv w'=>∃A n c,v=.tuple #[.bool (neg l),.slice A n c]/\Dg w' w.heap.size A n c (aH (body l))):=by
 have hl:=kN h;have Aq:=eu h;refine aE func177 Z (I ?_);have Ax:=dr (l:=l) (i:=0) U;refine aa (io (l:=l) (i:=0) (c:=(l.getD 0 0)) U9 Z Z Ax ?_);refine I ?_;by_cases cw:(((l.getD 0 0).toNat:Nat):Int)=45;have hb:=z6 (dr U) cw;have Ab:neg l=true:=hb.1;have hD:ef ((l).drop 1)=true:=by rw[<-hb.2];exact Aq
 have hlD:=kK hD;have hdD:=jI hD;have hvD:aH (body l)=aH ((l).drop 1):=by rw[hb.2]
 refine I ?_;refine aa (me (l:=l) (i:=1) (j:=(l).length) U9 Z (.inr ⟨_,qb2 some Z⟩) (.inl ⟨rfl,rfl⟩) U U ?_);rw[show((l).take ((l).length)).drop 1=(l).drop 1 by rw[List.take_length]];refine I ?_;refine aa (du (l:=(l).drop 1) U9 Z ?_);refine nY (I ?_);have Am:World.ownsRow w w.heap.size 3 1 (.slice none 0 0) 0 (ints (eA (((l).drop 1).drop (((l).drop 1).length-0)))):=by rw[ut];exact bM
 have CB:=aa1 w;refine cg [(5,6),(16,31)] (λAf e W=>∃k:Nat,∃G:Value,(((l).drop 1).length-k=Af)/\(e 6=.int .i64 (((((l).drop 1).length:Nat):Int)-1-(k:Int)))/\(e 5=G)/\(k<=((l).drop 1).length)/\((l).drop 1=[48]->k=0)/\(aP w W)/\(W.ownsRow w.heap.size 3 1 G k (ints (eA (((l).drop 1).drop (((l).drop 1).length-k)))))) (((l).drop 1).length-0) ⟨0,.slice none 0 0,rfl,(qb2 (Value.int .i64) U),rfl,(qa7 _),(λ_=>rfl),CB,Am⟩ ?_;rintro _ _ _ ⟨k,G,rfl,E1,CG,hk,h4,O,ho⟩;have D2:=bz O;by_cases h48:(l).drop 1=[48];by_cases hlt:k<((l).drop 1).length;obtain⟨Ao,E,rfl,A0⟩:=qQ ho (pq hD DB);refine I ?_;refine aa (tn (a:=(l).drop 1) (b:=[48]) (q:=false) Z Z (by rw[decide_eq_true h48];rfl) ?_);refine I ?_;exact bw (t:=2) (u:=3) (v1:=.bool (decide ((((l.getD 0 0).toNat:Nat):Int)=45))) (v2:=.slice Ao k E) Z O ⟨Ao,k,E,by rw[Ab,decide_eq_true BT],by rw[hvD];exact A0⟩ Z Z;exfalso;have Ay:=h4 h48;have Cr:((l).drop 1).length=1:=by rw[h48];rfl
 omega;by_cases hlt:k<((l).drop 1).length;have hlD1:=hlD.1;refine I ?_;refine aa (tn (a:=(l).drop 1) (b:=[48]) (q:=true) Z Z (by rw[decide_eq_false h48];rfl) ?_);refine I ?_;refine aa (aT (v:=G) CG ?_);refine I ?_;have nm:=dr (l:=(l).drop 1) (i:=((l).drop 1).length-1-k) U;refine aa (io (l:=(l).drop 1) (i:=((l).drop 1).length-1-k) (c:=(((l).drop 1).getD (((l).drop 1).length-1-k) 0)) U9 Z (dv Z U) nm ?_);refine aa (IR (k:=.u8) (a:=(((((l).drop 1).getD (((l).drop 1).length-1-k) 0).toNat:Nat):Int)) (b:=48) (c:=(((((l).drop 1).getD (((l).drop 1).length-1-k) 0).toNat-48:Nat):Int)) Z Z (by have:=x9 hdD (i:=((l).drop 1).length-1-k) U;rw[wrap_u8 U];omega) ?_);refine aa (fU (k:=.u8) (k':=.i64) (a:=(((((l).drop 1).getD (((l).drop 1).length-1-k) 0).toNat-48:Nat):Int)) (c:=(((((l).drop 1).getD (((l).drop 1).length-1-k) 0).toNat-48:Nat):Int)) U5 U3 Z (by have:=x9 hdD (i:=((l).drop 1).length-1-k) U;rw[wrap_i64 U]) ?_);refine BS (λ_ As _ B2=>?_);have ho:=ab As ho;have O:=xt O As;refine AP ho (aa7 B2) (λAp _ Az B1 _=>?_);have O:=bo ho U U O B1;refine aa (aL (v:=Ap) Z ?_);refine I ?_
 refine aa (jl (a:=((((l).drop 1).length:Nat):Int)-1-(k:Int)) (b:=1) (c:=((((l).drop 1).length:Nat):Int)-1-((k+1:Nat):Int)) Z Z zd U ?_);refine I ?_;exact bJ ⟨k+1,Ap,rfl,rfl,rfl,U,(λh=>absurd h h48),O,(aQ Az Z (by rw[<-z7 (dr U) U,mw];rfl))⟩;obtain⟨Ao,E,rfl,A0⟩:=qQ ho (pq hD DB);refine I ?_;exact bw (t:=2) (u:=3) (v1:=.bool (decide ((((l.getD 0 0).toNat:Nat):Int)=45))) (v2:=.slice Ao k E) Z O ⟨Ao,k,E,by rw[Ab,decide_eq_true BT],by rw[hvD];exact A0⟩ Z Z;have hb:=EJ (dr U) cw;have Ab:neg l=false:=hb.1;have hD:ef l=true:=by rw[<-hb.2];exact Aq
 have hlD:=kK hD;have hdD:=jI hD;have hvD:aH (body l)=aH (l):=by rw[hb.2]
 refine I ?_;refine aa (du (l:=l) U9 Z ?_);refine nY (I ?_);have Am:World.ownsRow w w.heap.size 3 1 (.slice none 0 0) 0 (ints (eA ((l).drop ((l).length-0)))):=by rw[ut];exact bM
 have CY:=aa1 w;refine cg [(5,6),(16,31)] (λAf e W=>∃k:Nat,∃G:Value,((l).length-k=Af)/\(e 6=.int .i64 ((((l).length:Nat):Int)-1-(k:Int)))/\(e 5=G)/\(k<=(l).length)/\(l=[48]->k=0)/\(aP w W)/\(W.ownsRow w.heap.size 3 1 G k (ints (eA ((l).drop ((l).length-k)))))) ((l).length-0) ⟨0,.slice none 0 0,rfl,(qb2 (Value.int .i64) U),rfl,(qa7 _),(λ_=>rfl),CY,Am⟩ ?_;rintro _ _ _ ⟨k,G,rfl,E0,Aw,hk,h4,H,ho⟩;have D1:=bz H;by_cases h48:l=[48];by_cases hlt:k<(l).length;obtain⟨Ao,E,rfl,A0⟩:=qQ ho (pq hD DH);refine I ?_;refine aa (tn (a:=l) (b:=[48]) (q:=false) Z Z (by rw[decide_eq_true h48];rfl) ?_);refine I ?_;exact bw (t:=2) (u:=3) (v1:=.bool (decide ((((l.getD 0 0).toNat:Nat):Int)=45))) (v2:=.slice Ao k E) Z H ⟨Ao,k,E,by rw[Ab,decide_eq_false BT],by rw[hvD];exact A0⟩ Z Z;exfalso;have Ay:=h4 h48;have Cr:(l).length=1:=by rw[h48];rfl
 omega;by_cases hlt:k<(l).length;have hlD1:=hlD.1;refine I ?_;refine aa (tn (a:=l) (b:=[48]) (q:=true) Z Z (by rw[decide_eq_false h48];rfl) ?_);refine I ?_;refine aa (aT (v:=G) Aw ?_);refine I ?_;have B0:=dr (l:=l) (i:=(l).length-1-k) U;refine aa (io (l:=l) (i:=(l).length-1-k) (c:=(l.getD ((l).length-1-k) 0)) U9 Z (dv Z U) B0 ?_);refine aa (IR (k:=.u8) (a:=(((l.getD ((l).length-1-k) 0).toNat:Nat):Int)) (b:=48) (c:=((((l).getD ((l).length-1-k) 0).toNat-48:Nat):Int)) Z Z (by have:=x9 hdD (i:=(l).length-1-k) U;rw[wrap_u8 U];omega) ?_);refine aa (fU (k:=.u8) (k':=.i64) (a:=((((l).getD ((l).length-1-k) 0).toNat-48:Nat):Int)) (c:=((((l).getD ((l).length-1-k) 0).toNat-48:Nat):Int)) U5 U3 Z (by have:=x9 hdD (i:=(l).length-1-k) U;rw[wrap_i64 U]) ?_);refine BS (λ_ Ar _ ny=>?_);have ho:=ab Ar ho;have H:=xt H Ar;refine AP ho (aa7 ny) (λAv _ od C1 _=>?_);have H:=bo ho U U H C1;refine aa (aL (v:=Av) Z ?_);refine I ?_;refine aa (jl (a:=(((l).length:Nat):Int)-1-(k:Int)) (b:=1) (c:=(((l).length:Nat):Int)-1-((k+1:Nat):Int)) Z Z zd U ?_);refine I ?_
 exact bJ ⟨k+1,Av,rfl,rfl,rfl,U,(λh=>absurd h h48),H,(aQ od Z (by rw[<-z7 (dr U) U,mw];rfl))⟩;obtain⟨Ao,E,rfl,A0⟩:=qQ ho (pq hD DH);refine I ?_;exact bw (t:=2) (u:=3) (v1:=.bool (decide ((((l.getD 0 0).toNat:Nat):Int)=45))) (v2:=.slice Ao k E) Z H ⟨Ao,k,E,by rw[Ab,decide_eq_false BT],by rw[hvD];exact A0⟩ Z Z
def kO (h1:Dg w lo1 A1 n1 c1 a)(s1:n1<=100000)(ng:Bool):
 CL 140 #[.bool ng,.slice A1 n1 c1] w (aI w λv w'=>v=.tuple #[S (sj ng a),.bool (vU a)]):=by
 have EW:=h1.len;refine aE func140 Z (I ?_);by_cases ly:(n1:Int)=0;have A0:a=0:=jq (B:=10) U (h1.len.trans U);refine I ?_;exact bw (t:=4) (u:=5) (v1:=S [48]) (v2:=.bool true) Z (aa1 _) (JJ A0) Z Z;have A0:0<a:=mz (B:=10) U kb3;have O:World.ownsRow w w.heap.size 5 1 (.slice none 0 0) 0 (Xf []):=bM;refine I ?_;rcases qa4 ng with cr|cr;refine I ?_;refine BS (λ_ Ab _ E6=>?_);have O:=ab Ab O;have Af:=Ab;have E9:=bz Ab;refine AP O (aa7 E6) (λAw _ E5 nm _=>?_);have Af:=bo O U U Af nm;refine aa (aL (v:=Aw) Z ?_);refine I ?_;refine nY (I ?_);refine cg [(6,7),(18,30)] (λAq e W=>∃k:Nat,∃E:Value,(n1-k=Aq)/\(e 7=.int .i64 ((n1:Int)-1-(k:Int)))/\(e 6=E)/\(k<=n1)/\(aP w W)/\(W.ownsRow w.heap.size 5 1 E (k+1) (Xf ([45]++cN ((ap 10 a).drop (n1-k)))))) (n1-0) ⟨0,Aw,rfl,(qb2 (Value.int .i64) U),rfl,(qa7 _),Af,(aQ E5 JT (by rw[Nat.sub_zero,List.drop_eq_nil_of_le U];rfl))⟩ ?_;rintro _ _ _ ⟨k,E,rfl,GC,D1,hk,H,ho⟩;have ES:=bz H;by_cases hlt:k<n1;have E7:=jz h1.lt (n1-1-k);refine I ?_;refine aa (aT (v:=E) D1 ?_)
 refine I ?_;obtain⟨B1,Ar,B0,CB⟩:=((h1.row).ext H).cells (n1-1-k) _ (bF (xs:=(ap 10 a)) U);refine aa (aD (i:=n1-1-k) (oo:=Ar+(n1-1-k)) kt ie Z B0 (dv Z U) U MT ?_);refine aa (bE (v:=.int .i64 (((ap 10 a).getD (n1-1-k) 0:Nat):Int)) (b:=B1) (o:=Ar+(n1-1-k)) U3 Z Z CB ?_);refine gO ?_;refine aa (fU (k:=.i64) (k':=.u8) (a:=48+((((ap 10 a).getD (n1-1-k) 0):Nat):Int)) (c:=(((UInt8.ofNat (48+((ap 10 a).getD (n1-1-k) 0))).toNat:Nat):Int)) U3 U5 Z ka9 ?_);refine BS (λ_ Av _ wr=>?_);have ho:=ab Av ho;have H:=xt H Av;refine AP ho (aa7 wr) (λAz _ E4 C1 _=>?_);have H:=bo ho U U H C1;refine aa (aL (v:=Az) Z ?_);refine I ?_;refine aa (jl (a:=(n1:Int)-1-(k:Int)) (b:=1) (c:=(n1:Int)-1-((k+1:Nat):Int)) Z Z zd U ?_);refine I ?_;exact bJ ⟨k+1,Az,rfl,rfl,rfl,U,H,(aQ E4 U (by rw[uu h1.len U];simp[Xf]))⟩;obtain⟨Ao,Ap,rfl,B2,-⟩:=eO ho;have Am:([45]++cN ((ap 10 a).drop (n1-k)))=(if true=true then[45]else[])++cN (ap 10 a):=by rw[show n1-k=0 by omega,List.drop_zero];rfl
 refine I ?_;refine aa (QR (l:=[45]++cN ((ap 10 a).drop (n1-k))) (A:=Ao) (m:=(k+1)) (c:=Ap) VD U5 U9 Z (aa7 ho) (by simp[cL];rw[h1.len];omega) ?_);refine I ?_;exact bw (t:=4) (u:=5) (v1:=S ([45]++cN ((ap 10 a).drop (n1-k)))) (v2:=.bool (decide ((n1:Int)<=200))) Z H (EK (ng:=ng) A0 h1.len (by rw[cr];exact Am)) Z Z;refine I ?_;refine nY (I ?_);have CY:=aa1 w;refine cg [(6,7),(18,30)] (λAq e W=>∃k:Nat,∃E:Value,(n1-k=Aq)/\(e 7=.int .i64 ((n1:Int)-1-(k:Int)))/\(e 6=E)/\(k<=n1)/\(aP w W)/\(W.ownsRow w.heap.size 5 1 E (k+0) (Xf (cN ((ap 10 a).drop (n1-k)))))) (n1-0) ⟨0,.slice none 0 0,rfl,(qb2 (Value.int .i64) U),rfl,(qa7 _),CY,(aQ O JT (by rw[Nat.sub_zero,List.drop_eq_nil_of_le U];rfl))⟩ ?_;rintro _ _ _ ⟨k,E,rfl,G0,ny,hk,G,ho⟩;have FR:=bz G;by_cases hlt:k<n1;have E7:=jz h1.lt (n1-1-k);refine I ?_;refine aa (aT (v:=E) ny ?_);refine I ?_;obtain⟨od,Ay,E1,D2⟩:=((h1.row).ext G).cells (n1-1-k) _ (bF (xs:=(ap 10 a)) U);refine aa (aD (i:=n1-1-k) (oo:=Ay+(n1-1-k)) kt ie Z E1 (dv Z U) U MT ?_);refine aa (bE (v:=.int .i64 (((ap 10 a).getD (n1-1-k) 0:Nat):Int)) (b:=od) (o:=Ay+(n1-1-k)) U3 Z Z D2 ?_);refine gO ?_
 refine aa (fU (k:=.i64) (k':=.u8) (a:=48+((((ap 10 a).getD (n1-1-k) 0):Nat):Int)) (c:=(((UInt8.ofNat (48+((ap 10 a).getD (n1-1-k) 0))).toNat:Nat):Int)) U3 U5 Z ka9 ?_);refine BS (λ_ As _ CG=>?_);have ho:=ab As ho;have G:=xt G As;refine AP ho (aa7 CG) (λAx _ E0 Cr _=>?_);have G:=bo ho U U G Cr;refine aa (aL (v:=Ax) Z ?_);refine I ?_;refine aa (jl (a:=(n1:Int)-1-(k:Int)) (b:=1) (c:=(n1:Int)-1-((k+1:Nat):Int)) Z Z zd U ?_);refine I ?_;exact bJ ⟨k+1,Ax,rfl,rfl,rfl,U,G,(aQ E0 U (by rw[uu h1.len U];simp[Xf]))⟩;obtain⟨Ao,Ap,rfl,B2,-⟩:=eO ho;have Am:(cN ((ap 10 a).drop (n1-k)))=(if false=true then[45]else[])++cN (ap 10 a):=by rw[show n1-k=0 by omega,List.drop_zero];rfl
 refine I ?_;refine aa (QR (l:=cN ((ap 10 a).drop (n1-k))) (A:=Ao) (m:=(k+0)) (c:=Ap) VD U5 U9 Z (aa7 ho) (by simp[cL];rw[h1.len];omega) ?_);refine I ?_;exact bw (t:=4) (u:=5) (v1:=S (cN ((ap 10 a).drop (n1-k)))) (v2:=.bool (decide ((n1:Int)<=200))) Z G (EK (ng:=ng) A0 h1.len (by rw[cr];exact Am)) Z Z
def qS {c lo:Nat}(hr:Rw w lo A (ints xs))(hn:xs.length=n)(hc:n<=c)(hb:n<=1000000):
 CL 217 #[.slice A n c] w (aI w λv w'=>∃m,v=.slice A m c/\dA xs=xs.take m/\m<=n):=by
 refine aE func217 Z (I ?_);have Ab:=aa1 w;refine cg [(0,0),(3,19)] (λAo e W=>∃m:Nat,(m=Ao)/\(e 0=.slice A m c)/\(m<=n)/\(dA xs=dA (xs.take m))/\(aP w W)) (n) ⟨n,rfl,rfl,(qa0 _),(by rw[List.take_of_length_le U]),Ab⟩ ?_;rintro _ _ _ ⟨m,rfl,As,Av,G,E⟩;by_cases hm:0<m;by_cases hz:xs.getD (m-1) 0=0;refine I ?_;refine nY (I ?_);obtain⟨Am,O,Af,Aq⟩:=((hr).ext E).cells (m-1) _ (bF (xs:=xs) U);refine aa (aD (i:=m-1) (oo:=O+(m-1)) kt ie Z Af (dv Z U) U MT ?_);refine I ?_;refine aa (bE (v:=.int .i64 ((xs.getD (m-1) 0:Nat):Int)) (b:=Am) (o:=O+(m-1)) U3 Z Z Aq ?_);refine I ?_;refine nY ?_;refine aa (no (j:=m-1) kt ie Z (dv Z U) U ?_);refine I ?_;exact bJ ⟨m-1,rfl,rfl,U,(G.trans (ws (n:=n) U hz)),E⟩;refine I ?_;refine nY (I ?_);obtain⟨Ap,H,A0,Ar⟩:=((hr).ext E).cells (m-1) _ (bF (xs:=xs) U);refine aa (aD (i:=m-1) (oo:=H+(m-1)) kt ie Z A0 (dv Z U) U MT ?_);refine I ?_;refine aa (bE (v:=.int .i64 ((xs.getD (m-1) 0:Nat):Int)) (b:=Ap) (o:=H+(m-1)) U3 Z Z Ar ?_);refine I ?_
 exact am (t:=2) (v:=.slice A m c) Z E ⟨m,rfl,G.trans (mP (n:=n) U CT),by omega⟩ Z;refine I ?_;exact am (t:=2) (v:=.slice A m c) Z E ⟨m,rfl,G.trans (mP (n:=n) U CT),by omega⟩ Z
def jM (h1:Dg w lo1 A1 n1 c1 a)(s1:n1<=100000)(h2:Dg w lo2 A2 n2 c2 b)(s2:n2<=100000):
 CL 178 #[.slice A1 n1 c1,.slice A2 n2 c2] w (aI w λv w'=>v=.int .i64 (aO (a:Int) (b:Int))):=by
 have Ix:=h1.len;have e2:=h2.len;refine aE func178 Z (I ?_);by_cases p6:(n1:Int)=(n2:Int);have H4:n1=n2:=J
 refine I ?_;refine nY (I ?_);have CY:=aa1 w;refine cg [(4,5),(19,40)] (λE5 e W=>∃k:Nat,(n1-k=E5)/\(e 5=.int .i64 ((n1:Int)-1-(k:Int)))/\(k<=n1)/\(∀i,n1-k<=i->i<n1->(ap 10 a).getD i 0=(ap 10 b).getD i 0)/\(aP w W)) (n1-0) ⟨0,rfl,(qb2 (Value.int .i64) U),(qa7 _),(λi h1 h2=>by omega),CY⟩ ?_;rintro _ _ _ ⟨k,rfl,H3,K2,G,E⟩;by_cases hlt:k<n1;by_cases he:(ap 10 a).getD (n1-1-k) 0=(ap 10 b).getD (n1-1-k) 0;have CB:n1-1-k<n1:=J
 obtain⟨FR,B1,G0,As⟩:=((h1.row).ext E).cells (n1-1-k) _ (bF (xs:=(ap 10 a)) U);obtain⟨E9,Aw,GC,Ar⟩:=((h2.row).ext E).cells (n1-1-k) _ (bF (xs:=(ap 10 b)) U);refine I ?_;refine bH 8 ?_;refine sf ?_;refine aB (λ_ _ _ _=>by refine aa (aD (i:=n1-1-k) (oo:=B1+(n1-1-k)) kt ie Z G0 (dv Z U) U MT ?_);refine I ?_;exact aG) ?_;refine aB (λ_ _ E0 _=>by have As:=Cf.ext E0 As;refine aa (bE (v:=.int .i64 (((ap 10 a).getD (n1-1-k) 0:Nat):Int)) (b:=FR) (o:=B1+(n1-1-k)) U3 Z Z As ?_);refine I ?_;exact aG) ?_;refine sf ?_;refine aB (λ_ _ _ _=>by refine aa (aD (i:=n1-1-k) (oo:=Aw+(n1-1-k)) kt ie Z GC (dv Z U) U MT ?_);refine I ?_;exact aG) ?_;refine aB (λ_ _ Cr _=>by have Ar:=Cf.ext Cr Ar;refine aa (bE (v:=.int .i64 (((ap 10 b).getD (n1-1-k) 0:Nat):Int)) (b:=E9) (o:=Aw+(n1-1-k)) U3 Z Z Ar ?_);refine I ?_;exact aG) ?_;refine sf ?_;intro _ _ ES _;have E:=xt E ES.2;refine I ?_;refine aa (jl (a:=(n1:Int)-1-(k:Int)) (b:=1) (c:=(n1:Int)-1-((k+1:Nat):Int)) Z Z zd U ?_);refine I ?_;exact bJ ⟨k+1,rfl,rfl,U,(λi hi h=>by by_cases hik:i=n1-1-k;subst hik;omega;exact G i U h),E⟩
 by_cases hl:(ap 10 a).getD (n1-1-k) 0<(ap 10 b).getD (n1-1-k) 0;have CB:n1-1-k<n1:=J
 obtain⟨B2,Am,B0,O⟩:=((h1.row).ext E).cells (n1-1-k) _ (bF (xs:=(ap 10 a)) U);obtain⟨Av,Af,Az,H⟩:=((h2.row).ext E).cells (n1-1-k) _ (bF (xs:=(ap 10 b)) U);refine I ?_;refine bH 8 ?_;refine sf ?_;refine aB (λ_ _ _ _=>by refine aa (aD (i:=n1-1-k) (oo:=Am+(n1-1-k)) kt ie Z B0 (dv Z U) U MT ?_);refine I ?_;exact aG) ?_;refine aB (λ_ _ D1 _=>by have O:=Cf.ext D1 O;refine aa (bE (v:=.int .i64 (((ap 10 a).getD (n1-1-k) 0:Nat):Int)) (b:=B2) (o:=Am+(n1-1-k)) U3 Z Z O ?_);refine I ?_;exact aG) ?_;refine sf ?_;refine aB (λ_ _ _ _=>by refine aa (aD (i:=n1-1-k) (oo:=Af+(n1-1-k)) kt ie Z Az (dv Z U) U MT ?_);refine I ?_;exact aG) ?_;refine aB (λ_ _ CG _=>by have H:=Cf.ext CG H;refine aa (bE (v:=.int .i64 (((ap 10 b).getD (n1-1-k) 0:Nat):Int)) (b:=Av) (o:=Af+(n1-1-k)) U3 Z Z H ?_);refine I ?_;exact aG) ?_;refine sf ?_;intro _ _ Aq _;have O:=Cf.ext Aq.2 O;have H:=Cf.ext Aq.2 H;have E:=xt E Aq.2;refine I ?_;refine bH 8 ?_;refine sf ?_;refine aB (λ_ _ _ _=>by refine aa (aD (i:=n1-1-k) (oo:=Am+(n1-1-k)) kt ie Z B0 (dv Z U) U MT ?_);refine I ?_;exact aG) ?_
 refine aB (λ_ _ E4 _=>by have O:=Cf.ext E4 O;refine aa (bE (v:=.int .i64 (((ap 10 a).getD (n1-1-k) 0:Nat):Int)) (b:=B2) (o:=Am+(n1-1-k)) U3 Z Z O ?_);refine I ?_;exact aG) ?_;refine sf ?_;refine aB (λ_ _ _ _=>by refine aa (aD (i:=n1-1-k) (oo:=Af+(n1-1-k)) kt ie Z Az (dv Z U) U MT ?_);refine I ?_;exact aG) ?_;refine aB (λ_ _ D2 _=>by have H:=Cf.ext D2 H;refine aa (bE (v:=.int .i64 (((ap 10 b).getD (n1-1-k) 0:Nat):Int)) (b:=Av) (o:=Af+(n1-1-k)) U3 Z Z H ?_);refine I ?_;exact aG) ?_;refine sf ?_;intro _ _ ny _;have E:=xt E ny.2;refine I ?_;exact am (t:=4) (v:=.int .i64 (-1)) Z E (qb2 (Value.int .i64) Wf) Z;have CB:n1-1-k<n1:=J
 obtain⟨C1,Ao,Ay,Ab⟩:=((h1.row).ext E).cells (n1-1-k) _ (bF (xs:=(ap 10 a)) U);obtain⟨nm,Ap,Ax,A0⟩:=((h2.row).ext E).cells (n1-1-k) _ (bF (xs:=(ap 10 b)) U);refine I ?_;refine bH 8 ?_;refine sf ?_;refine aB (λ_ _ _ _=>by refine aa (aD (i:=n1-1-k) (oo:=Ao+(n1-1-k)) kt ie Z Ay (dv Z U) U MT ?_);refine I ?_;exact aG) ?_;refine aB (λ_ _ EW _=>by have Ab:=Cf.ext EW Ab;refine aa (bE (v:=.int .i64 (((ap 10 a).getD (n1-1-k) 0:Nat):Int)) (b:=C1) (o:=Ao+(n1-1-k)) U3 Z Z Ab ?_);refine I ?_;exact aG) ?_;refine sf ?_;refine aB (λ_ _ _ _=>by refine aa (aD (i:=n1-1-k) (oo:=Ap+(n1-1-k)) kt ie Z Ax (dv Z U) U MT ?_);refine I ?_;exact aG) ?_;refine aB (λ_ _ H2 _=>by have A0:=Cf.ext H2 A0;refine aa (bE (v:=.int .i64 (((ap 10 b).getD (n1-1-k) 0:Nat):Int)) (b:=nm) (o:=Ap+(n1-1-k)) U3 Z Z A0 ?_);refine I ?_;exact aG) ?_;refine sf ?_;intro _ _ od _;have Ab:=Cf.ext od.2 Ab;have A0:=Cf.ext od.2 A0;have E:=xt E od.2;refine I ?_;refine bH 8 ?_;refine sf ?_;refine aB (λ_ _ _ _=>by refine aa (aD (i:=n1-1-k) (oo:=Ao+(n1-1-k)) kt ie Z Ay (dv Z U) U MT ?_);refine I ?_;exact aG) ?_
 refine aB (λ_ _ E1 _=>by have Ab:=Cf.ext E1 Ab;refine aa (bE (v:=.int .i64 (((ap 10 a).getD (n1-1-k) 0:Nat):Int)) (b:=C1) (o:=Ao+(n1-1-k)) U3 Z Z Ab ?_);refine I ?_;exact aG) ?_;refine sf ?_;refine aB (λ_ _ _ _=>by refine aa (aD (i:=n1-1-k) (oo:=Ap+(n1-1-k)) kt ie Z Ax (dv Z U) U MT ?_);refine I ?_;exact aG) ?_;refine aB (λ_ _ E7 _=>by have A0:=Cf.ext E7 A0;refine aa (bE (v:=.int .i64 (((ap 10 b).getD (n1-1-k) 0:Nat):Int)) (b:=nm) (o:=Ap+(n1-1-k)) U3 Z Z A0 ?_);refine I ?_;exact aG) ?_;refine sf ?_;intro _ _ E6 _;have E:=xt E E6.2;refine I ?_;exact am (t:=4) (v:=.int .i64 1) Z E (qb2 (Value.int .i64) Wf) Z;refine I ?_;exact am (t:=4) (v:=.int .i64 0) Z E (qb2 (Value.int .i64) Wf) Z;refine I ?_;by_cases apl:(n1:Int)<(n2:Int);refine I ?_
 exact am (t:=4) (v:=.int .i64 (-1)) Z (aa1 _) (qb2 (Value.int .i64) Wf) Z;refine I ?_;exact am (t:=4) (v:=.int .i64 1) Z (aa1 _) (qb2 (Value.int .i64) Wf) Z
end Go.Proofs.YtlmihmlnpjkblaaGreatDoor
def cW {xs:List Nat}{i:Nat}(h:xs.length<=i):xs.getD i 0=0:=by simp[List.getD,List.getElem?_eq_none h]
def e7 (B:Nat)(xs:List Nat)(k:Nat):bP B (xs.take (k+1))=bP B (xs.take k)+B^k*xs.getD k 0:=by
 rcases Nat.lt_or_ge k xs.length with h|h
 · rw[List.take_succ_eq_append_getElem h,b9,List.length_take,Nat.min_eq_left J]
   simp[bP,List.getD,h]
 · rw[List.take_of_length_le J,List.take_of_length_le h,cW h];simp
def gF (X Y:List Nat):Nat->Nat×List Nat
 |0=>(0,[])
 |k+1=>(((gF X Y k).1+X.getD k 0+Y.getD k 0)/10,(gF X Y k).2++[((gF X Y k).1+X.getD k 0+Y.getD k 0)%10])
def ya (X Y:List Nat):∀k,(gF X Y k).2.length=k
 |0=>rfl
 |k+1=>by simp[gF,ya X Y k]
def JM (X Y:List Nat):∀k,∀d∈(gF X Y k).2,d<10
 |0=>by simp[gF]
 | k+1=>by
   intro d hd
   rcases List.mem_append.1 hd with h|h
   · exact JM X Y k d h
   · rw[List.mem_singleton.1 h];exact Nat.mod_lt _ J
def dt {X Y:List Nat}(hX:∀i,X.getD i 0<10)(hY:∀i,Y.getD i 0<10):∀k,(gF X Y k).1<=1
 |0=>by simp[gF]
 |k+1=>by have:=dt hX hY k;have:=hX k;have:=hY k;simp only[gF];omega
def yb (X Y:List Nat):∀k,bP 10 (gF X Y k).2+10^k*(gF X Y k).1=bP 10 (X.take k)+bP 10 (Y.take k)
 |0=>by simp[gF,bP]
 | k+1=>by
   have ih:=yb X Y k
   simp only[gF]
   rw[b9,ya,e7,e7,Nat.pow_succ]
   have E:=Nat.div_add_mod ((gF X Y k).1+X.getD k 0+Y.getD k 0) 10
   simp only[bP]
   generalize ((gF X Y k).1+X.getD k 0+Y.getD k 0)/10=u at *
   generalize ((gF X Y k).1+X.getD k 0+Y.getD k 0)%10=v at *
   generalize X.getD k 0=x at *
   generalize Y.getD k 0=y at *
   generalize (gF X Y k).1=c at *
   grind
def j9 {X Y:List Nat}{k:Nat}(hX:X.length<=k)(hY:Y.length<=k)(h:(gF X Y k).1<=1):(gF X Y (k+1)).1=0:=by
 simp only[gF,cW hX,cW hY];omega
def uy {a k:Nat}(h:k<(ap 10 a).length):10^k<=a:=by
 rcases Nat.lt_or_ge a (10^k)with h1|h1
 · have:=(ba 10 J a k).2 h1;omega
 · exact h1
def Ou {a b n1 n2 k:Nat}(h1:(ap 10 a).length=n1)(h2:(ap 10 b).length=n2)(hk1:n1<=k)(hk2:n2<=k)(hc:(gF (ap 10 a) (ap 10 b) k).1=0)(hm:k<=max n1 n2\/k=max n1 n2+1/\0<(gF (ap 10 a) (ap 10 b) (max n1 n2)).1):(gF (ap 10 a) (ap 10 b) k).2=ap 10 (a+b):=by
 have hv:=yb (ap 10 a) (ap 10 b) k
 rw[hc,Nat.mul_zero,Nat.add_zero,List.take_of_length_le J,List.take_of_length_le J,cG 10 J,cG 10 J]at hv
 have O:=ya (ap 10 a) (ap 10 b) k
 have hlt:=JM (ap 10 a) (ap 10 b) k
 have A0:0<k->10^(k-1)<=a+b:=by
  intro W
  rcases hm with hm|⟨hm,hp⟩
  · have:n1=k\/n2=k:=J
    rcases this with h|h
    · have:=uy (a:=a) (k:=k-1) J;omega
    · have:=uy (a:=b) (k:=k-1) J;omega
  · have Ab:=yb (ap 10 a) (ap 10 b) (max n1 n2)
    rw[List.take_of_length_le J,List.take_of_length_le J,cG 10 J,cG 10 J]at Ab
    have:10^max n1 n2*1<=10^max n1 n2*(gF (ap 10 a) (ap 10 b) (max n1 n2)).1:=Nat.mul_le_mul_left _ hp
    rw[hm,Nat.add_sub_cancel]
    omega
 generalize (gF (ap 10 a) (ap 10 b) k).2=l at *
 rw[<-hv]
 refine mm J ⟨hlt,?_⟩
 intro E
 have W:0<k:=by
  rcases Nat.eq_zero_or_pos k with h|h
  · subst h;rw[List.length_eq_zero_iff.1 O]at E;simp at E
  · exact h
 obtain⟨l',rfl⟩:∃l',l=l'++[0]:=by
  have H:l≠[]:=by intro e;subst e;simp at E
  refine⟨l.dropLast,?_⟩
  have G:=List.dropLast_concat_getLast H
  rw[List.getLast?_eq_some_getLast H]at E
  rw[Option.some.inj E]at G
  exact G.symm
 have h3:=lh 10 l' (λd hd=>hlt d (List.mem_append_left _ hd))
 rw[b9]at hv
 simp only[bP,Nat.mul_zero,Nat.add_zero]at hv
 simp at O
 have:=A0 W
 rw[show k-1=l'.length by omega]at this
 omega
def i8 (X Y:List Nat):Nat->Nat×List Nat
 |0=>(0,[])
 |k+1=>if X.getD k 0<(i8 X Y k).1+Y.getD k 0 then(1,(i8 X Y k).2++[X.getD k 0+10-(i8 X Y k).1-Y.getD k 0])else(0,(i8 X Y k).2++[X.getD k 0-(i8 X Y k).1-Y.getD k 0])
def mW (X Y:List Nat):∀k,(i8 X Y k).2.length=k
 |0=>rfl
 |k+1=>by simp only[i8];split <;>simp[mW X Y k]
def gG (X Y:List Nat):∀k,(i8 X Y k).1<=1
 |0=>by simp[i8]
 |k+1=>by simp only[i8];split <;>simp
def CP {X Y:List Nat}(hX:∀i,X.getD i 0<10)(hY:∀i,Y.getD i 0<10):∀k,∀d∈(i8 X Y k).2,d<10
 |0=>by simp[i8]
 | k +1=>by
   have hb:=gG X Y k
   have hx:=hX k
   have hy:=hY k
   intro d hd
   simp only[i8]at hd
   split at hd
   all_goals
    rcases List.mem_append.1 hd with h|h
    · exact CP hX hY k d h
    · rw[List.mem_singleton.1 h];omega
def EM {X Y:List Nat}(hY:∀i,Y.getD i 0<10):∀k,bP 10 (i8 X Y k).2+bP 10 (Y.take k)=bP 10 (X.take k)+10^k*(i8 X Y k).1
 |0=>by simp[i8,bP]
 | k +1=>by
   have ih:=EM (X:=X) hY k
   have hb:=gG X Y k
   have hy:=hY k
   rw[e7,e7,Nat.pow_succ]
   simp only[i8]
   split
   · next h=>
     rw[b9,mW]
     simp only[bP]
     obtain⟨t,ht⟩:∃t,X.getD k 0+10-(i8 X Y k).1-Y.getD k 0=t:=⟨_,rfl⟩
     have hs:t+(i8 X Y k).1+Y.getD k 0=X.getD k 0+10:=J
     rw[ht]
     generalize X.getD k 0=x at *
     generalize Y.getD k 0=y at *
     generalize (i8 X Y k).1=c at *
     grind
   · next h=>
     rw[b9,mW]
     simp only[bP]
     obtain⟨t,ht⟩:∃t,X.getD k 0-(i8 X Y k).1-Y.getD k 0=t:=⟨_,rfl⟩
     have hs:t+(i8 X Y k).1+Y.getD k 0=X.getD k 0:=J
     rw[ht]
     generalize X.getD k 0=x at *
     generalize Y.getD k 0=y at *
     generalize (i8 X Y k).1=c at *
     grind
def Ov {a b n1 n2:Nat}(h1:(ap 10 a).length=n1)(h2:(ap 10 b).length=n2)(hle:b<=a):bP 10 (i8 (ap 10 a) (ap 10 b) n1).2=a-b:=by
 have E:∀(c i:Nat),(ap 10 c).getD i 0<10:=by
  intro c i
  rcases Nat.lt_or_ge i (ap 10 c).length with hi|hi
  · have G:(ap 10 c)[i]? =some (ap 10 c)[i]:=qa5 hi
    rw[List.getD,G];exact eI 10 J c _ (List.getElem_mem hi)
  · rw[cW hi];omega
 have hv:=EM (X:=ap 10 a) (E b) n1
 have H:n2<=n1:=by rw[<-h1,<-h2];exact ep J hle
 rw[List.take_of_length_le J,List.take_of_length_le J,cG 10 J,cG 10 J]at hv
 have hlt:=lh 10 _ (CP (E a) (E b) n1)
 rw[mW]at hlt
 have hb:=gG (ap 10 a) (ap 10 b) n1
 generalize (i8 (ap 10 a) (ap 10 b) n1).1=c at *
 rcases Nat.eq_zero_or_pos c with hc|hc
 · subst hc;omega
 · obtain rfl:c=1:=J
   omega
def EN (B:Nat):∀(l:List Nat) (j v:Nat),j<l.length->bP B (l.set j v)+B^j*l.getD j 0=bP B l+B^j*v
 |x::l,0,v,_=>by simp[bP];omega
 | x::l,j+1,v,h=>by
   have ih:=EN B l j v ka5
   simp only[List.set_cons_succ,bP,List.getD_cons_succ,Nat.pow_succ]
   generalize l.getD j 0=y at *
   generalize bP B (l.set j v)=p at *
   generalize bP B l=q at *
   generalize B^j=t at *
   grind
structure HT (X Y:List Nat)(i n:Nat)(k c:Nat)(l:List Nat):Prop where
 len:l.length=n
 lt:∀d∈l,d<10
 c9:c<=9
 val:bP 10 l+10^(i+k)*c=(bP 10 (X.take i)*bP 10 Y)+10^i*(X.getD i 0*bP 10 (Y.take k))
def TO {l:List Nat}{j v:Nat}(h:∀d∈l,d<10)(hv:v<10):∀d∈l.set j v,d<10:=by
 intro d hd
 rcases List.mem_or_eq_of_mem_set hd with h1|h1
 · exact h d h1
 · rw[h1];exact hv
def jN {xs:List Nat}(h:∀x∈xs,x<10)(i:Nat):xs.getD i 0<10:=by
 rcases Nat.lt_or_ge i xs.length with hi|hi
 · have E:xs[i]? =some xs[i]:=qa5 hi
   rw[List.getD,E];exact h _ (List.getElem_mem hi)
 · rw[cW hi];omega
def HT.step {X Y l:List Nat}{i n k c:Nat}(hX:∀x∈X,x<10)(hY:∀x∈Y,x<10)(h:HT X Y i n k c l)(hj:i+k<n):
 HT X Y i n (k+1) ((l.getD (i+k) 0+c+X.getD i 0*Y.getD k 0)/10) (l.set (i+k) ((l.getD (i+k) 0+c+X.getD i 0*Y.getD k 0)%10)):=by
 have h1:=jN h.lt (i+k)
 have h2:=jN hX i
 have h3:=jN hY k
 have h4:X.getD i 0*Y.getD k 0<=9*9:=qb9 J J
 have hc:=h.c9
 refine⟨by rw[List.length_set];exact h.len,TO h.lt (Nat.mod_lt _ J),by omega,?_⟩
 have hs:=EN 10 l (i+k) ((l.getD (i+k) 0+c+X.getD i 0*Y.getD k 0)%10) (by rw[h.len];exact hj)
 have hv:=h.val
 have E:=Nat.div_add_mod (l.getD (i+k) 0+c+X.getD i 0*Y.getD k 0) 10
 rw[e7,show i+(k+1)=(i+k)+1 by omega,Nat.pow_succ]
 have G:(10:Nat)^(i+k)=10^i*10^k:=Nat.pow_add ..
 generalize (l.getD (i+k) 0+c+X.getD i 0*Y.getD k 0)/10=u at *
 generalize (l.getD (i+k) 0+c+X.getD i 0*Y.getD k 0)%10=v at *
 generalize bP 10 (l.set (i+k) v)=p at *
 generalize l.getD (i+k) 0=z at *
 generalize X.getD i 0=x at *
 generalize Y.getD k 0=y at *
 generalize bP 10 (Y.take k)=yk at *
 generalize bP 10 (X.take i)*bP 10 Y=W at *
 generalize (10:Nat)^(i+k)=t at *
 generalize (10:Nat)^i=ti at *
 generalize (10:Nat)^k=tk at *
 grind
def HT.done {X Y l:List Nat}{i n n2 k:Nat}(hn2:Y.length=n2)(h:HT X Y i n k 0 l)(hk:n2<=k):HT X Y (i+1) n 0 0 l:=by
 refine⟨h.len,h.lt,by omega,?_⟩
 have hv:=h.val
 rw[List.take_of_length_le (l:=Y) J]at hv
 rw[e7]
 simp only[Nat.mul_zero,Nat.add_zero,List.take_zero,bP]at hv ⊢
 rw[hv]
 generalize bP 10 (X.take i)=p
 generalize bP 10 Y=q
 generalize X.getD i 0=x
 generalize (10:Nat)^i=t
 grind
def HT.start (X Y:List Nat)(n:Nat):HT X Y 0 n 0 0 (List.replicate n 0):=by
 refine⟨by simp,λd hd=>by rw[(List.mem_replicate.1 hd).2];omega,by omega,?_⟩
 have:∀m,bP 10 (List.replicate m 0)=0:=by
  intro m;induction m with
  |zero=>rfl
  |succ m ih=>simp[List.replicate_succ,bP,ih]
 simp[this,bP]
def HT.fin {X Y l:List Nat}{n n1:Nat}(hn1:X.length=n1)(h:HT X Y n1 n 0 0 l):bP 10 l=bP 10 X*bP 10 Y:=by
 have hv:=h.val
 rw[List.take_of_length_le (l:=X) J]at hv
 simp only[Nat.mul_zero,Nat.add_zero,List.take_zero,bP]at hv
 exact hv
def HT.rem {X Y l:List Nat}{i n n2 k c:Nat}(hn2:Y.length=n2)(hX:∀x∈X,x<10)(hY:∀x∈Y,x<10)(h:HT X Y i n k c l)(hk:n2<=k):(l.getD (i+k) 0+c+X.getD i 0*Y.getD k 0)=l.getD (i+k) 0+c:=by
 rw[cW (xs:=Y) J];simp
structure M9 (X:List Nat)(b:Nat)(i r:Nat)(T:List Nat):Prop where
 len:T.length+i=X.length
 lt:∀d∈T,d<10
 val:bP 10 T*b+r=bP 10 (X.drop i)
 rlt:r<b
def M9.start {X:List Nat}{b:Nat}(hb:0<b):M9 X b X.length 0 []:=⟨by simp,by simp,by simp[bP],hb⟩
def M9.step {X T:List Nat}{b i r c r2:Nat}(hX:∀x∈X,x<10)(h:M9 X b (i+1) r T)(hc:c*b+r2=r*10+X.getD i 0)(hr:r2<b):M9 X b i r2 (c::T):=by
 have hl:=h.len
 have hx:=jN hX i
 have G:=h.rlt
 have E:c<10:=by
  rcases Nat.lt_or_ge c 10 with h1|h1
  · exact h1
  · have h2:10*b<=c*b:=Nat.mul_le_mul_right _ h1
    omega
 refine⟨by simp;omega,λd hd=>?_,?_,hr⟩
 · rcases List.mem_cons.1 hd with rfl|h1
   · exact E
   · exact h.lt d h1
 · have e:X.drop i=X.getD i 0::X.drop (i+1):=by
    rw[List.drop_eq_getElem_cons J];simp[show i<X.length by omega]
   rw[e]
   simp only[bP]
   have hv:=h.val
   generalize X.getD i 0=x at *
   generalize bP 10 T=t at *
   generalize bP 10 (X.drop (i+1))=u at *
   grind
def M9.fin {X T:List Nat}{b r:Nat}(hb:0<b)(h:M9 X b 0 r T):bP 10 T=bP 10 X/b/\r=bP 10 X%b:=by
 have hv:=h.val
 rw[List.drop_zero]at hv
 have hr:=h.rlt
 rw[<-hv]
 constructor
 · rw[Nat.mul_comm,Nat.mul_add_div hb,Nat.div_eq_of_lt hr];omega
 · rw[Nat.mul_comm,Nat.mul_add_mod,Nat.mod_eq_of_lt hr]
namespace Go.Proofs.YtlmihmlnpjkblaaGreatDoor
variable {a lo b n c i n1 n2 c1 lo1 c2 lo2:Nat}{A A1 A2:Option Addr}{w w':World}
set_option maxRecDepth 100000
open Go Go.Eng Go.RowKit Tryz
attribute [local irreducible] wpListIn Code.wpIn Oper.wpIn Exit.then Exit.inBlock Exit.noGoto
set_option maxHeartbeats 40000000
def dT {a:Int}(h:In64 a:=by unfold In64;omega):In64 a:=h
def jO (a i:Nat):(ap 10 a).getD i 0<10:=jN (eI 10 U a) i
def e8 (l:List Nat)(x:Nat):ints l++[Value.int .i64 x]=ints (l++[x]):=by simp[ints]
def CQ (m:Nat):(madeCells (Value.int IntKind.i64 0).cells (m*1)).toList=ints (List.replicate m 0):=qI m
def Dg.put (k:ez w w' b)(hb:b<lo)(h:Dg w lo A n c a):Dg w' lo A n c a:=⟨h.row.put k hb,h.len,h.cap⟩
def Dg.hi (h:Dg w lo A n c a):∀ad,A=some ad->ad.block<w.heap.size:=h.row.hi
def QL (i:Nat)(T:List Nat):List Nat:=List.replicate i 0++T
def yc (i:Nat)(T:List Nat):(QL i T).length=i+T.length:=by simp[QL]
def Ow (T:List Nat)(h:0<i):QL i T=QL (i-1) (0::T):=by
 obtain⟨j,rfl⟩:∃j,i=j+1:=⟨i-1,by omega⟩
 simp[QL,List.replicate_succ']
def TP (i c:Nat)(T:List Nat):(QL i (c::T)).getD i 0=c:=by simp[QL,List.getD]
def TQ (i c d:Nat)(T:List Nat):(QL i (c::T)).set i d=QL i (d::T):=by
 induction i with
 |zero=>rfl
 |succ i ih=>unfold QL at *;rw[List.replicate_succ,List.cons_append,List.cons_append,List.set_cons_succ,ih]
def JN (n:Nat):QL n []=List.replicate n 0:=by simp[QL]
def TR (r d:Nat)(hd:d<10):dA (d::ap 10 r)=ap 10 (r*10+d):=by
 rw[mo 10 U (d::ap 10 r) (λx hx=>by
  rcases List.mem_cons.1 hx with rfl|hx
  · exact hd
  · exact eI 10 U r x hx)]
 simp only[bP,cG 10 (show 2<=10 by omega)]
 congr 1;omega
def JO (h1:(ap 10 a).length=n1)(h2:(ap 10 b).length=n2)(h:a<b*10):n1<=n2+1:=by
 rw[<-h1,<-h2,ba 10 U,Nat.pow_succ]
 have:=nZ (B:=10) U b
 omega
def Ox (h:b<=a):(0:Int)<=aO (a:Int) (b:Int):=by
 rcases Nat.eq_or_lt_of_le h with h1|h1
 · rw[jr U];omega
 · rw[eL U];omega
def Oy (h:¬b<=a):¬(0:Int)<=aO (a:Int) (b:Int):=by
 rw[fV U];omega
def JP {r r2 x:Nat}(h:c*b+r2=r*10+x)(hr:r<b)(hx:x<10):c<10:=by
 rcases Nat.lt_or_ge c 10 with h1|h1
 · exact h1
 · have:=Nat.mul_le_mul_right b h1;omega
def wH (h1:Dg w lo1 A1 n1 c1 a)(s1:n1<=100000)(h2:Dg w lo2 A2 n2 c2 b)(s2:n2<=100000):
 CL 182 #[.slice A1 n1 c1,.slice A2 n2 c2] w (aI w λv w'=>∃A n c,v=.slice A n c/\Dg w' w.heap.size A n c (a+b)):=by
 have L1:=h1.len;have e2:=h2.len;refine aE func182 Z (I ?_);have FR:World.ownsRow w w.heap.size 3 1 (.slice none 0 0) 0 (ints []):=bM;have E5:=aa1 w;refine cg [(5,52)] (λH4 e W=>∃k:Nat,∃O:Value,((max n1 n2)+1-k=H4)/\(e 6=.int .i64 (((gF (ap 10 a) (ap 10 b) k).1:Nat):Int))/\(e 7=.int .i64 k)/\(e 5=O)/\(k<=(max n1 n2)\/k=(max n1 n2)+1/\0<(gF (ap 10 a) (ap 10 b) (max n1 n2)).1)/\(aP w W)/\(W.ownsRow w.heap.size 3 1 O k (ints (gF (ap 10 a) (ap 10 b) k).2))) ((max n1 n2)+1-0) ⟨0,.slice none 0 0,rfl,rfl,rfl,rfl,(Or.inl (qa7 _)),E5,FR⟩ ?_;rintro _ _ _ ⟨k,O,rfl,L3,L4,Af,H,E,ho⟩;have L2:=bz E;by_cases hka:k<n1;by_cases hkb:k<n2;have Aq:(gF (ap 10 a) (ap 10 b) k).1<=1:=dt (jO a) (jO b) k;have Ab:=jO a k;have A0:=jO b k;have Ap:n1<=k->(ap 10 a).getD k 0=0:=λh=>cW U;have Am:n2<=k->(ap 10 b).getD k 0=0:=λh=>cW U;refine I ?_;obtain⟨od,Ax,EW,KC⟩:=((h1.row).ext E).cells k _ (bF (xs:=(ap 10 a)) U);refine aa (aD (i:=(k)) (oo:=Ax+k) kt ie Z EW Z U MT ?_);refine aa (bE (v:=.int .i64 (((ap 10 a).getD k 0:Nat):Int)) (b:=od) (o:=Ax+k) U3 Z Z KC ?_);refine aa (cC (a:=(((gF (ap 10 a) (ap 10 b) k).1:Nat):Int)) (b:=(((ap 10 a).getD k 0:Nat):Int)) (c:=(((gF (ap 10 a) (ap 10 b) k).1+(ap 10 a).getD k 0:Nat):Int)) Z Z dT U ?_)
 refine I ?_;obtain⟨K2,B2,E9,Cr⟩:=((h2.row).ext E).cells k _ (bF (xs:=(ap 10 b)) U);refine aa (aD (i:=(k)) (oo:=B2+k) kt ie Z E9 Z U MT ?_);refine aa (bE (v:=.int .i64 (((ap 10 b).getD k 0:Nat):Int)) (b:=K2) (o:=B2+k) U3 Z Z Cr ?_);refine aa (cC (a:=(((gF (ap 10 a) (ap 10 b) k).1+(ap 10 a).getD k 0:Nat):Int)) (b:=(((ap 10 b).getD k 0:Nat):Int)) (c:=(((gF (ap 10 a) (ap 10 b) k).1+(ap 10 a).getD k 0+(ap 10 b).getD k 0:Nat):Int)) Z Z dT U ?_);refine I ?_;refine aa (aT (v:=O) Af ?_);refine I ?_;refine aa (mc (a:=(((gF (ap 10 a) (ap 10 b) k).1+(ap 10 a).getD k 0+(ap 10 b).getD k 0:Nat):Int)) (b:=10) (c:=((((gF (ap 10 a) (ap 10 b) k).1+(ap 10 a).getD k 0+(ap 10 b).getD k 0)%10:Nat):Int)) Z Z U U U ?_);refine BS (λ_ As _ CG=>?_);have ho:=ab As ho;have E:=xt E As;refine AP ho (aa7 CG) (λB0 _ D1 KY _=>?_);have E:=bo ho U U E KY;refine aa (aL (v:=B0) Z ?_);refine I ?_;refine aa (wd (a:=(((gF (ap 10 a) (ap 10 b) k).1+(ap 10 a).getD k 0+(ap 10 b).getD k 0:Nat):Int)) (b:=10) (c:=(((gF (ap 10 a) (ap 10 b) (k+1)).1:Nat):Int)) Z Z U U dT kc6 ?_);refine I ?_
 refine aa (cC (a:=(k:Int)) (b:=1) (c:=((k+1:Nat):Int)) Z Z dT U ?_);refine I ?_;exact bJ (hk:=by first|omega|(rcases H with h|⟨h,-⟩;omega;exfalso;have G:=j9 (X:=(ap 10 a)) (Y:=(ap 10 b)) (k:=(max n1 n2)) U U (dt (jO a) (jO b) _);rw[show(max n1 n2)+1=k by omega]at G;omega)) ⟨k+1,B0,rfl,rfl,rfl,rfl,(by rcases H with h|⟨h,-⟩ <;>first|(left;omega)|(right;refine⟨by omega,?_⟩;rw[show(max n1 n2)=k by omega];omega)|(exfalso;have G:=j9 (X:=(ap 10 a)) (Y:=(ap 10 b)) (k:=(max n1 n2)) U U (dt (jO a) (jO b) _);rw[show(max n1 n2)+1=k by omega]at G;omega)),E,(aQ D1 Z (by rw[e8];rfl))⟩;have Aq:(gF (ap 10 a) (ap 10 b) k).1<=1:=dt (jO a) (jO b) k;have Ab:=jO a k;have A0:=jO b k;have Ap:n1<=k->(ap 10 a).getD k 0=0:=λh=>cW U;have Am:n2<=k->(ap 10 b).getD k 0=0:=λh=>cW U;refine I ?_;obtain⟨KM,B1,E4,E0⟩:=((h1.row).ext E).cells k _ (bF (xs:=(ap 10 a)) U);refine aa (aD (i:=(k)) (oo:=B1+k) kt ie Z E4 Z U MT ?_);refine aa (bE (v:=.int .i64 (((ap 10 a).getD k 0:Nat):Int)) (b:=KM) (o:=B1+k) U3 Z Z E0 ?_);refine aa (cC (a:=(((gF (ap 10 a) (ap 10 b) k).1:Nat):Int)) (b:=(((ap 10 a).getD k 0:Nat):Int)) (c:=(((gF (ap 10 a) (ap 10 b) k).1+(ap 10 a).getD k 0:Nat):Int)) Z Z dT U ?_);refine I ?_;refine aa (aT (v:=O) Af ?_);refine I ?_;refine aa (mc (a:=(((gF (ap 10 a) (ap 10 b) k).1+(ap 10 a).getD k 0:Nat):Int)) (b:=10) (c:=((((gF (ap 10 a) (ap 10 b) k).1+(ap 10 a).getD k 0+(ap 10 b).getD k 0)%10:Nat):Int)) Z Z U U U ?_);refine BS (λ_ Aw _ E7=>?_);have ho:=ab Aw ho;have E:=xt E Aw;refine AP ho (aa7 E7) (λAv _ H2 wr _=>?_);have E:=bo ho U U E wr;refine aa (aL (v:=Av) Z ?_)
 refine I ?_;refine aa (wd (a:=(((gF (ap 10 a) (ap 10 b) k).1+(ap 10 a).getD k 0:Nat):Int)) (b:=10) (c:=(((gF (ap 10 a) (ap 10 b) (k+1)).1:Nat):Int)) Z Z U U dT kc6 ?_);refine I ?_;refine aa (cC (a:=(k:Int)) (b:=1) (c:=((k+1:Nat):Int)) Z Z dT U ?_);refine I ?_;exact bJ (hk:=by first|omega|(rcases H with h|⟨h,-⟩;omega;exfalso;have G:=j9 (X:=(ap 10 a)) (Y:=(ap 10 b)) (k:=(max n1 n2)) U U (dt (jO a) (jO b) _);rw[show(max n1 n2)+1=k by omega]at G;omega)) ⟨k+1,Av,rfl,rfl,rfl,rfl,(by rcases H with h|⟨h,-⟩ <;>first|(left;omega)|(right;refine⟨by omega,?_⟩;rw[show(max n1 n2)=k by omega];omega)|(exfalso;have G:=j9 (X:=(ap 10 a)) (Y:=(ap 10 b)) (k:=(max n1 n2)) U U (dt (jO a) (jO b) _);rw[show(max n1 n2)+1=k by omega]at G;omega)),E,(aQ H2 Z (by rw[e8];rfl))⟩;by_cases hkb:k<n2;have Aq:(gF (ap 10 a) (ap 10 b) k).1<=1:=dt (jO a) (jO b) k;have Ab:=jO a k;have A0:=jO b k;have Ap:n1<=k->(ap 10 a).getD k 0=0:=λh=>cW U;have Am:n2<=k->(ap 10 b).getD k 0=0:=λh=>cW U;refine I ?_;obtain⟨K3,CB,ES,E1⟩:=((h2.row).ext E).cells k _ (bF (xs:=(ap 10 b)) U);refine aa (aD (i:=(k)) (oo:=CB+k) kt ie Z ES Z U MT ?_);refine aa (bE (v:=.int .i64 (((ap 10 b).getD k 0:Nat):Int)) (b:=K3) (o:=CB+k) U3 Z Z E1 ?_);refine aa (cC (a:=(((gF (ap 10 a) (ap 10 b) k).1:Nat):Int)) (b:=(((ap 10 b).getD k 0:Nat):Int)) (c:=(((gF (ap 10 a) (ap 10 b) k).1+(ap 10 a).getD k 0+(ap 10 b).getD k 0:Nat):Int)) Z Z dT U ?_);refine I ?_;refine aa (aT (v:=O) Af ?_);refine I ?_;refine aa (mc (a:=(((gF (ap 10 a) (ap 10 b) k).1+(ap 10 a).getD k 0+(ap 10 b).getD k 0:Nat):Int)) (b:=10) (c:=((((gF (ap 10 a) (ap 10 b) k).1+(ap 10 a).getD k 0+(ap 10 b).getD k 0)%10:Nat):Int)) Z Z U U U ?_);refine BS (λ_ Ar _ E6=>?_);have ho:=ab Ar ho;have E:=xt E Ar;refine AP ho (aa7 E6) (λAz _ CY D2 _=>?_);have E:=bo ho U U E D2
 refine aa (aL (v:=Az) Z ?_);refine I ?_;refine aa (wd (a:=(((gF (ap 10 a) (ap 10 b) k).1+(ap 10 a).getD k 0+(ap 10 b).getD k 0:Nat):Int)) (b:=10) (c:=(((gF (ap 10 a) (ap 10 b) (k+1)).1:Nat):Int)) Z Z U U dT kc6 ?_);refine I ?_;refine aa (cC (a:=(k:Int)) (b:=1) (c:=((k+1:Nat):Int)) Z Z dT U ?_);refine I ?_;exact bJ (hk:=by first|omega|(rcases H with h|⟨h,-⟩;omega;exfalso;have G:=j9 (X:=(ap 10 a)) (Y:=(ap 10 b)) (k:=(max n1 n2)) U U (dt (jO a) (jO b) _);rw[show(max n1 n2)+1=k by omega]at G;omega)) ⟨k+1,Az,rfl,rfl,rfl,rfl,(by rcases H with h|⟨h,-⟩ <;>first|(left;omega)|(right;refine⟨by omega,?_⟩;rw[show(max n1 n2)=k by omega];omega)|(exfalso;have G:=j9 (X:=(ap 10 a)) (Y:=(ap 10 b)) (k:=(max n1 n2)) U U (dt (jO a) (jO b) _);rw[show(max n1 n2)+1=k by omega]at G;omega)),E,(aQ CY Z (by rw[e8];rfl))⟩;by_cases hcr:0<(gF (ap 10 a) (ap 10 b) k).1;have Aq:(gF (ap 10 a) (ap 10 b) k).1<=1:=dt (jO a) (jO b) k;have Ab:=jO a k;have A0:=jO b k;have Ap:n1<=k->(ap 10 a).getD k 0=0:=λh=>cW U;have Am:n2<=k->(ap 10 b).getD k 0=0:=λh=>cW U;refine I ?_;refine aa (aT (v:=O) Af ?_);refine I ?_;refine aa (mc (a:=(((gF (ap 10 a) (ap 10 b) k).1:Nat):Int)) (b:=10) (c:=((((gF (ap 10 a) (ap 10 b) k).1+(ap 10 a).getD k 0+(ap 10 b).getD k 0)%10:Nat):Int)) Z Z U U U ?_);refine BS (λ_ ny _ G0=>?_);have ho:=ab ny ho;have E:=xt E ny;refine AP ho (aa7 G0) (λAy _ Kp Ix _=>?_);have E:=bo ho U U E Ix;refine aa (aL (v:=Ay) Z ?_);refine I ?_;refine aa (wd (a:=(((gF (ap 10 a) (ap 10 b) k).1:Nat):Int)) (b:=10) (c:=(((gF (ap 10 a) (ap 10 b) (k+1)).1:Nat):Int)) Z Z U U dT kc6 ?_);refine I ?_;refine aa (cC (a:=(k:Int)) (b:=1) (c:=((k+1:Nat):Int)) Z Z dT U ?_);refine I ?_;exact bJ (hk:=by first|omega|(rcases H with h|⟨h,-⟩;omega;exfalso;have G:=j9 (X:=(ap 10 a)) (Y:=(ap 10 b)) (k:=(max n1 n2)) U U (dt (jO a) (jO b) _);rw[show(max n1 n2)+1=k by omega]at G;omega)) ⟨k+1,Ay,rfl,rfl,rfl,rfl,(by rcases H with h|⟨h,-⟩ <;>first|(left;omega)|(right;refine⟨by omega,?_⟩;rw[show(max n1 n2)=k by omega];omega)|(exfalso;have G:=j9 (X:=(ap 10 a)) (Y:=(ap 10 b)) (k:=(max n1 n2)) U U (dt (jO a) (jO b) _);rw[show(max n1 n2)+1=k by omega]at G;omega)),E,(aQ Kp Z (by rw[e8];rfl))⟩
 have Aq:(gF (ap 10 a) (ap 10 b) k).1<=1:=dt (jO a) (jO b) k;have Ab:=jO a k;have A0:=jO b k;have Ap:n1<=k->(ap 10 a).getD k 0=0:=λh=>cW U;have Am:n2<=k->(ap 10 b).getD k 0=0:=λh=>cW U;have GC:=Ou h1.len h2.len (k:=k) U U U U;obtain⟨Ao,C1,rfl,H3⟩:=qQ ho GC;refine I ?_;exact am (t:=4) (v:=.slice Ao k C1) Z E ⟨Ao,k,C1,rfl,H3⟩ Z
theorem lB (h1:Dg w lo1 A1 n1 c1 a)(s1:n1<=100000)(h2:Dg w lo2 A2 n2 c2 b)(s2:n2<=100000)(hle:b<=a):
 CL 183 #[.slice A1 n1 c1,.slice A2 n2 c2] w (aI w λv w'=>∃A n c,v=.slice A n c/\Dg w' w.heap.size A n c (a-b)):=by
 have P0:=h1.len;have e2:=h2.len;refine aE func183 rfl ?_;refine I ?_;have E4:World.ownsRow w w.heap.size 3 1 (.slice none 0 0) 0 (ints []):=bM;have E6:=aa1 w;refine cg [(5,38)] (λE9 e W=>∃k:Nat,∃H:Value,(n1-k=E9)/\(e 6=.int .i64 ((((i8 (ap 10 a) (ap 10 b) k).1:Nat):Int)))/\(e 7=.int .i64 k)/\(e 5=H)/\(k<=n1)/\(aP w W)/\(W.ownsRow w.heap.size 3 1 H k (ints (i8 (ap 10 a) (ap 10 b) k).2))) (n1-0) ⟨0,.slice none 0 0,rfl,rfl,rfl,rfl,(qa7 _),E6,E4⟩ ?_;rintro _ _ _ ⟨k,H,rfl,P1,Q0,O,P2,E,ho⟩;have No:=bz E;by_cases hka:k<n1;by_cases hkb:k<n2;by_cases hng:(ap 10 a).getD k 0<(i8 (ap 10 a) (ap 10 b) k).1+(ap 10 b).getD k 0;have Am:(i8 (ap 10 a) (ap 10 b) k).1<=1:=gG _ _ k;have Ab:=jO a k;have A0:=jO b k;have Af:n2<=k->(ap 10 b).getD k 0=0:=λh=>cW U;have G:(i8 (ap 10 a) (ap 10 b) (k+1))=(1,(i8 (ap 10 a) (ap 10 b) k).2++[(ap 10 a).getD k 0+10-(i8 (ap 10 a) (ap 10 b) k).1-(ap 10 b).getD k 0]):=if_pos hng;refine I ?_;obtain⟨Lj,CG,E0,L2⟩:=((h1.row).ext E).cells k _ (bF (xs:=(ap 10 a)) U);refine aa (aD (i:=(k)) (oo:=CG+k) kt ie rfl E0 rfl U (by rw[Nat.mul_one]) ?_);refine aa (bE (v:=.int .i64 ((((ap 10 a).getD k 0:Nat):Int))) (b:=Lj) (o:=CG+k) U3 rfl rfl L2 ?_)
 refine I ?_;refine nY ?_;refine I ?_;obtain⟨H4,Ay,Cr,Kp⟩:=((h2.row).ext E).cells k _ (bF (xs:=(ap 10 b)) U);refine aa (aD (i:=(k)) (oo:=Ay+k) kt ie rfl Cr rfl U (by rw[Nat.mul_one]) ?_);refine aa (bE (v:=.int .i64 ((((ap 10 b).getD k 0:Nat):Int))) (b:=H4) (o:=Ay+k) U3 rfl rfl Kp ?_);refine nY ?_;refine I ?_;refine aa (cC (a:=((((ap 10 a).getD k 0:Nat):Int)-(((i8 (ap 10 a) (ap 10 b) k).1:Nat):Int))-(((ap 10 b).getD k 0:Nat):Int)) (b:=10) (c:=(((ap 10 a).getD k 0+10-(i8 (ap 10 a) (ap 10 b) k).1-(ap 10 b).getD k 0:Nat):Int)) rfl rfl dT U ?_);refine I ?_;refine aa (aT (v:=H) O ?_);refine I ?_;refine BS (λ_ Aw _ H3=>?_);have ho:=ab Aw ho;have E:=xt E Aw;refine AP ho (aa7 H3) (λwr _ L3 ES _=>?_);have E:=bo ho U U E ES;refine aa (aL (v:=wr) rfl ?_);refine I ?_;refine aa (cC (a:=(k:Int)) (b:=1) (c:=((k+1:Nat):Int)) rfl rfl dT U ?_);refine I ?_;exact bJ ⟨k+1,wr,rfl,(by rw[G];rfl),rfl,rfl,U,E,(aQ L3 rfl (by rw[e8,G]))⟩;have Am:(i8 (ap 10 a) (ap 10 b) k).1<=1:=gG _ _ k;have Ab:=jO a k;have A0:=jO b k;have Af:n2<=k->(ap 10 b).getD k 0=0:=λh=>cW U
 have G:(i8 (ap 10 a) (ap 10 b) (k+1))=(0,(i8 (ap 10 a) (ap 10 b) k).2++[(ap 10 a).getD k 0-(i8 (ap 10 a) (ap 10 b) k).1-(ap 10 b).getD k 0]):=if_neg hng;refine I ?_;obtain⟨E1,Az,N0,Lk⟩:=((h1.row).ext E).cells k _ (bF (xs:=(ap 10 a)) U);refine aa (aD (i:=(k)) (oo:=Az+k) kt ie rfl N0 rfl U (by rw[Nat.mul_one]) ?_);refine aa (bE (v:=.int .i64 ((((ap 10 a).getD k 0:Nat):Int))) (b:=E1) (o:=Az+k) U3 rfl rfl Lk ?_);refine I ?_;refine nY ?_;refine I ?_;obtain⟨EW,B0,KM,ny⟩:=((h2.row).ext E).cells k _ (bF (xs:=(ap 10 b)) U);refine aa (aD (i:=(k)) (oo:=B0+k) kt ie rfl KM rfl U (by rw[Nat.mul_one]) ?_);refine aa (bE (v:=.int .i64 ((((ap 10 b).getD k 0:Nat):Int))) (b:=EW) (o:=B0+k) U3 rfl rfl ny ?_);refine aa (jl (a:=(((ap 10 a).getD k 0:Nat):Int)-(((i8 (ap 10 a) (ap 10 b) k).1:Nat):Int)) (b:=(((ap 10 b).getD k 0:Nat):Int)) (c:=(((ap 10 a).getD k 0-(i8 (ap 10 a) (ap 10 b) k).1-(ap 10 b).getD k 0:Nat):Int)) rfl rfl dT U ?_);refine I ?_;refine aa (aT (v:=H) O ?_);refine I ?_;refine BS (λ_ Ax _ L4=>?_);have ho:=ab Ax ho;have E:=xt E Ax;refine AP ho (aa7 L4) (λAv _ Ix La _=>?_);have E:=bo ho U U E La;refine aa (aL (v:=Av) rfl ?_);refine I ?_
 refine aa (cC (a:=(k:Int)) (b:=1) (c:=((k+1:Nat):Int)) rfl rfl dT U ?_);refine I ?_;exact bJ ⟨k+1,Av,rfl,(by rw[G];rfl),rfl,rfl,U,E,(aQ Ix rfl (by rw[e8,G]))⟩;by_cases hng:(ap 10 a).getD k 0<(i8 (ap 10 a) (ap 10 b) k).1+(ap 10 b).getD k 0;have Am:(i8 (ap 10 a) (ap 10 b) k).1<=1:=gG _ _ k;have Ab:=jO a k;have A0:=jO b k;have Af:n2<=k->(ap 10 b).getD k 0=0:=λh=>cW U;have G:(i8 (ap 10 a) (ap 10 b) (k+1))=(1,(i8 (ap 10 a) (ap 10 b) k).2++[(ap 10 a).getD k 0+10-(i8 (ap 10 a) (ap 10 b) k).1-(ap 10 b).getD k 0]):=if_pos hng;refine I ?_;obtain⟨K3,od,L1,Li⟩:=((h1.row).ext E).cells k _ (bF (xs:=(ap 10 a)) U);refine aa (aD (i:=(k)) (oo:=od+k) kt ie rfl L1 rfl U (by rw[Nat.mul_one]) ?_);refine aa (bE (v:=.int .i64 ((((ap 10 a).getD k 0:Nat):Int))) (b:=K3) (o:=od+k) U3 rfl rfl Li ?_);refine I ?_;refine nY ?_;refine I ?_;refine aa (cC (a:=(((ap 10 a).getD k 0:Nat):Int)-(((i8 (ap 10 a) (ap 10 b) k).1:Nat):Int)) (b:=10) (c:=(((ap 10 a).getD k 0+10-(i8 (ap 10 a) (ap 10 b) k).1-(ap 10 b).getD k 0:Nat):Int)) rfl rfl dT U ?_)
 refine I ?_;refine aa (aT (v:=H) O ?_);refine I ?_;refine BS (λ_ Ap _ CY=>?_);have ho:=ab Ap ho;have E:=xt E Ap;refine AP ho (aa7 CY) (λB2 _ KY D2 _=>?_);have E:=bo ho U U E D2;refine aa (aL (v:=B2) rfl ?_);refine I ?_;refine aa (cC (a:=(k:Int)) (b:=1) (c:=((k+1:Nat):Int)) rfl rfl dT U ?_);refine I ?_;exact bJ ⟨k+1,B2,rfl,(by rw[G];rfl),rfl,rfl,U,E,(aQ KY rfl (by rw[e8,G]))⟩;have Am:(i8 (ap 10 a) (ap 10 b) k).1<=1:=gG _ _ k;have Ab:=jO a k;have A0:=jO b k;have Af:n2<=k->(ap 10 b).getD k 0=0:=λh=>cW U;have G:(i8 (ap 10 a) (ap 10 b) (k+1))=(0,(i8 (ap 10 a) (ap 10 b) k).2++[(ap 10 a).getD k 0-(i8 (ap 10 a) (ap 10 b) k).1-(ap 10 b).getD k 0]):=if_neg hng;refine I ?_;obtain⟨H2,C1,GC,G0⟩:=((h1.row).ext E).cells k _ (bF (xs:=(ap 10 a)) U);refine aa (aD (i:=(k)) (oo:=C1+k) kt ie rfl GC rfl U (by rw[Nat.mul_one]) ?_);refine aa (bE (v:=.int .i64 ((((ap 10 a).getD k 0:Nat):Int))) (b:=H2) (o:=C1+k) U3 rfl rfl G0 ?_);refine I ?_;refine aa (jl (a:=(((ap 10 a).getD k 0:Nat):Int)) (b:=(((i8 (ap 10 a) (ap 10 b) k).1:Nat):Int)) (c:=(((ap 10 a).getD k 0-(i8 (ap 10 a) (ap 10 b) k).1-(ap 10 b).getD k 0:Nat):Int)) rfl rfl dT U ?_)
 refine I ?_;refine aa (aT (v:=H) O ?_);refine I ?_;refine BS (λ_ As _ KC=>?_);have ho:=ab As ho;have E:=xt E As;refine AP ho (aa7 KC) (λAr _ E5 D1 _=>?_);have E:=bo ho U U E D1;refine aa (aL (v:=Ar) rfl ?_);refine I ?_;refine aa (cC (a:=(k:Int)) (b:=1) (c:=((k+1:Nat):Int)) rfl rfl dT U ?_);refine I ?_;exact bJ ⟨k+1,Ar,rfl,(by rw[G];rfl),rfl,rfl,U,E,(aQ E5 rfl (by rw[e8,G]))⟩;have Ne:k=n1:=by omega
 obtain⟨Ao,CB,rfl,K2,-⟩:=eO ho;refine I ?_;refine clb Ig (hc:=qS (aa7 ho) (mW _ _ _) K2 U) (hk:=?_);rintro _ _ B1 ⟨Aq,rfl,FR,E7⟩;have ho:=ab B1.2 ho;have E:=xt E B1.2;refine I ?_;exact am (t:=4) (v:=.slice Ao Aq CB) rfl E ⟨Ao,Aq,CB,rfl,Dg.trim (aa7 ho) (CP (jO a) (jO b) k) (by rw[Ne];exact Ov h1.len h2.len hle) FR (by rw[mW];exact E7) U⟩ rfl
def Aa (h1:Dg w lo1 A1 n1 c1 a)(s1:n1<=90000)(h2:Dg w lo2 A2 n2 c2 b)(s2:n2<=90000)(hb0:0<b):
 CL 180 #[.slice A1 n1 c1,.slice A2 n2 c2] w (aI w λv w'=>∃A n c B m d,v=.tuple #[.slice A n c,.slice B m d]/\Dg w' w.heap.size A n c (a/b)/\Dg w' w.heap.size B m d (a%b)):=by
 have P2:=h1.len;have e2:=h2.len;refine aE func180 Z (I ?_);refine aa (mf (m:=n1) kt kB Z Z U Rg (λLj L1 _ CY=>?_));have KY:=L1;have hq:=Ee CY;rw[CQ]at hq;clear CY;refine I ?_;refine nY (I ?_);rw[<-JN]at hq;have GC:Dg Lj (w.heap.size+1) none 0 0 0:=Dg.zero _ _;refine cg [(7,8),(15,39)] (λAz e W=>∃i:Nat,∃T:List Nat,∃Ar:Option Addr,∃Af:Nat,∃Av:Nat,∃r:Nat,(i=Az)/\(e 8=.int .i64 ((i:Int)-1))/\(e 7=.slice Ar Af Av)/\(i<=n1)/\(M9 (ap 10 a) b i r T)/\(aP w W)/\(ao W w.heap.size 3 (ints (QL i T)).toArray)/\(Dg W (w.heap.size+1) Ar Af Av r)) (n1) ⟨n1,[],none,0,0,0,rfl,(qb2 (Value.int .i64) U),rfl,(qa0 _),(by rw[<-h1.len];exact M9.start hb0),KY,hq,GC⟩ ?_;rintro _ _ ny ⟨i,T,Ar,Af,Av,r,rfl,P0,od,No,O,G,hq,hr⟩;by_cases hi:0<i;have Ay:=bt hq;have E4:=hr.hi;have B0:=jO a (i-1);have D2:=O.rlt;have G0:=O.len;have Lk:Af<=n2+1:=JO hr.len h2.len U;refine I ?_;obtain⟨La,D1,wr,Li⟩:=((h1.row).ext G).cells (i-1) _ (bF (xs:=(ap 10 a)) U);refine aa (aD (i:=i-1) (oo:=D1+(i-1)) kt ie Z wr (dv Z U) U MT ?_);refine aa (bE (v:=.int .i64 (((ap 10 a).getD (i-1) 0:Nat):Int)) (b:=La) (o:=D1+(i-1)) U3 Z Z Li ?_)
 refine BS (λ_ Ap _ E6=>?_);have hq:=be Ap hq;have hr:=ac4 Ap hr;have G:=xt G Ap;have P1:=bz Ap;refine I ?_;refine aa (jB (v:=.slice (some ⟨ny.heap.size,0,none⟩) (1) (1)) (k:=1) kt kB Z dc Z E6 Z hr.row (by rw[iY,hr.len];omega) tQ Rg U U (λ_ K2 E1 B1 _=>?_));have hq:=aa3 B1 RT hq;have hr:=Dg.gr B1 (λL3 e=>by have:=E4 L3 e;simp[Value.ownBlock];omega) hr;have G:=cO G B1 (bz G) (λg KC=>by have:=(E6.lt g KC).1;omega);obtain⟨Aw,E9,rfl,Kp,Ne,-,-⟩:=eO E1;have hs:Rw K2 ny.heap.size Aw (ints (((ap 10 a).getD (i-1) 0)::ap 10 r)):=aa7 E1;refine clb Ig (hc:=qS hs (by rw[List.length_cons,hr.len];omega) Kp U) (hk:=?_);rintro _ H3 Aq ⟨Ax,rfl,Ao,E0⟩;have hq:=be Aq.2 hq;have hr:=ac4 Aq.2 hr;have G:=xt G Aq.2;rw[TR _ _ B0]at Ao;have K3:Dg H3 (w.heap.size+1) Aw Ax E9 (r*10+((ap 10 a).getD (i-1) 0)):=by
  refine⟨?_,?_,by omega⟩
  rw[Ao];have:=((hs.ext Aq.2).take Ax).mono (lo':=w.heap.size+1) U;simpa[ints,List.map_take]using this;rw[Ao,List.length_take,List.length_cons,hr.len];omega
 rw[Ow T hi]at hq;refine I ?_;refine cg [(7,7),(27,39)] (λAz e W=>∃c:Nat,∃Ar2:Option Addr,∃A0:Nat,∃As:Nat,∃r2:Nat,(r2=Az)/\(e 7=.slice Ar2 A0 As)/\(c*b+r2=(r*10+((ap 10 a).getD (i-1) 0)))/\(aP w W)/\(ao W w.heap.size 3 (ints (QL (i-1) (c::T))).toArray)/\(Dg W (w.heap.size+1) Ar2 A0 As r2)) (r*10+((ap 10 a).getD (i-1) 0)) ⟨0,Aw,Ax,E9,(r*10+((ap 10 a).getD (i-1) 0)),rfl,rfl,U,G,hq,K3⟩ ?_;rintro _ _ _ ⟨c,Ar2,A0,As,r2,rfl,EW,C1,E,hq,H⟩;by_cases hge:b<=r2;have Ay:=bt hq;have hcR:r2<=(r*10+((ap 10 a).getD (i-1) 0)):=by have:=qa7 (c*b);omega
 have L4:A0<=n2+1:=JO H.len h2.len U;have L2:c<10:=JP C1 D2 B0;refine I ?_;refine clb zg (hc:=jM H U (h2.ext E) U) (hk:=?_);rintro _ _ CB rfl;have hq:=be CB.2 hq;have H:=ac4 CB.2 H;have E:=xt E CB.2;have N0:=Ox hge;refine I ?_;refine clb DZ (hc:=lB H U (h2.ext E) U hge) (hk:=?_);rintro _ _ KM ⟨Am,nm,H2,rfl,Ab⟩;have⟨hq,E⟩:=bn KM.2 hq E;have Ab:=Ab.mono (lo':=w.heap.size+1) U;refine I ?_;refine aa (aD (A:=some ⟨w.heap.size,0,none⟩) (bk:=w.heap.size) (o:=0) (m:=n1) (c:=n1) (i:=i-1) (oo:=i-1) kt ie Z Z (dv Z U) U U ?_);refine aa (bE (v:=.int .i64 (((QL (i-1) (c::T)).getD (i-1) 0:Nat):Int)) U3 Z Z (ab3 hq (by rw[List.getElem?_toArray];exact bF (by rw[yc,List.length_cons];omega))) ?_);rw[TP];refine aa (cC (a:=(c:Int)) (b:=1) (c:=((c+1:Nat):Int)) Z Z dT U ?_);refine aa (aD (A:=some ⟨w.heap.size,0,none⟩) (bk:=w.heap.size) (o:=0) (m:=n1) (c:=n1) (i:=i-1) (oo:=i-1) kt ie Z Z (dv Z U) U U ?_);refine aa (b7 (b:=w.heap.size) (o:=i-1) (v:=.int .i64 ((c+1:Nat):Int)) ie Z Z Z hq (by rw[List.size_toArray,iY];rw[yc,List.length_cons];omega) (λ_ E7 H4=>?_));have Ab:=Dg.put E7 U Ab;have E:=bh E7 E;have hq:=H4;rw[ints_set]at hq
 refine I ?_;exact bJ ⟨c+1,Am,nm,H2,r2-b,rfl,rfl,(by rw[Nat.add_mul];omega),E,(by rw[TQ]at hq;exact hq),Ab⟩;have Ay:=bt hq;have hcR:r2<=(r*10+((ap 10 a).getD (i-1) 0)):=by have:=qa7 (c*b);omega
 have L4:A0<=n2+1:=JO H.len h2.len U;have L2:c<10:=JP C1 D2 B0;refine I ?_;refine clb zg (hc:=jM H U (h2.ext E) U) (hk:=?_);rintro _ _ B2 rfl;have hq:=be B2.2 hq;have H:=ac4 B2.2 H;have E:=xt E B2.2;have Q0:=Oy hge;refine I ?_;refine aa (jl (a:=(i:Int)-1) (b:=1) (c:=((i-1:Nat):Int)-1) Z Z dT U ?_);refine I ?_;exact bJ ⟨i-1,c::T,Ar2,A0,As,r2,rfl,rfl,EW,U,(M9.step (eI 10 U a) (by rw[show i-1+1=i by omega];exact O) C1 U),E,hq,H⟩;have Ay:=bt hq;have Ix:i=0:=J
 rw[Ix]at O hq;have G0:=O.len;obtain⟨E5,Cr⟩:=O.fin hb0;rw[h1.val]at E5 Cr;have E4:=hr.hi;refine I ?_;have FR:=ae1 hq (qa0 _);refine clb Ig (hc:=qS FR (by rw[yc];omega) (qa0 _) U) (hk:=?_);rintro _ _ CG ⟨ES,rfl,Ao,E0⟩;have hq:=be CG.2 hq;have hr:=ac4 CG.2 hr;have G:=xt G CG.2;refine I ?_;exact bw (t:=4) (u:=5) (v1:=.slice (some ⟨w.heap.size,0,none⟩) ES n1) (v2:=.slice Ar Af Av) Z G ⟨_,ES,_,_,_,_,rfl,(Dg.trim (ae1 hq (qa0 _)) (by rw[show QL 0 T=T from rfl];exact O.lt) (by rw[show QL 0 T=T from rfl];exact E5) Ao (by rw[yc];omega) E0).mono U,by rw[<-Cr];exact hr.mono U⟩ Z Z
end Go.Proofs.YtlmihmlnpjkblaaGreatDoor
