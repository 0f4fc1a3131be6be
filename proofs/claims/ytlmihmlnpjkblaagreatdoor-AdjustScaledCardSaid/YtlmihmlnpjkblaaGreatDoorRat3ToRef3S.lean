/- Part of the proof of a statement about an adjustment. -/
import Derived.Test.YtlmihmlnpjkblaaGreatDoorInt13ToRat2S
set_option linter.all false
namespace Go.Proofs.YtlmihmlnpjkblaaGreatDoor
open Go Go.Eng Go.RowKit Tryz
variable {q ng:Bool}{xs X Y:List Nat}{l d:List UInt8}{i lo' k base n a j n1 c1 lo1 n2 c2 b lo2:Nat}{A1 A A2:Option Addr}{c:UInt8}{w:World}
attribute [local irreducible] wpListIn Code.wpIn Oper.wpIn Exit.then Exit.inBlock Exit.noGoto
set_option maxHeartbeats 40000000
def uz:bN ([48],[49])=true:=by decide +kernel
def c7 {a:R}(h:bN a=true):0<aj a.2:=by
 have h2:=gD h
 simp only[bN,Bool.and_eq_true,Bool.not_eq_true',decide_eq_false_iff_not]at h
 have:=h.1.2
 rw[gU h2,dh]at this
 omega
def GO:du [48] [49]=some ([48],[48]):=by decide +kernel
def Au (h:0<aj l):0<aG (body l):=by have:=WD l;omega
def Rt {a:R}(h:bN a=true):du a.1 a.2=some (ae (aj a.1/aj a.2),ae (aj a.1%aj a.2)):=by
 have E:=c7 h
 rw[lD (by rw[jt h,gD h];rfl) (Au E)]
 have hf:fits (aj a.1/aj a.2)=true:=by
  refine kf (e9 (jt h)) ?_
  obtain⟨d,hd⟩:∃d:Nat,aj a.2=(d:Int):=⟨(aj a.2).toNat,by omega⟩
  rw[hd]at E ⊢
  rcases Int.le_total 0 (aj a.1)with h0|h0
  · have h1:=Int.ediv_nonneg h0 (Int.le_of_lt E)
    have h2:=Int.ediv_le_self (b:=(d:Int)) h0
    omega
  · have h1:aj a.1/(d:Int)<=0:=Int.ediv_nonpos_of_nonpos_of_neg h0 E
    have h2:aj a.1<=aj a.1/(d:Int):=by
     refine Int.le_ediv_of_mul_le E ?_
     have G:0<=(-aj a.1)*((d:Int)-1):=Int.mul_nonneg U U
     rw[Int.neg_mul,Int.mul_sub,Int.mul_one]at G
     omega
    omega
 unfold bg;rw[if_pos hf];rfl
def qS (x:Int):Int:=aQ x 0
def JJ {a:R}(h:bN a=true):fits (aj a.1%aj a.2)=true:=by
 have E:=c7 h
 refine kf (e9 (gD h)) ?_
 have h1:=Int.emod_nonneg (aj a.1) (show aj a.2≠0 by omega)
 have h2:=Int.emod_lt_of_pos (aj a.1) E
 omega
def wO {a:R}(h:bN a=true):dT (ae (aj a.1/aj a.2)) [48]=aQ (aj a.1/aj a.2) 0:=by
 have hd:=Rt h
 have hf:fits (aj a.1/aj a.2)=true:=by
  rw[lD (by rw[jt h,gD h];rfl) (Au (c7 h))]at hd
  cases hh:fits (aj a.1/aj a.2)with
  |true=>rfl
  |false=>unfold bg at hd;rw[hh]at hd;simp at hd
 rw[gU (br hf),aJ]
def AA {a:R}(h:bN a=true):(ae (aj a.1%aj a.2)=[48])↔aj a.1%aj a.2=0:=by
 rw[<-gi (br (JJ h)),aJ]
def TY {a:R}(h:bN a=true)(h1:¬dT (ae (aj a.1/aj a.2)) [48]=0):dT (ae (aj a.1/aj a.2)) [48]=qS (aj a.1):=by
 rw[wO h]at *
 have G:=c7 h
 unfold qS
 refine ow ?_ ?_
 · constructor
   · intro E
     by_cases h9:aj a.1<0
     · exact h9
     · have:=Int.ediv_nonneg (Int.not_lt.1 h9) (Int.le_of_lt G);omega
   · intro E;exact Int.ediv_neg_of_neg_of_pos E G
 · constructor
   · intro E;rw[E]at h1;exact absurd (jy Z) h1
   · intro E;rw[E];simp
def JK {a:R}(h:bN a=true)(h1:dT (ae (aj a.1/aj a.2)) [48]=0):0<=aj a.1/\aj a.1%aj a.2=aj a.1:=by
 rw[wO h]at h1
 have E:=c7 h
 have hq:aj a.1/aj a.2=0:=by
  unfold aQ at h1
  split at h1
  · omega
  · split at h1
    · assumption
    · omega
 have h2:=Int.emod_add_mul_ediv (aj a.1) (aj a.2)
 rw[hq]at h2
 have h3:=Int.emod_nonneg (aj a.1) (show aj a.2≠0 by omega)
 simp at h2
 exact⟨by omega,h2⟩
def TZ {a:R}(h:bN a=true)(h1:dT (ae (aj a.1/aj a.2)) [48]=0)(h2:ae (aj a.1%aj a.2)=[48]):(0:Int)=qS (aj a.1):=by
 obtain⟨_,h4⟩:=JK h h1
 rw[AA h,h4]at h2
 unfold qS;rw[jy h2]
def T0 {a:R}(h:bN a=true)(h1:dT (ae (aj a.1/aj a.2)) [48]=0)(h2:¬ae (aj a.1%aj a.2)=[48]):(1:Int)=qS (aj a.1):=by
 obtain⟨_,h4⟩:=JK h h1
 rw[AA h,h4]at h2
 unfold qS;rw[eY U]
def OF (a b:List UInt8):-1<=dT a b/\dT a b<=1:=by
 unfold dT aQ
 split
 · split
   · omega
   · split <;>omega
 · omega
set_option maxRecDepth 100000 in
def OG (x1 x2:List UInt8)(w:World)(ht:Tb w)(h:bN (x1,x2)=true):
 CL 26 #[.agg #[S x1,S x2],.agg #[S [48],S [49]]] w (aH w λv w'=>v=.int .i64 (qS (aj x1))):=by
 have Ap:=Rt h;refine aD func26 Z (I ?_);refine bx (λ_ Af H=>?_);have ht:=ab7 Af.2 ht;have E:=Af.2;refine bx (λ_ Am G=>?_);have ht:=ab7 Am.2 ht;have⟨H,E⟩:=bo Am.2 H E;refine I ?_;refine cl tz (eE x1 x2 _ ht) ?_;rintro _ _ Ab rfl;have ht:=ab7 Ab.2 ht;have⟨H,G,E⟩:=ca Ab.2 H G E;refine I ?_;refine cl tz (eE [48] [49] _ ht) ?_;rintro _ _ Ao rfl;have ht:=ab7 Ao.2 ht;have⟨H,G,E⟩:=ca Ao.2 H G E;refine I ?_;refine wpIn_label (I ?_);refine cl zu (ke x1 x2 _ ht) ?_;rintro Ar _ A0 W;have ht:=ab7 A0.2 ht;have⟨G,E⟩:=bo A0.2 G E;rw[Ap]at W;have W:Ar=.tuple #[S (ae (aj x1/aj x2)),S (ae (aj x1%aj x2)),.int .i64 0]:=W;subst W;refine I ?_;refine cl zu (ke [48] [49] _ ht) ?_;rintro Aq _ As O;have E:=xt E As.2;rw[GO]at O;have O:Aq=.tuple #[S [48],S [48],.int .i64 0]:=O;subst O;refine I ?_;refine cl xF (pu (ae (aj x1/aj x2)) [48] _) ?_;rintro _ _ Av rfl;have E:=xt E Av.2;have Aw:=OF (ae (aj x1/aj x2)) [48];refine I ?_;by_cases cx:(dT (ae (aj x1/aj x2)) [48])=0;refine I ?_;by_cases cv:(ae (aj x1%aj x2))=([48]);refine I ?_;refine sh (b:=[48]) (I ?_);refine sh (a:=[48]) (b:=[48]) (I ?_)
 exact am (t:=4) (v:=.int .i64 0) Z E (qb2 (Value.int .i64) (TZ (a:=(x1,x2)) h cx cv)) Z;refine I ?_;refine sh (b:=[48]) (I ?_);refine sh (b:=[48]) (I ?_);refine sh (a:=[48]) (b:=[48]) (I ?_);exact am (t:=4) (v:=.int .i64 1) Z E (qb2 (Value.int .i64) (T0 (a:=(x1,x2)) h cx cv)) Z;refine I ?_;refine aa (rm (a:=1) (b:=dT (ae (aj x1/aj x2)) [48]) (c:=1*(dT (ae (aj x1/aj x2)) [48])) Z Z L7 Z ?_);refine I ?_;exact am (t:=4) (v:=.int .i64 (1*(dT (ae (aj x1/aj x2)) [48]))) Z E (qb2 (Value.int .i64) ((Int.one_mul _).trans (TY (a:=(x1,x2)) h cx))) Z
def ak {p:Prop}(h:p:=by assumption):p:=h
def c45 :(((c.toNat:Nat):Int)=45)↔c=45:=by
 constructor
 · intro h;exact UInt8.toNat_inj.1 (by have:(45:UInt8).toNat=45:=rfl;omega)
 · intro h;subst h;rfl
def c48 :(((c.toNat:Nat):Int)=48)↔c=48:=by
 constructor
 · intro h;exact UInt8.toNat_inj.1 (by have:(48:UInt8).toNat=48:=rfl;omega)
 · intro h;subst h;rfl
def AB (hc:l[0]?=some c)(h:((c.toNat:Nat):Int)=45):neg l=true/\body l=l.drop 1:=by
 rw[c45]at h;subst h
 cases l with
 |nil=>simp at hc
 |cons a t=>simp at hc;subst hc;exact⟨rfl,rfl⟩
def E3 (hc:l[0]?=some c)(h:¬((c.toNat:Nat):Int)=45):neg l=false/\body l=l:=by
 have E:l.head?≠some 45:=by rw[List.head?_eq_getElem?,hc];intro e;cases e;exact h Z
 exact⟨Jp E,x6 E⟩
def JM (h:¬(0:Int)<((l.length:Nat):Int)):neg l=false/\body l=l:=by
 have:l=[]:=List.length_eq_zero_iff.1 U
 subst this;exact⟨rfl,rfl⟩
section
variable {D:List UInt8}
def HZ (hb:neg l=true/\body l=D)(h:D=[48]):Value.bool false=.bool (isInt l):=by
 unfold isInt;rw[hb.1,hb.2,h];rfl
def H0 (hb:neg l=q/\body l=D)(h:¬(0:Int)<((D.length:Nat):Int)):Value.bool false=.bool (isInt l):=by
 have:D=[]:=List.length_eq_zero_iff.1 U
 unfold isInt eo;rw[hb.2,this];rfl
def H1 (hb:neg l=q/\body l=D)(h:¬((D.length:Nat):Int)<=200):Value.bool false=.bool (isInt l):=by
 have:¬D.length<=200:=J
 unfold isInt eo;rw[hb.2];simp[this]
def sR (hb:neg l=q/\body l=D)(hc:D[i]?=some c)(h:cC c=false):Value.bool false=.bool (isInt l):=by
 have:D.all cC=false:=by
  rw[List.all_eq_false]
  exact⟨c,List.mem_iff_getElem?.2 ⟨i,hc⟩,by simp[h]⟩
 unfold isInt eo;rw[hb.2,this];simp
def dig_lo (h:((c.toNat:Nat):Int)<48):cC c=false:=by unfold cC;simp;omega
def dig_hi (h:(57:Int)<((c.toNat:Nat):Int)):cC c=false:=by unfold cC;simp;omega
def JN (h1:¬((c.toNat:Nat):Int)<48)(h2:¬(57:Int)<((c.toNat:Nat):Int)):cC c=true:=by unfold cC;simp;omega
def H5 (hb:neg l=false/\body l=D)(h:D=[48]):Value.bool true=.bool (isInt l):=by
 unfold isInt;rw[hb.1,hb.2,h];rfl
def H6 (hb:neg l=q/\body l=D)(ha:D.all cC=true)(h0:(0:Int)<((D.length:Nat):Int))(h1:((D.length:Nat):Int)<=200)(h:¬D=[48])(hc:D[0]?=some c):Value.bool (!decide (((c.toNat:Nat):Int)=48))=.bool (isInt l):=by
 have e1:D.isEmpty=false:=by cases D <;>simp_all
 have e2:D.length<=200:=J
 have E:D.head?=some c:=by rw[List.head?_eq_getElem?];exact hc
 congr 1
 unfold isInt eo
 rw[hb.2]
 simp only[e1,e2,ha,h,E,c48,Bool.not_false,decide_true,decide_false,Bool.and_self,Bool.true_and,Bool.false_or,Bool.and_false,Bool.not_false,Bool.and_true,ne_eq,Option.some.injEq,decide_not]
def nT (ha:(D.take i).all cC=true)(hc:D[i]?=some c)(h:cC c=true):(D.take (i+1)).all cC=true:=by
 have hi:i<D.length:=(List.getElem?_eq_some_iff.1 hc).1
 have E:=(List.getElem?_eq_some_iff.1 hc).2
 rw[List.take_succ_eq_append_getElem hi,List.all_append,ha,E]
 simp[h]
end
structure Dg (w:World)(lo:Nat)(A:Option Addr)(n c a:Nat):Prop where
 row:Rw w lo A (ints (au 10 a))
 len:(au 10 a).length=n
 cap:n<=c
section
variable {w0 w':World}{lo:Nat}{c:Nat}
def Dg.ext (k:aO w w')(h:Dg w lo A n c a):Dg w' lo A n c a:=⟨h.row.ext k,h.len,h.cap⟩
def ac9:=@Dg.ext
def Dg.gr {row:Option Nat}(k:w.grownBy w' row)(hne:∀ad,A=some ad->some ad.block≠row)(h:Dg w lo A n c a):Dg w' lo A n c a:=⟨h.row.gr k hne,h.len,h.cap⟩
def Dg.mono (hl:lo'<=lo)(h:Dg w lo A n c a):Dg w lo' A n c a:=⟨h.row.mono hl,h.len,h.cap⟩
def Dg.lt (h:Dg w lo A n c a):∀x∈au 10 a,x<10:=eO 10 U a
def Dg.val (h:Dg w lo A n c a):bU 10 (au 10 a)=a:=cK 10 U a
def Dg.zero (w:World)(lo:Nat):Dg w lo none 0 0 0:=⟨Rw.nil w lo,rfl,qa0 _⟩
def Dg.trim {l:List Nat}{m:Nat}(hr:Rw w lo A (ints l))(hd:∀d∈l,d<10)(hv:bU 10 l=a)(ht:dK l=l.take m)(hm:m<=l.length)(hc:m<=c):Dg w lo A m c a:=by
 have h1:au 10 a=l.take m:=by rw[<-ht,<-hv];exact(mH 10 U l hd).symm
 refine⟨?_,?_,hc⟩
 · rw[h1]
   have:=hr.take m
   simpa[ints,List.map_take]using this
 · rw[h1];simp;omega
end
def AC (hc:d[d.length-1-i]?=some c)(hi:i<d.length):eJ (d.drop (d.length-i))++[c.toNat-48]=eJ (d.drop (d.length-(i+1))):=by
 have hlt:d.length-(i+1)<d.length:=J
 have E:d.drop (d.length-(i+1))=c::d.drop (d.length-i):=by
  rw[List.drop_eq_getElem_cons hlt]
  have e2:d[d.length-(i+1)]?=some c:=by rw[show d.length-(i+1)=d.length-1-i by omega];exact hc
  rw[List.getElem?_eq_getElem hlt]at e2
  rw[Option.some.inj e2,show d.length-(i+1)+1=d.length-i by omega]
 rw[E];simp[eJ]
set_option maxRecDepth 100000 in
def cI (l:List UInt8)(w:World)(hl:l.length<=1000000):
 CL 135 #[S l] w (aH w λv w'=>v=.bool (isInt l)):=by
 refine aD func135 Z (I ?_);by_cases cf:0<(((l).length:Nat):Int);refine I ?_;refine aa (dE (l:=l) U9 Z ?_);refine I ?_;have Ao:=dz (l:=l) (i:=0) U;refine aa (iu (l:=l) (i:=0) (c:=(l.getD 0 0)) U9 Z Z Ao ?_);refine I ?_;by_cases lr:(((l.getD 0 0).toNat:Nat):Int)=45;have hb:=AB (dz U) lr;refine I ?_;refine aa (mx (l:=l) (i:=1) (j:=(l).length) U9 Z (.inr ⟨_,qb2 some Z⟩) (.inl ⟨rfl,rfl⟩) U U ?_);rw[show((l).take ((l).length)).drop 1=(l).drop 1 by rw[List.take_length]];refine I ?_;refine sh (b:=[48]) (I ?_);by_cases lm:((l).drop 1)=([48]);refine I ?_;exact am (t:=2) (v:=.bool false) Z (aa3 _) GS Z;refine I ?_;have hlD:((l).drop 1).length<=1000000:=by first|omega|(simp;omega)
 have Ap:=aa3 w;refine b7 [(2,3),(16,31)] (λA0 e W=>∃i:Nat,(((l).drop 1).length-i=A0)/\(e 3=.int .i64 i)/\(i<=((l).drop 1).length)/\((((l).drop 1).take i).all cC=true)/\(aO w W)) (((l).drop 1).length-0) ⟨0,rfl,rfl,(qa7 _),rfl,Ap⟩ ?_;rintro _ _ _ ⟨i,rfl,Ay,hi,G,O⟩;by_cases hlt:i<((l).drop 1).length;refine I ?_;refine aa (j9 (l:=(l).drop 1) (m:=((l).drop 1).length) U9 Z Z ?_);refine I ?_;by_cases cv:(((((l).drop 1).getD i 0).toNat:Nat):Int)<48;refine I ?_;have Av:=dz (l:=(l).drop 1) (i:=(i)) U;refine aa (iu (l:=(l).drop 1) (i:=(i)) (c:=(((l).drop 1).getD i 0)) U9 Z Z Av ?_);refine I ?_;exact am (t:=2) (v:=.bool false) Z O GS Z;refine I ?_;have Af:=dz (l:=(l).drop 1) (i:=(i)) U;refine aa (iu (l:=(l).drop 1) (i:=(i)) (c:=(((l).drop 1).getD i 0)) U9 Z Z Af ?_);refine I ?_;have ny:=dz (l:=(l).drop 1) (i:=(i)) U;refine aa (iu (l:=(l).drop 1) (i:=(i)) (c:=(((l).drop 1).getD i 0)) U9 Z Z ny ?_);refine I ?_
 by_cases ly:57<(((((l).drop 1).getD i 0).toNat:Nat):Int);refine I ?_;exact am (t:=2) (v:=.bool false) Z O GS Z;refine I ?_;refine aa (cG (a:=(i:Int)) (b:=1) (c:=((i+1:Nat):Int)) Z Z L7 U ?_);refine I ?_;exact bF ⟨i+1,rfl,rfl,U,(by first|exact nT G ak (JN ak ak)),O⟩;have E:((l).drop 1).all cC=true:=by rw[<-List.take_length (l:=(l).drop 1),show((l).drop 1).length=i by omega];exact G
 refine I ?_;refine aa (j9 (l:=(l).drop 1) (m:=((l).drop 1).length) U9 Z Z ?_);refine I ?_;by_cases cr:0<((((l).drop 1).length:Nat):Int);by_cases cw:((((l).drop 1).length:Nat):Int)<=200;refine I ?_;refine aa (dE (l:=(l).drop 1) U9 Z ?_);refine I ?_;refine aa (dE (l:=(l).drop 1) U9 Z ?_);refine I ?_;refine sh (b:=[48]) (I ?_);have od:=dz (l:=(l).drop 1) (i:=0) U;refine aa (iu (l:=(l).drop 1) (i:=0) (c:=(((l).drop 1).getD 0 0)) U9 Z Z od ?_);refine I ?_;exact am (t:=2) (v:=.bool (!decide ((((((l).drop 1).getD 0 0).toNat:Nat):Int)=48))) Z O GS Z;refine I ?_;refine aa (dE (l:=(l).drop 1) U9 Z ?_);refine I ?_;refine aa (dE (l:=(l).drop 1) U9 Z ?_);refine I ?_
 exact am (t:=2) (v:=.bool false) Z O GS Z;refine I ?_;refine aa (dE (l:=(l).drop 1) U9 Z ?_);refine I ?_;exact am (t:=2) (v:=.bool false) Z O GS Z;have hb:=E3 (dz U) lr;refine I ?_;have hlD:(l).length<=1000000:=by first|omega|(simp;omega)
 have Ab:=aa3 w;refine b7 [(2,3),(16,31)] (λA0 e W=>∃i:Nat,((l).length-i=A0)/\(e 3=.int .i64 i)/\(i<=(l).length)/\(((l).take i).all cC=true)/\(aO w W)) ((l).length-0) ⟨0,rfl,rfl,(qa7 _),rfl,Ab⟩ ?_;rintro _ _ _ ⟨i,rfl,Ax,hi,G,H⟩;by_cases hlt:i<(l).length;refine I ?_;refine aa (j9 (l:=l) (m:=(l).length) U9 Z Z ?_);refine I ?_;by_cases cx:(((l.getD i 0).toNat:Nat):Int)<48;refine I ?_;have Ar:=dz (l:=l) (i:=(i)) U;refine aa (iu (l:=l) (i:=(i)) (c:=(l.getD i 0)) U9 Z Z Ar ?_);refine I ?_;exact am (t:=2) (v:=.bool false) Z H GS Z;refine I ?_;have Am:=dz (l:=l) (i:=(i)) U;refine aa (iu (l:=l) (i:=(i)) (c:=(l.getD i 0)) U9 Z Z Am ?_);refine I ?_;have As:=dz (l:=l) (i:=(i)) U;refine aa (iu (l:=l) (i:=(i)) (c:=(l.getD i 0)) U9 Z Z As ?_);refine I ?_;by_cases mq:57<(((l.getD i 0).toNat:Nat):Int);refine I ?_
 exact am (t:=2) (v:=.bool false) Z H GS Z;refine I ?_;refine aa (cG (a:=(i:Int)) (b:=1) (c:=((i+1:Nat):Int)) Z Z L7 U ?_);refine I ?_;exact bF ⟨i+1,rfl,rfl,U,(by first|exact nT G ak (JN ak ak)),H⟩;have E:(l).all cC=true:=by rw[<-List.take_length (l:=l),show(l).length=i by omega];exact G
 refine I ?_;refine aa (j9 (l:=l) (m:=(l).length) U9 Z Z ?_);refine I ?_;by_cases cm:(((l).length:Nat):Int)<=200;by_cases cy:l=([48]);refine I ?_;refine aa (dE (l:=l) U9 Z ?_);refine I ?_;refine aa (dE (l:=l) U9 Z ?_);refine I ?_;refine sh (b:=[48]) (I ?_);exact am (t:=2) (v:=.bool true) Z H GS Z;refine I ?_;refine aa (dE (l:=l) U9 Z ?_);refine I ?_;refine aa (dE (l:=l) U9 Z ?_);refine I ?_;refine sh (b:=[48]) (I ?_);have Aq:=dz (l:=l) (i:=0) U;refine aa (iu (l:=l) (i:=0) (c:=(l.getD 0 0)) U9 Z Z Aq ?_);refine I ?_;exact am (t:=2) (v:=.bool (!decide ((((l.getD 0 0).toNat:Nat):Int)=48))) Z H GS Z;refine I ?_
 refine aa (dE (l:=l) U9 Z ?_);refine I ?_;refine aa (dE (l:=l) U9 Z ?_);refine I ?_;exact am (t:=2) (v:=.bool false) Z H GS Z;have hb:=JM cf;refine I ?_;refine aa (dE (l:=l) U9 Z ?_);refine I ?_;have hlD:(l).length<=1000000:=by first|omega|(simp;omega)
 have wr:=aa3 w;refine b7 [(2,3),(16,31)] (λA0 e W=>∃i:Nat,((l).length-i=A0)/\(e 3=.int .i64 i)/\(i<=(l).length)/\(((l).take i).all cC=true)/\(aO w W)) ((l).length-0) ⟨0,rfl,rfl,(qa7 _),rfl,wr⟩ ?_;rintro _ _ _ ⟨i,rfl,Aw,hi,G,nm⟩;by_cases hlt:i<(l).length;exact absurd hlt U;have E:(l).all cC=true:=by rw[<-List.take_length (l:=l),show(l).length=i by omega];exact G
 refine I ?_;refine aa (j9 (l:=l) (m:=(l).length) U9 Z Z ?_);refine I ?_;refine aa (dE (l:=l) U9 Z ?_);refine I ?_;exact am (t:=2) (v:=.bool false) Z nm GS Z
set_option maxRecDepth 100000
def kS (h:isInt l=true):0<l.length/\l.length<=201:=by
 have h1:=kP (ez h)
 cases hn:neg l with
 |true=>have:=ue hn;rw[this];simp;omega
 |false=>rw[pm hn]at h1;omega
def uA (d:List UInt8):eJ (d.drop (d.length-0))=[]:=by simp[eJ]
def pC (hd:eo d=true)(h:k=d.length/\¬d=[48]\/k=0/\d=[48]):eJ (d.drop (d.length-k))=au 10 (aG d):=by
 rcases h with⟨rfl,h⟩|⟨rfl,rfl⟩
 · rw[Nat.sub_self,List.drop_zero];exact zZ hd h
 · rfl
def yo (h:d.all cC=true)(hi:i<d.length):48<=(d.getD i 0).toNat/\(d.getD i 0).toNat<=57:=by
 have hc:=dz hi
 have:=List.all_eq_true.1 h _ (List.mem_iff_getElem?.2 ⟨i,hc⟩)
 simpa[cC]using this
def qT {v:Value}(h:w.ownsRow base 3 1 v n (ints xs))(hx:xs=au 10 a):∃A c,v=.slice A n c/\Dg w base A n c a:=by
 subst hx
 obtain⟨A,c,rfl,hc,-⟩:=e8 h
 refine⟨A,c,rfl,aa7 h,?_,hc⟩
 have:=h.1
 rw[i7]at this;omega
def Xm (l:List UInt8):List Value:=l.map λb=>Value.int .u8 b.toNat
def uB (hn:X.length=n)(hk:k<n):cR (X.drop (n-(k+1)))=cR (X.drop (n-k))++[UInt8.ofNat (48+X.getD (n-1-k) 0)]:=by
 have h1:X.drop (n-(k+1))=X.getD (n-(k+1)) 0::X.drop (n-(k+1)+1):=drop_at U
 rw[h1,show n-(k+1)+1=n-k by omega,show n-(k+1)=n-1-k by omega]
 simp[cR]
def wP {d:Nat}(h:d<10):(((UInt8.ofNat (48+d)).toNat:Nat):Int)=48+(d:Int):=by
 have e:(UInt8.ofNat (48+d)).toNat=48+d:=by rw[UInt8.toNat_ofNat'];omega
 rw[e];omega
def jF (h:∀x∈xs,x<10)(i:Nat):xs.getD i 0<10:=by
 rcases Nat.lt_or_ge i xs.length with hi|hi
 · have E:xs[i]? =some xs[i]:=qa5 hi
   rw[List.getD,E];exact h _ (List.getElem_mem hi)
 · rw[lB hi];omega
def sj (ng:Bool)(a:Nat):List UInt8:=if a=0 then[48]else if ng then 45::bw a else bw a
def wi (a:Nat):Bool:=decide (a=0)||decide ((au 10 a).length<=200)
def JO (h:a=0):Value.tuple #[S [48],.bool true]=.tuple #[S (sj ng a),.bool (wi a)]:=by subst h;rfl
def E8 (h:0<a)(hn:(au 10 a).length=n)(hl:l=(if ng then[45]else[])++cR (au 10 a)):Value.tuple #[S l,.bool (decide ((n:Int)<=200))]=.tuple #[S (sj ng a),.bool (wi a)]:=by
 have e1:sj ng a=l:=by
  have E:¬a=0:=J
  unfold sj bw
  rw[if_neg E,if_neg E,hl]
  cases ng <;>rfl
 have e2:wi a=decide ((n:Int)<=200):=by
  have E:¬a=0:=J
  unfold wi;rw[hn,decide_eq_false E,Bool.false_or,decide_eq_decide];omega
 rw[e1,e2]
def Fa (B:Nat)(xs:List Nat)(h:j<xs.length):bU B xs=bU B (xs.take j)+B^j*(xs.getD j 0+B*bU B (xs.drop (j+1))):=by
 conv=>lhs;rw[<-List.take_append_drop j xs]
 rw[cu,List.length_take,Nat.min_eq_left U,drop_at h]
 rfl
def wQ (hn:X.length=n)(hm:Y.length=n)(h:∀i,j<=i->i<n->X.getD i 0=Y.getD i 0):X.drop j=Y.drop j:=by
 apply List.ext_getElem?
 intro i
 rw[List.getElem?_drop,List.getElem?_drop]
 by_cases hi:j+i<n
 · have:=h (j+i) U hi
   rw[List.getD,List.getD,List.getElem?_eq_getElem U,List.getElem?_eq_getElem U]at this
   rw[List.getElem?_eq_getElem U,List.getElem?_eq_getElem U]
   exact qb2 some this
 · rw[List.getElem?_eq_none U,List.getElem?_eq_none U]
def JP (hX:∀d∈X,d<10)(hn:X.length=n)(hm:Y.length=n)(hj:j<n)(h:∀i,j+1<=i->i<n->X.getD i 0=Y.getD i 0)(hl:X.getD j 0<Y.getD j 0):bU 10 X<bU 10 Y:=by
 rw[Fa 10 X (show j<X.length by omega),Fa 10 Y (show j<Y.length by omega),wQ (n:=n) (j:=j+1) hn hm h]
 have h1:bU 10 (X.take j)<10^j:=by
  have:=ln 10 (X.take j) (λd hd=>hX d (List.mem_of_mem_take hd))
  rwa [List.length_take,Nat.min_eq_left U]at this
 have h2:10^j*(X.getD j 0+10*bU 10 (Y.drop (j+1))+1)<=10^j*(Y.getD j 0+10*bU 10 (Y.drop (j+1))):=Nat.mul_le_mul_left _ U
 rw[Nat.mul_add,Nat.mul_one]at h2
 omega
section
def AD (h1:(au 10 a).length=n1)(h2:(au 10 b).length=n2)(h:n1<n2):a<b:=by
 rcases Nat.lt_or_ge a b with h3|h3
 · exact h3
 · have:=ey (B:=10) U h3;omega
def uC (h1:(au 10 a).length=n1)(h2:(au 10 b).length=n2)(h:n1<n2):(-1:Int)=aQ (a:Int) (b:Int):=by
 rw[gh];have:=AD h1 h2 h;omega
def uE (h1:(au 10 a).length=n1)(h2:(au 10 b).length=n2)(h:n2<n1):(1:Int)=aQ (a:Int) (b:Int):=by
 rw[eY];have:=AD h2 h1 h;omega
def pF (h1:(au 10 a).length=n1)(h2:(au 10 b).length=n2)(hn:n1=n2)(hk:k<n1)(h:∀i,n1-k<=i->i<n1->(au 10 a).getD i 0=(au 10 b).getD i 0)(hl:(au 10 a).getD (n1-1-k) 0<(au 10 b).getD (n1-1-k) 0):(-1:Int)=aQ (a:Int) (b:Int):=by
 subst hn
 have:=JP (eO 10 U a) h1 h2 (j:=n1-1-k) U (λi _=>h i U) hl
 rw[cK 10 U,cK 10 U]at this
 rw[gh];omega
def pH (h1:(au 10 a).length=n1)(h2:(au 10 b).length=n2)(hn:n1=n2)(hk:k<n1)(h:∀i,n1-k<=i->i<n1->(au 10 a).getD i 0=(au 10 b).getD i 0)(hl:(au 10 b).getD (n1-1-k) 0<(au 10 a).getD (n1-1-k) 0):(1:Int)=aQ (a:Int) (b:Int):=by
 subst hn
 have:=JP (eO 10 U b) h2 h1 (j:=n1-1-k) U (λi _ E=>(h i U E).symm) hl
 rw[cK 10 U,cK 10 U]at this
 rw[eY];omega
def uF (h1:(au 10 a).length=n1)(h2:(au 10 b).length=n2)(hn:n1=n2)(h:∀i,i<n1->(au 10 a).getD i 0=(au 10 b).getD i 0):(0:Int)=aQ (a:Int) (b:Int):=by
 subst hn
 have e:=wQ (j:=0) h1 h2 (λi _ hi=>h i hi)
 simp only[List.drop_zero]at e
 have:=qb2 (bU 10) e
 rw[cK 10 U,cK 10 U]at this
 rw[jy];omega
end
def eM (l:List UInt8)(w:World)(h:isInt l=true):
 CL 177 #[S l] w (aH w λv w'=>∃A n c,v=.tuple #[.bool (neg l),.slice A n c]/\Dg w' w.heap.size A n c (aG (body l))):=by
 have hl:=kS h;have Aq:=ez h;refine aD func177 Z (I ?_);have Ax:=dz (l:=l) (i:=0) U;refine aa (iu (l:=l) (i:=0) (c:=(l.getD 0 0)) U9 Z Z Ax ?_);refine I ?_;by_cases cw:(((l.getD 0 0).toNat:Nat):Int)=45;have hb:=AB (dz U) cw;have Ab:neg l=true:=hb.1;have hD:eo ((l).drop 1)=true:=by rw[<-hb.2];exact Aq
 have hlD:=kP hD;have hdD:=jO hD;have hvD:aG (body l)=aG ((l).drop 1):=by rw[hb.2]
 refine I ?_;refine aa (mx (l:=l) (i:=1) (j:=(l).length) U9 Z (.inr ⟨_,qb2 some Z⟩) (.inl ⟨rfl,rfl⟩) U U ?_);rw[show((l).take ((l).length)).drop 1=(l).drop 1 by rw[List.take_length]];refine I ?_;refine aa (dE (l:=(l).drop 1) U9 Z ?_);refine qk (I ?_);have Am:World.ownsRow w w.heap.size 3 1 (.slice none 0 0) 0 (ints (eJ (((l).drop 1).drop (((l).drop 1).length-0)))):=by rw[uA];exact bK
 have CY:=aa3 w;refine b7 [(5,6),(16,31)] (λAf e W=>∃k:Nat,∃G:Value,(((l).drop 1).length-k=Af)/\(e 6=.int .i64 (((((l).drop 1).length:Nat):Int)-1-(k:Int)))/\(e 5=G)/\(k<=((l).drop 1).length)/\((l).drop 1=[48]->k=0)/\(aO w W)/\(W.ownsRow w.heap.size 3 1 G k (ints (eJ (((l).drop 1).drop (((l).drop 1).length-k)))))) (((l).drop 1).length-0) ⟨0,.slice none 0 0,rfl,(qb2 (Value.int .i64) U),rfl,(qa7 _),(λ_=>rfl),CY,Am⟩ ?_;rintro _ _ _ ⟨k,G,rfl,D1,B1,hk,h4,O,ho⟩;have E1:=bz O;by_cases h48:(l).drop 1=[48];by_cases hlt:k<((l).drop 1).length;obtain⟨Ao,E,rfl,A0⟩:=qT ho (pC hD Fm);refine I ?_;refine aa (tu (a:=(l).drop 1) (b:=[48]) (q:=false) Z Z (by rw[decide_eq_true h48];rfl) ?_);refine I ?_;exact bA (t:=2) (u:=3) (v1:=.bool (decide ((((l.getD 0 0).toNat:Nat):Int)=45))) (v2:=.slice Ao k E) Z O ⟨Ao,k,E,by rw[Ab,decide_eq_true DP],by rw[hvD];exact A0⟩ Z Z;exfalso;have Az:=h4 h48;have Cr:((l).drop 1).length=1:=by rw[h48];rfl
 omega;by_cases hlt:k<((l).drop 1).length;have hlD1:=hlD.1;refine I ?_;refine aa (tu (a:=(l).drop 1) (b:=[48]) (q:=true) Z Z (by rw[decide_eq_false h48];rfl) ?_);refine I ?_;refine aa (aT (v:=G) B1 ?_);refine I ?_;have nm:=dz (l:=(l).drop 1) (i:=((l).drop 1).length-1-k) U;refine aa (iu (l:=(l).drop 1) (i:=((l).drop 1).length-1-k) (c:=(((l).drop 1).getD (((l).drop 1).length-1-k) 0)) U9 Z (dG Z U) nm ?_);refine aa (IY (k:=.u8) (a:=(((((l).drop 1).getD (((l).drop 1).length-1-k) 0).toNat:Nat):Int)) (b:=48) (c:=(((((l).drop 1).getD (((l).drop 1).length-1-k) 0).toNat-48:Nat):Int)) Z Z (by have:=yo hdD (i:=((l).drop 1).length-1-k) U;rw[wrap_u8 U];omega) ?_);refine aa (gg (k:=.u8) (k':=.i64) (a:=(((((l).drop 1).getD (((l).drop 1).length-1-k) 0).toNat-48:Nat):Int)) (c:=(((((l).drop 1).getD (((l).drop 1).length-1-k) 0).toNat-48:Nat):Int)) U5 U3 Z (by have:=yo hdD (i:=((l).drop 1).length-1-k) U;rw[wrap_i64 U]) ?_);refine BS (λ_ Ar _ CG=>?_);have ho:=ab Ar ho;have O:=xt O Ar;refine AP ho (aa7 CG) (λAv _ Ay C0 _=>?_);have O:=bu ho U U O C0;refine aa (aK (v:=Av) Z ?_);refine I ?_
 refine aa (jp (a:=((((l).drop 1).length:Nat):Int)-1-(k:Int)) (b:=1) (c:=((((l).drop 1).length:Nat):Int)-1-((k+1:Nat):Int)) Z Z L7 U ?_);refine I ?_;exact bF ⟨k+1,Av,rfl,rfl,rfl,U,(λh=>absurd h h48),O,(aP Ay Z (by rw[<-AC (dz U) U,mL];rfl))⟩;obtain⟨Ao,E,rfl,A0⟩:=qT ho (pC hD Fm);refine I ?_;exact bA (t:=2) (u:=3) (v1:=.bool (decide ((((l.getD 0 0).toNat:Nat):Int)=45))) (v2:=.slice Ao k E) Z O ⟨Ao,k,E,by rw[Ab,decide_eq_true DP],by rw[hvD];exact A0⟩ Z Z;have hb:=E3 (dz U) cw;have Ab:neg l=false:=hb.1;have hD:eo l=true:=by rw[<-hb.2];exact Aq
 have hlD:=kP hD;have hdD:=jO hD;have hvD:aG (body l)=aG (l):=by rw[hb.2]
 refine I ?_;refine aa (dE (l:=l) U9 Z ?_);refine qk (I ?_);have Am:World.ownsRow w w.heap.size 3 1 (.slice none 0 0) 0 (ints (eJ ((l).drop ((l).length-0)))):=by rw[uA];exact bK
 have CB:=aa3 w;refine b7 [(5,6),(16,31)] (λAf e W=>∃k:Nat,∃G:Value,((l).length-k=Af)/\(e 6=.int .i64 ((((l).length:Nat):Int)-1-(k:Int)))/\(e 5=G)/\(k<=(l).length)/\(l=[48]->k=0)/\(aO w W)/\(W.ownsRow w.heap.size 3 1 G k (ints (eJ ((l).drop ((l).length-k)))))) ((l).length-0) ⟨0,.slice none 0 0,rfl,(qb2 (Value.int .i64) U),rfl,(qa7 _),(λ_=>rfl),CB,Am⟩ ?_;rintro _ _ _ ⟨k,G,rfl,E0,B2,hk,h4,H,ho⟩;have D2:=bz H;by_cases h48:l=[48];by_cases hlt:k<(l).length;obtain⟨Ao,E,rfl,A0⟩:=qT ho (pC hD ka0);refine I ?_;refine aa (tu (a:=l) (b:=[48]) (q:=false) Z Z (by rw[decide_eq_true h48];rfl) ?_);refine I ?_;exact bA (t:=2) (u:=3) (v1:=.bool (decide ((((l.getD 0 0).toNat:Nat):Int)=45))) (v2:=.slice Ao k E) Z H ⟨Ao,k,E,by rw[Ab,decide_eq_false DP],by rw[hvD];exact A0⟩ Z Z;exfalso;have Az:=h4 h48;have Cr:(l).length=1:=by rw[h48];rfl
 omega;by_cases hlt:k<(l).length;have hlD1:=hlD.1;refine I ?_;refine aa (tu (a:=l) (b:=[48]) (q:=true) Z Z (by rw[decide_eq_false h48];rfl) ?_);refine I ?_;refine aa (aT (v:=G) B2 ?_);refine I ?_;have Aw:=dz (l:=l) (i:=(l).length-1-k) U;refine aa (iu (l:=l) (i:=(l).length-1-k) (c:=(l.getD ((l).length-1-k) 0)) U9 Z (dG Z U) Aw ?_);refine aa (IY (k:=.u8) (a:=(((l.getD ((l).length-1-k) 0).toNat:Nat):Int)) (b:=48) (c:=((((l).getD ((l).length-1-k) 0).toNat-48:Nat):Int)) Z Z (by have:=yo hdD (i:=(l).length-1-k) U;rw[wrap_u8 U];omega) ?_);refine aa (gg (k:=.u8) (k':=.i64) (a:=((((l).getD ((l).length-1-k) 0).toNat-48:Nat):Int)) (c:=((((l).getD ((l).length-1-k) 0).toNat-48:Nat):Int)) U5 U3 Z (by have:=yo hdD (i:=(l).length-1-k) U;rw[wrap_i64 U]) ?_);refine BS (λ_ Ap _ ny=>?_);have ho:=ab Ap ho;have H:=xt H Ap;refine AP ho (aa7 ny) (λAs _ od B0 _=>?_);have H:=bu ho U U H B0;refine aa (aK (v:=As) Z ?_);refine I ?_;refine aa (jp (a:=(((l).length:Nat):Int)-1-(k:Int)) (b:=1) (c:=(((l).length:Nat):Int)-1-((k+1:Nat):Int)) Z Z L7 U ?_);refine I ?_
 exact bF ⟨k+1,As,rfl,rfl,rfl,U,(λh=>absurd h h48),H,(aP od Z (by rw[<-AC (dz U) U,mL];rfl))⟩;obtain⟨Ao,E,rfl,A0⟩:=qT ho (pC hD ka0);refine I ?_;exact bA (t:=2) (u:=3) (v1:=.bool (decide ((((l.getD 0 0).toNat:Nat):Int)=45))) (v2:=.slice Ao k E) Z H ⟨Ao,k,E,by rw[Ab,decide_eq_false DP],by rw[hvD];exact A0⟩ Z Z
def kT (h1:Dg w lo1 A1 n1 c1 a)(s1:n1<=100000)(ng:Bool):
 CL 140 #[.bool ng,.slice A1 n1 c1] w (aH w λv w'=>v=.tuple #[S (sj ng a),.bool (wi a)]):=by
 have e1:=h1.len;refine aD func140 Z (I ?_);by_cases ly:(n1:Int)=0;have A0:a=0:=jw (B:=10) U (h1.len.trans U);refine I ?_;exact bA (t:=4) (u:=5) (v1:=S [48]) (v2:=.bool true) Z (aa3 _) (JO A0) Z Z;have A0:0<a:=mO (B:=10) U kc2;have O:World.ownsRow w w.heap.size 5 1 (.slice none 0 0) 0 (Xm []):=bK;refine I ?_;rcases qa4 ng with cr|cr;refine I ?_;refine BS (λ_ Ap _ C0=>?_);have O:=ab Ap O;have Aq:=Ap;have E9:=bz Ap;refine AP O (aa7 C0) (λAw _ E7 nm _=>?_);have Aq:=bu O U U Aq nm;refine aa (aK (v:=Aw) Z ?_);refine I ?_;refine qk (I ?_);refine b7 [(6,7),(18,30)] (λAb e W=>∃k:Nat,∃E:Value,(n1-k=Ab)/\(e 7=.int .i64 ((n1:Int)-1-(k:Int)))/\(e 6=E)/\(k<=n1)/\(aO w W)/\(W.ownsRow w.heap.size 5 1 E (k+1) (Xm ([45]++cR ((au 10 a).drop (n1-k)))))) (n1-0) ⟨0,Aw,rfl,(qb2 (Value.int .i64) U),rfl,(qa7 _),Aq,(aP E7 Rg (by rw[Nat.sub_zero,List.drop_eq_nil_of_le U];rfl))⟩ ?_;rintro _ _ _ ⟨k,E,rfl,G0,E1,hk,H,ho⟩;have FR:=bz H;by_cases hlt:k<n1;have CB:=jF h1.lt (n1-1-k);refine I ?_;refine aa (aT (v:=E) E1 ?_)
 refine I ?_;obtain⟨CG,Az,E4,D2⟩:=((h1.row).ext H).cells (n1-1-k) _ (bE (xs:=(au 10 a)) U);refine aa (aB (i:=n1-1-k) (oo:=Az+(n1-1-k)) kB iy Z E4 (dG Z U) U Th ?_);refine aa (bC (v:=.int .i64 (((au 10 a).getD (n1-1-k) 0:Nat):Int)) (b:=CG) (o:=Az+(n1-1-k)) U3 Z Z D2 ?_);refine fO ?_;refine aa (gg (k:=.i64) (k':=.u8) (a:=48+((((au 10 a).getD (n1-1-k) 0):Nat):Int)) (c:=(((UInt8.ofNat (48+((au 10 a).getD (n1-1-k) 0))).toNat:Nat):Int)) U3 U5 Z kb9 ?_);refine BS (λ_ Ar _ wr=>?_);have ho:=ab Ar ho;have H:=xt H Ar;refine AP ho (aa7 wr) (λAs _ CY B1 _=>?_);have H:=bu ho U U H B1;refine aa (aK (v:=As) Z ?_);refine I ?_;refine aa (jp (a:=(n1:Int)-1-(k:Int)) (b:=1) (c:=(n1:Int)-1-((k+1:Nat):Int)) Z Z L7 U ?_);refine I ?_;exact bF ⟨k+1,As,rfl,rfl,rfl,U,H,(aP CY U (by rw[uB h1.len U];simp[Xm]))⟩;obtain⟨Ao,Af,rfl,E5,-⟩:=e8 ho;have Am:([45]++cR ((au 10 a).drop (n1-k)))=(if true=true then[45]else[])++cR (au 10 a):=by rw[show n1-k=0 by omega,List.drop_zero];rfl
 refine I ?_;refine aa (Q5 (l:=[45]++cR ((au 10 a).drop (n1-k))) (A:=Ao) (m:=(k+1)) (c:=Af) VO U5 U9 Z (aa7 ho) (by simp[cN];rw[h1.len];omega) ?_);refine I ?_;exact bA (t:=4) (u:=5) (v1:=S ([45]++cR ((au 10 a).drop (n1-k)))) (v2:=.bool (decide ((n1:Int)<=200))) Z H (E8 (ng:=ng) A0 h1.len (by rw[cr];exact Am)) Z Z;refine I ?_;refine qk (I ?_);have E0:=aa3 w;refine b7 [(6,7),(18,30)] (λAb e W=>∃k:Nat,∃E:Value,(n1-k=Ab)/\(e 7=.int .i64 ((n1:Int)-1-(k:Int)))/\(e 6=E)/\(k<=n1)/\(aO w W)/\(W.ownsRow w.heap.size 5 1 E (k+0) (Xm (cR ((au 10 a).drop (n1-k)))))) (n1-0) ⟨0,.slice none 0 0,rfl,(qb2 (Value.int .i64) U),rfl,(qa7 _),E0,(aP O Rg (by rw[Nat.sub_zero,List.drop_eq_nil_of_le U];rfl))⟩ ?_;rintro _ _ _ ⟨k,E,rfl,ES,ny,hk,G,ho⟩;have EW:=bz G;by_cases hlt:k<n1;have CB:=jF h1.lt (n1-1-k);refine I ?_;refine aa (aT (v:=E) ny ?_);refine I ?_;obtain⟨od,Ax,E6,Cr⟩:=((h1.row).ext G).cells (n1-1-k) _ (bE (xs:=(au 10 a)) U);refine aa (aB (i:=n1-1-k) (oo:=Ax+(n1-1-k)) kB iy Z E6 (dG Z U) U Th ?_);refine aa (bC (v:=.int .i64 (((au 10 a).getD (n1-1-k) 0:Nat):Int)) (b:=od) (o:=Ax+(n1-1-k)) U3 Z Z Cr ?_);refine fO ?_
 refine aa (gg (k:=.i64) (k':=.u8) (a:=48+((((au 10 a).getD (n1-1-k) 0):Nat):Int)) (c:=(((UInt8.ofNat (48+((au 10 a).getD (n1-1-k) 0))).toNat:Nat):Int)) U3 U5 Z kb9 ?_);refine BS (λ_ Ay _ B0=>?_);have ho:=ab Ay ho;have G:=xt G Ay;refine AP ho (aa7 B0) (λAv _ B2 D1 _=>?_);have G:=bu ho U U G D1;refine aa (aK (v:=Av) Z ?_);refine I ?_;refine aa (jp (a:=(n1:Int)-1-(k:Int)) (b:=1) (c:=(n1:Int)-1-((k+1:Nat):Int)) Z Z L7 U ?_);refine I ?_;exact bF ⟨k+1,Av,rfl,rfl,rfl,U,G,(aP B2 U (by rw[uB h1.len U];simp[Xm]))⟩;obtain⟨Ao,Af,rfl,E5,-⟩:=e8 ho;have Am:(cR ((au 10 a).drop (n1-k)))=(if false=true then[45]else[])++cR (au 10 a):=by rw[show n1-k=0 by omega,List.drop_zero];rfl
 refine I ?_;refine aa (Q5 (l:=cR ((au 10 a).drop (n1-k))) (A:=Ao) (m:=(k+0)) (c:=Af) VO U5 U9 Z (aa7 ho) (by simp[cN];rw[h1.len];omega) ?_);refine I ?_;exact bA (t:=4) (u:=5) (v1:=S (cR ((au 10 a).drop (n1-k)))) (v2:=.bool (decide ((n1:Int)<=200))) Z G (E8 (ng:=ng) A0 h1.len (by rw[cr];exact Am)) Z Z
theorem qU {c lo:Nat}(hr:Rw w lo A (ints xs))(hn:xs.length=n)(hc:n<=c)(hb:n<=1000000):
 CL 217 #[.slice A n c] w (aH w λv w'=>∃m,v=.slice A m c/\dK xs=xs.take m/\m<=n):=by
 refine aD func217 rfl ?_;refine I ?_;have Af:=aa3 w;refine b7 [(0,0),(3,19)] (λA0 e W=>∃m:Nat,(m=A0)/\(e 0=.slice A m c)/\(m<=n)/\(dK xs=dK (xs.take m))/\(aO w W)) ((n)) ⟨n,rfl,rfl,(qa0 _),(by rw[List.take_of_length_le U]),Af⟩ ?_;rintro _ _ _ ⟨m,rfl,Ar,q1,q2,E⟩;by_cases hm:0<m;by_cases hz:xs.getD (m-1) 0=0;refine I ?_;refine qk ?_;refine I ?_;obtain⟨Ab,G,Am,O⟩:=((hr).ext E).cells (m-1) _ (bE (xs:=xs) U);refine aa (aB (i:=m-1) (oo:=G+(m-1)) kB iy rfl Am (dG rfl U) U (by rw[Nat.mul_one]) ?_);refine I ?_;refine aa (bC (v:=.int .i64 (((xs.getD (m-1) 0:Nat):Int))) (b:=Ab) (o:=G+(m-1)) U3 rfl rfl O ?_);refine I ?_;refine qk ?_;refine aa (rr (j:=m-1) kB iy rfl (dG rfl U) U ?_);refine I ?_;exact bF ⟨m-1,rfl,rfl,U,(q2.trans (wC (n:=n) U hz)),E⟩;refine I ?_;refine qk ?_;refine I ?_;obtain⟨Ap,H,Ao,Aq⟩:=((hr).ext E).cells (m-1) _ (bE (xs:=xs) U);refine aa (aB (i:=m-1) (oo:=H+(m-1)) kB iy rfl Ao (dG rfl U) U (by rw[Nat.mul_one]) ?_);refine I ?_;refine aa (bC (v:=.int .i64 (((xs.getD (m-1) 0:Nat):Int))) (b:=Ap) (o:=H+(m-1)) U3 rfl rfl Aq ?_);refine I ?_
 exact am (t:=2) (v:=.slice A m c) rfl E ⟨m,rfl,q2.trans (nd (n:=n) U (by first|exact Or.inl U|exact Or.inr ⟨by omega,by omega⟩)),by omega⟩ rfl;refine I ?_;exact am (t:=2) (v:=.slice A m c) rfl E ⟨m,rfl,q2.trans (nd (n:=n) U (by first|exact Or.inl U|exact Or.inr ⟨by omega,by omega⟩)),by omega⟩ rfl
def jS (h1:Dg w lo1 A1 n1 c1 a)(s1:n1<=100000)(h2:Dg w lo2 A2 n2 c2 b)(s2:n2<=100000):
 CL 178 #[.slice A1 n1 c1,.slice A2 n2 c2] w (aH w λv w'=>v=.int .i64 (aQ (a:Int) (b:Int))):=by
 have e1:=h1.len;have e2:=h2.len;refine aD func178 Z (I ?_);by_cases p6:(n1:Int)=(n2:Int);have H3:n1=n2:=J
 refine I ?_;refine qk (I ?_);have E1:=aa3 w;refine b7 [(4,5),(19,40)] (λCr e W=>∃k:Nat,(n1-k=Cr)/\(e 5=.int .i64 ((n1:Int)-1-(k:Int)))/\(k<=n1)/\(∀i,n1-k<=i->i<n1->(au 10 a).getD i 0=(au 10 b).getD i 0)/\(aO w W)) (n1-0) ⟨0,rfl,(qb2 (Value.int .i64) U),(qa7 _),(λi h1 h2=>by omega),E1⟩ ?_;rintro _ _ _ ⟨k,rfl,H2,q1,q2,E⟩;by_cases hlt:k<n1;by_cases he:(au 10 a).getD (n1-1-k) 0=(au 10 b).getD (n1-1-k) 0;have B2:n1-1-k<n1:=J
 obtain⟨D1,B0,CB,Aq⟩:=((h1.row).ext E).cells (n1-1-k) _ (bE (xs:=(au 10 a)) U);obtain⟨EW,Aw,FR,Ar⟩:=((h2.row).ext E).cells (n1-1-k) _ (bE (xs:=(au 10 b)) U);refine I ?_;refine bQ 8 ?_;refine sf ?_;refine aA (λ_ _ _ _=>by refine aa (aB (i:=n1-1-k) (oo:=B0+(n1-1-k)) kB iy Z CB (dG Z U) U Th ?_);refine I ?_;exact aE) ?_;refine aA (λ_ _ E7 _=>by have Aq:=Cf.ext E7 Aq;refine aa (bC (v:=.int .i64 (((au 10 a).getD (n1-1-k) 0:Nat):Int)) (b:=D1) (o:=B0+(n1-1-k)) U3 Z Z Aq ?_);refine I ?_;exact aE) ?_;refine sf ?_;refine aA (λ_ _ _ _=>by refine aa (aB (i:=n1-1-k) (oo:=Aw+(n1-1-k)) kB iy Z FR (dG Z U) U Th ?_);refine I ?_;exact aE) ?_;refine aA (λ_ _ GC _=>by have Ar:=Cf.ext GC Ar;refine aa (bC (v:=.int .i64 (((au 10 b).getD (n1-1-k) 0:Nat):Int)) (b:=EW) (o:=Aw+(n1-1-k)) U3 Z Z Ar ?_);refine I ?_;exact aE) ?_;refine sf ?_;intro _ _ E5 _;have E:=xt E E5.2;refine I ?_;refine aa (jp (a:=(n1:Int)-1-(k:Int)) (b:=1) (c:=(n1:Int)-1-((k+1:Nat):Int)) Z Z L7 U ?_);refine I ?_;exact bF ⟨k+1,rfl,rfl,U,(λi hi h=>by by_cases hik:i=n1-1-k;subst hik;omega;exact q2 i U h),E⟩
 by_cases hl:(au 10 a).getD (n1-1-k) 0<(au 10 b).getD (n1-1-k) 0;have B2:n1-1-k<n1:=J
 obtain⟨Ax,Af,C0,O⟩:=((h1.row).ext E).cells (n1-1-k) _ (bE (xs:=(au 10 a)) U);obtain⟨Av,Ao,Az,H⟩:=((h2.row).ext E).cells (n1-1-k) _ (bE (xs:=(au 10 b)) U);refine I ?_;refine bQ 8 ?_;refine sf ?_;refine aA (λ_ _ _ _=>by refine aa (aB (i:=n1-1-k) (oo:=Af+(n1-1-k)) kB iy Z C0 (dG Z U) U Th ?_);refine I ?_;exact aE) ?_;refine aA (λ_ _ E6 _=>by have O:=Cf.ext E6 O;refine aa (bC (v:=.int .i64 (((au 10 a).getD (n1-1-k) 0:Nat):Int)) (b:=Ax) (o:=Af+(n1-1-k)) U3 Z Z O ?_);refine I ?_;exact aE) ?_;refine sf ?_;refine aA (λ_ _ _ _=>by refine aa (aB (i:=n1-1-k) (oo:=Ao+(n1-1-k)) kB iy Z Az (dG Z U) U Th ?_);refine I ?_;exact aE) ?_;refine aA (λ_ _ ES _=>by have H:=Cf.ext ES H;refine aa (bC (v:=.int .i64 (((au 10 b).getD (n1-1-k) 0:Nat):Int)) (b:=Av) (o:=Ao+(n1-1-k)) U3 Z Z H ?_);refine I ?_;exact aE) ?_;refine sf ?_;intro _ _ Ap _;have O:=Cf.ext Ap.2 O;have H:=Cf.ext Ap.2 H;have E:=xt E Ap.2;refine I ?_;refine bQ 8 ?_;refine sf ?_;refine aA (λ_ _ _ _=>by refine aa (aB (i:=n1-1-k) (oo:=Af+(n1-1-k)) kB iy Z C0 (dG Z U) U Th ?_);refine I ?_;exact aE) ?_
 refine aA (λ_ _ CY _=>by have O:=Cf.ext CY O;refine aa (bC (v:=.int .i64 (((au 10 a).getD (n1-1-k) 0:Nat):Int)) (b:=Ax) (o:=Af+(n1-1-k)) U3 Z Z O ?_);refine I ?_;exact aE) ?_;refine sf ?_;refine aA (λ_ _ _ _=>by refine aa (aB (i:=n1-1-k) (oo:=Ao+(n1-1-k)) kB iy Z Az (dG Z U) U Th ?_);refine I ?_;exact aE) ?_;refine aA (λ_ _ CG _=>by have H:=Cf.ext CG H;refine aa (bC (v:=.int .i64 (((au 10 b).getD (n1-1-k) 0:Nat):Int)) (b:=Av) (o:=Ao+(n1-1-k)) U3 Z Z H ?_);refine I ?_;exact aE) ?_;refine sf ?_;intro _ _ ny _;have E:=xt E ny.2;refine I ?_;exact am (t:=4) (v:=.int .i64 (-1)) Z E (qb2 (Value.int .i64) RC) Z;have B2:n1-1-k<n1:=J
 obtain⟨B1,Ab,Ay,G⟩:=((h1.row).ext E).cells (n1-1-k) _ (bE (xs:=(au 10 a)) U);obtain⟨nm,Am,As,A0⟩:=((h2.row).ext E).cells (n1-1-k) _ (bE (xs:=(au 10 b)) U);refine I ?_;refine bQ 8 ?_;refine sf ?_;refine aA (λ_ _ _ _=>by refine aa (aB (i:=n1-1-k) (oo:=Ab+(n1-1-k)) kB iy Z Ay (dG Z U) U Th ?_);refine I ?_;exact aE) ?_;refine aA (λ_ _ E4 _=>by have G:=Cf.ext E4 G;refine aa (bC (v:=.int .i64 (((au 10 a).getD (n1-1-k) 0:Nat):Int)) (b:=B1) (o:=Ab+(n1-1-k)) U3 Z Z G ?_);refine I ?_;exact aE) ?_;refine sf ?_;refine aA (λ_ _ _ _=>by refine aa (aB (i:=n1-1-k) (oo:=Am+(n1-1-k)) kB iy Z As (dG Z U) U Th ?_);refine I ?_;exact aE) ?_;refine aA (λ_ _ G0 _=>by have A0:=Cf.ext G0 A0;refine aa (bC (v:=.int .i64 (((au 10 b).getD (n1-1-k) 0:Nat):Int)) (b:=nm) (o:=Am+(n1-1-k)) U3 Z Z A0 ?_);refine I ?_;exact aE) ?_;refine sf ?_;intro _ _ od _;have G:=Cf.ext od.2 G;have A0:=Cf.ext od.2 A0;have E:=xt E od.2;refine I ?_;refine bQ 8 ?_;refine sf ?_;refine aA (λ_ _ _ _=>by refine aa (aB (i:=n1-1-k) (oo:=Ab+(n1-1-k)) kB iy Z Ay (dG Z U) U Th ?_);refine I ?_;exact aE) ?_
 refine aA (λ_ _ D2 _=>by have G:=Cf.ext D2 G;refine aa (bC (v:=.int .i64 (((au 10 a).getD (n1-1-k) 0:Nat):Int)) (b:=B1) (o:=Ab+(n1-1-k)) U3 Z Z G ?_);refine I ?_;exact aE) ?_;refine sf ?_;refine aA (λ_ _ _ _=>by refine aa (aB (i:=n1-1-k) (oo:=Am+(n1-1-k)) kB iy Z As (dG Z U) U Th ?_);refine I ?_;exact aE) ?_;refine aA (λ_ _ E0 _=>by have A0:=Cf.ext E0 A0;refine aa (bC (v:=.int .i64 (((au 10 b).getD (n1-1-k) 0:Nat):Int)) (b:=nm) (o:=Am+(n1-1-k)) U3 Z Z A0 ?_);refine I ?_;exact aE) ?_;refine sf ?_;intro _ _ E9 _;have E:=xt E E9.2;refine I ?_;exact am (t:=4) (v:=.int .i64 1) Z E (qb2 (Value.int .i64) RC) Z;refine I ?_;exact am (t:=4) (v:=.int .i64 0) Z E (qb2 (Value.int .i64) RC) Z;refine I ?_;by_cases apl:(n1:Int)<(n2:Int);refine I ?_
 exact am (t:=4) (v:=.int .i64 (-1)) Z (aa3 _) (qb2 (Value.int .i64) RC) Z;refine I ?_;exact am (t:=4) (v:=.int .i64 1) Z (aa3 _) (qb2 (Value.int .i64) RC) Z
end Go.Proofs.YtlmihmlnpjkblaaGreatDoor
def c6 {xs:List Nat}{i:Nat}(h:xs.length<=i):xs.getD i 0=0:=by simp[List.getD,List.getElem?_eq_none h]
def fh (B:Nat)(xs:List Nat)(k:Nat):bU B (xs.take (k+1))=bU B (xs.take k)+B^k*xs.getD k 0:=by
 rcases Nat.lt_or_ge k xs.length with h|h
 · rw[List.take_succ_eq_append_getElem h,cu,List.length_take,Nat.min_eq_left J]
   simp[bU,List.getD,h]
 · rw[List.take_of_length_le J,List.take_of_length_le h,c6 h];simp
def gM (X Y:List Nat):Nat->Nat×List Nat
 |0=>(0,[])
 |k+1=>(((gM X Y k).1+X.getD k 0+Y.getD k 0)/10,(gM X Y k).2++[((gM X Y k).1+X.getD k 0+Y.getD k 0)%10])
def yp (X Y:List Nat):∀k,(gM X Y k).2.length=k
 |0=>rfl
 |k+1=>by simp[gM,yp X Y k]
def JQ (X Y:List Nat):∀k,∀d∈(gM X Y k).2,d<10
 |0=>by simp[gM]
 | k+1=>by
   intro d hd
   rcases List.mem_append.1 hd with h|h
   · exact JQ X Y k d h
   · rw[List.mem_singleton.1 h];exact Nat.mod_lt _ J
def dA {X Y:List Nat}(hX:∀i,X.getD i 0<10)(hY:∀i,Y.getD i 0<10):∀k,(gM X Y k).1<=1
 |0=>by simp[gM]
 |k+1=>by have:=dA hX hY k;have:=hX k;have:=hY k;simp only[gM];omega
def yq (X Y:List Nat):∀k,bU 10 (gM X Y k).2+10^k*(gM X Y k).1=bU 10 (X.take k)+bU 10 (Y.take k)
 |0=>by simp[gM,bU]
 | k+1=>by
   have ih:=yq X Y k
   simp only[gM]
   rw[cu,yp,fh,fh,Nat.pow_succ]
   have E:=Nat.div_add_mod ((gM X Y k).1+X.getD k 0+Y.getD k 0) 10
   simp only[bU]
   generalize ((gM X Y k).1+X.getD k 0+Y.getD k 0)/10=u at *
   generalize ((gM X Y k).1+X.getD k 0+Y.getD k 0)%10=v at *
   generalize X.getD k 0=x at *
   generalize Y.getD k 0=y at *
   generalize (gM X Y k).1=c at *
   grind
def kh {X Y:List Nat}{k:Nat}(hX:X.length<=k)(hY:Y.length<=k)(h:(gM X Y k).1<=1):(gM X Y (k+1)).1=0:=by
 simp only[gM,c6 hX,c6 hY];omega
def uG {a k:Nat}(h:k<(au 10 a).length):10^k<=a:=by
 rcases Nat.lt_or_ge a (10^k)with h1|h1
 · have:=(bf 10 J a k).2 h1;omega
 · exact h1
def OH {a b n1 n2 k:Nat}(h1:(au 10 a).length=n1)(h2:(au 10 b).length=n2)(hk1:n1<=k)(hk2:n2<=k)(hc:(gM (au 10 a) (au 10 b) k).1=0)(hm:k<=max n1 n2\/k=max n1 n2+1/\0<(gM (au 10 a) (au 10 b) (max n1 n2)).1):(gM (au 10 a) (au 10 b) k).2=au 10 (a+b):=by
 have hv:=yq (au 10 a) (au 10 b) k
 rw[hc,Nat.mul_zero,Nat.add_zero,List.take_of_length_le J,List.take_of_length_le J,cK 10 J,cK 10 J]at hv
 have G:=yp (au 10 a) (au 10 b) k
 have hlt:=JQ (au 10 a) (au 10 b) k
 have Ab:0<k->10^(k-1)<=a+b:=by
  intro O
  rcases hm with hm|⟨hm,hp⟩
  · have:n1=k\/n2=k:=J
    rcases this with h|h
    · have:=uG (a:=a) (k:=k-1) J;omega
    · have:=uG (a:=b) (k:=k-1) J;omega
  · have A0:=yq (au 10 a) (au 10 b) (max n1 n2)
    rw[List.take_of_length_le J,List.take_of_length_le J,cK 10 J,cK 10 J]at A0
    have:10^max n1 n2*1<=10^max n1 n2*(gM (au 10 a) (au 10 b) (max n1 n2)).1:=Nat.mul_le_mul_left _ hp
    rw[hm,Nat.add_sub_cancel]
    omega
 generalize (gM (au 10 a) (au 10 b) k).2=l at *
 rw[<-hv]
 refine mG J ⟨hlt,?_⟩
 intro E
 have O:0<k:=by
  rcases Nat.eq_zero_or_pos k with h|h
  · subst h;rw[List.length_eq_zero_iff.1 G]at E;simp at E
  · exact h
 obtain⟨l',rfl⟩:∃l',l=l'++[0]:=by
  have H:l≠[]:=by intro e;subst e;simp at E
  refine⟨l.dropLast,?_⟩
  have W:=List.dropLast_concat_getLast H
  rw[List.getLast?_eq_some_getLast H]at E
  rw[Option.some.inj E]at W
  exact W.symm
 have h3:=ln 10 l' (λd hd=>hlt d (List.mem_append_left _ hd))
 rw[cu]at hv
 simp only[bU,Nat.mul_zero,Nat.add_zero]at hv
 simp at G
 have:=Ab O
 rw[show k-1=l'.length by omega]at this
 omega
def jc (X Y:List Nat):Nat->Nat×List Nat
 |0=>(0,[])
 |k+1=>if X.getD k 0<(jc X Y k).1+Y.getD k 0 then(1,(jc X Y k).2++[X.getD k 0+10-(jc X Y k).1-Y.getD k 0])else(0,(jc X Y k).2++[X.getD k 0-(jc X Y k).1-Y.getD k 0])
def nl (X Y:List Nat):∀k,(jc X Y k).2.length=k
 |0=>rfl
 |k+1=>by simp only[jc];split <;>simp[nl X Y k]
def gN (X Y:List Nat):∀k,(jc X Y k).1<=1
 |0=>by simp[jc]
 |k+1=>by simp only[jc];split <;>simp
def Dc {X Y:List Nat}(hX:∀i,X.getD i 0<10)(hY:∀i,Y.getD i 0<10):∀k,∀d∈(jc X Y k).2,d<10
 |0=>by simp[jc]
 | k +1=>by
   have hb:=gN X Y k
   have hx:=hX k
   have hy:=hY k
   intro d hd
   simp only[jc]at hd
   split at hd
   all_goals
    rcases List.mem_append.1 hd with h|h
    · exact Dc hX hY k d h
    · rw[List.mem_singleton.1 h];omega
def Fb {X Y:List Nat}(hY:∀i,Y.getD i 0<10):∀k,bU 10 (jc X Y k).2+bU 10 (Y.take k)=bU 10 (X.take k)+10^k*(jc X Y k).1
 |0=>by simp[jc,bU]
 | k +1=>by
   have ih:=Fb (X:=X) hY k
   have hb:=gN X Y k
   have hy:=hY k
   rw[fh,fh,Nat.pow_succ]
   simp only[jc]
   split
   · next h=>
     rw[cu,nl]
     simp only[bU]
     obtain⟨t,ht⟩:∃t,X.getD k 0+10-(jc X Y k).1-Y.getD k 0=t:=⟨_,rfl⟩
     have hs:t+(jc X Y k).1+Y.getD k 0=X.getD k 0+10:=J
     rw[ht]
     generalize X.getD k 0=x at *
     generalize Y.getD k 0=y at *
     generalize (jc X Y k).1=c at *
     grind
   · next h=>
     rw[cu,nl]
     simp only[bU]
     obtain⟨t,ht⟩:∃t,X.getD k 0-(jc X Y k).1-Y.getD k 0=t:=⟨_,rfl⟩
     have hs:t+(jc X Y k).1+Y.getD k 0=X.getD k 0:=J
     rw[ht]
     generalize X.getD k 0=x at *
     generalize Y.getD k 0=y at *
     generalize (jc X Y k).1=c at *
     grind
def OI {a b n1 n2:Nat}(h1:(au 10 a).length=n1)(h2:(au 10 b).length=n2)(hle:b<=a):bU 10 (jc (au 10 a) (au 10 b) n1).2=a-b:=by
 have E:∀(c i:Nat),(au 10 c).getD i 0<10:=by
  intro c i
  rcases Nat.lt_or_ge i (au 10 c).length with hi|hi
  · have G:(au 10 c)[i]? =some (au 10 c)[i]:=qa5 hi
    rw[List.getD,G];exact eO 10 J c _ (List.getElem_mem hi)
  · rw[c6 hi];omega
 have hv:=Fb (X:=au 10 a) (E b) n1
 have H:n2<=n1:=by rw[<-h1,<-h2];exact ey J hle
 rw[List.take_of_length_le J,List.take_of_length_le J,cK 10 J,cK 10 J]at hv
 have hlt:=ln 10 _ (Dc (E a) (E b) n1)
 rw[nl]at hlt
 have hb:=gN (au 10 a) (au 10 b) n1
 generalize (jc (au 10 a) (au 10 b) n1).1=c at *
 rcases Nat.eq_zero_or_pos c with hc|hc
 · subst hc;omega
 · obtain rfl:c=1:=J
   omega
def Fc (B:Nat):∀(l:List Nat) (j v:Nat),j<l.length->bU B (l.set j v)+B^j*l.getD j 0=bU B l+B^j*v
 |x::l,0,v,_=>by simp[bU];omega
 | x::l,j+1,v,h=>by
   have ih:=Fc B l j v kb5
   simp only[List.set_cons_succ,bU,List.getD_cons_succ,Nat.pow_succ]
   generalize l.getD j 0=y at *
   generalize bU B (l.set j v)=p at *
   generalize bU B l=q at *
   generalize B^j=t at *
   grind
structure H7 (X Y:List Nat)(i n:Nat)(k c:Nat)(l:List Nat):Prop where
 len:l.length=n
 lt:∀d∈l,d<10
 c9:c<=9
 val:bU 10 l+10^(i+k)*c=(bU 10 (X.take i)*bU 10 Y)+10^i*(X.getD i 0*bU 10 (Y.take k))
def T1 {l:List Nat}{j v:Nat}(h:∀d∈l,d<10)(hv:v<10):∀d∈l.set j v,d<10:=by
 intro d hd
 rcases List.mem_or_eq_of_mem_set hd with h1|h1
 · exact h d h1
 · rw[h1];exact hv
def jT {xs:List Nat}(h:∀x∈xs,x<10)(i:Nat):xs.getD i 0<10:=by
 rcases Nat.lt_or_ge i xs.length with hi|hi
 · have E:xs[i]? =some xs[i]:=qa5 hi
   rw[List.getD,E];exact h _ (List.getElem_mem hi)
 · rw[c6 hi];omega
def H7.step {X Y l:List Nat}{i n k c:Nat}(hX:∀x∈X,x<10)(hY:∀x∈Y,x<10)(h:H7 X Y i n k c l)(hj:i+k<n):
 H7 X Y i n (k+1) ((l.getD (i+k) 0+c+X.getD i 0*Y.getD k 0)/10) (l.set (i+k) ((l.getD (i+k) 0+c+X.getD i 0*Y.getD k 0)%10)):=by
 have h1:=jT h.lt (i+k)
 have h2:=jT hX i
 have h3:=jT hY k
 have h4:X.getD i 0*Y.getD k 0<=9*9:=qb9 J J
 have hc:=h.c9
 refine⟨by rw[List.length_set];exact h.len,T1 h.lt (Nat.mod_lt _ J),by omega,?_⟩
 have hs:=Fc 10 l (i+k) ((l.getD (i+k) 0+c+X.getD i 0*Y.getD k 0)%10) (by rw[h.len];exact hj)
 have hv:=h.val
 have E:=Nat.div_add_mod (l.getD (i+k) 0+c+X.getD i 0*Y.getD k 0) 10
 rw[fh,show i+(k+1)=(i+k)+1 by omega,Nat.pow_succ]
 have G:(10:Nat)^(i+k)=10^i*10^k:=Nat.pow_add ..
 generalize (l.getD (i+k) 0+c+X.getD i 0*Y.getD k 0)/10=u at *
 generalize (l.getD (i+k) 0+c+X.getD i 0*Y.getD k 0)%10=v at *
 generalize bU 10 (l.set (i+k) v)=p at *
 generalize l.getD (i+k) 0=z at *
 generalize X.getD i 0=x at *
 generalize Y.getD k 0=y at *
 generalize bU 10 (Y.take k)=yk at *
 generalize bU 10 (X.take i)*bU 10 Y=W at *
 generalize (10:Nat)^(i+k)=t at *
 generalize (10:Nat)^i=ti at *
 generalize (10:Nat)^k=tk at *
 grind
def H7.done {X Y l:List Nat}{i n n2 k:Nat}(hn2:Y.length=n2)(h:H7 X Y i n k 0 l)(hk:n2<=k):H7 X Y (i+1) n 0 0 l:=by
 refine⟨h.len,h.lt,by omega,?_⟩
 have hv:=h.val
 rw[List.take_of_length_le (l:=Y) J]at hv
 rw[fh]
 simp only[Nat.mul_zero,Nat.add_zero,List.take_zero,bU]at hv ⊢
 rw[hv]
 generalize bU 10 (X.take i)=p
 generalize bU 10 Y=q
 generalize X.getD i 0=x
 generalize (10:Nat)^i=t
 grind
def H7.start (X Y:List Nat)(n:Nat):H7 X Y 0 n 0 0 (List.replicate n 0):=by
 refine⟨by simp,λd hd=>by rw[(List.mem_replicate.1 hd).2];omega,by omega,?_⟩
 have:∀m,bU 10 (List.replicate m 0)=0:=by
  intro m;induction m with
  |zero=>rfl
  |succ m ih=>simp[List.replicate_succ,bU,ih]
 simp[this,bU]
def H7.fin {X Y l:List Nat}{n n1:Nat}(hn1:X.length=n1)(h:H7 X Y n1 n 0 0 l):bU 10 l=bU 10 X*bU 10 Y:=by
 have hv:=h.val
 rw[List.take_of_length_le (l:=X) J]at hv
 simp only[Nat.mul_zero,Nat.add_zero,List.take_zero,bU]at hv
 exact hv
def H7.rem {X Y l:List Nat}{i n n2 k c:Nat}(hn2:Y.length=n2)(hX:∀x∈X,x<10)(hY:∀x∈Y,x<10)(h:H7 X Y i n k c l)(hk:n2<=k):(l.getD (i+k) 0+c+X.getD i 0*Y.getD k 0)=l.getD (i+k) 0+c:=by
 rw[c6 (xs:=Y) J];simp
structure Nl (X:List Nat)(b:Nat)(i r:Nat)(T:List Nat):Prop where
 len:T.length+i=X.length
 lt:∀d∈T,d<10
 val:bU 10 T*b+r=bU 10 (X.drop i)
 rlt:r<b
def Nl.start {X:List Nat}{b:Nat}(hb:0<b):Nl X b X.length 0 []:=⟨by simp,by simp,by simp[bU],hb⟩
def Nl.step {X T:List Nat}{b i r c r2:Nat}(hX:∀x∈X,x<10)(h:Nl X b (i+1) r T)(hc:c*b+r2=r*10+X.getD i 0)(hr:r2<b):Nl X b i r2 (c::T):=by
 have hl:=h.len
 have hx:=jT hX i
 have G:=h.rlt
 have E:c<10:=by
  rcases Nat.lt_or_ge c 10 with h1|h1
  · exact h1
  · have h2:10*b<=c*b:=Nat.mul_le_mul_right _ h1
    omega
 refine⟨by simp;omega,λd hd=>?_,?_,hr⟩
 · rcases List.mem_cons.1 hd with rfl|h1
   · exact E
   · exact h.lt d h1
 · have e:X.drop i=X.getD i 0::X.drop (i+1):=by
    rw[List.drop_eq_getElem_cons J];simp[show i<X.length by omega]
   rw[e]
   simp only[bU]
   have hv:=h.val
   generalize X.getD i 0=x at *
   generalize bU 10 T=t at *
   generalize bU 10 (X.drop (i+1))=u at *
   grind
def Nl.fin {X T:List Nat}{b r:Nat}(hb:0<b)(h:Nl X b 0 r T):bU 10 T=bU 10 X/b/\r=bU 10 X%b:=by
 have hv:=h.val
 rw[List.drop_zero]at hv
 have hr:=h.rlt
 rw[<-hv]
 constructor
 · rw[Nat.mul_comm,Nat.mul_add_div hb,Nat.div_eq_of_lt hr];omega
 · rw[Nat.mul_comm,Nat.mul_add_mod,Nat.mod_eq_of_lt hr]
namespace Go.Proofs.YtlmihmlnpjkblaaGreatDoor
variable {a lo b n c i n1 n2 c1 lo1 c2 lo2:Nat}{A A1 A2:Option Addr}{w w':World}
set_option maxRecDepth 100000
open Go Go.Eng Go.RowKit Tryz
attribute [local irreducible] wpListIn Code.wpIn Oper.wpIn Exit.then Exit.inBlock Exit.noGoto
set_option maxHeartbeats 40000000
def dZ {a:Int}(h:In64 a:=by unfold In64;omega):In64 a:=h
def jU (a i:Nat):(au 10 a).getD i 0<10:=jT (eO 10 U a) i
def fj (l:List Nat)(x:Nat):ints l++[Value.int .i64 x]=ints (l++[x]):=by simp[ints]
def Dd (m:Nat):(madeCells (Value.int IntKind.i64 0).cells (m*1)).toList=ints (List.replicate m 0):=qK m
def Dg.put (k:ee w w' b)(hb:b<lo)(h:Dg w lo A n c a):Dg w' lo A n c a:=⟨h.row.put k hb,h.len,h.cap⟩
def Dg.hi (h:Dg w lo A n c a):∀ad,A=some ad->ad.block<w.heap.size:=h.row.hi
def QL (i:Nat)(T:List Nat):List Nat:=List.replicate i 0++T
def yr (i:Nat)(T:List Nat):(QL i T).length=i+T.length:=by simp[QL]
def OJ (T:List Nat)(h:0<i):QL i T=QL (i-1) (0::T):=by
 obtain⟨j,rfl⟩:∃j,i=j+1:=⟨i-1,by omega⟩
 simp[QL,List.replicate_succ']
def T4 (i c:Nat)(T:List Nat):(QL i (c::T)).getD i 0=c:=by simp[QL,List.getD]
def T5 (i c d:Nat)(T:List Nat):(QL i (c::T)).set i d=QL i (d::T):=by
 induction i with
 |zero=>rfl
 |succ i ih=>unfold QL at *;rw[List.replicate_succ,List.cons_append,List.cons_append,List.set_cons_succ,ih]
def JR (n:Nat):QL n []=List.replicate n 0:=by simp[QL]
def T6 (r d:Nat)(hd:d<10):dK (d::au 10 r)=au 10 (r*10+d):=by
 rw[mH 10 U (d::au 10 r) (λx hx=>by
  rcases List.mem_cons.1 hx with rfl|hx
  · exact hd
  · exact eO 10 U r x hx)]
 simp only[bU,cK 10 (show 2<=10 by omega)]
 congr 1;omega
def JS (h1:(au 10 a).length=n1)(h2:(au 10 b).length=n2)(h:a<b*10):n1<=n2+1:=by
 rw[<-h1,<-h2,bf 10 U,Nat.pow_succ]
 have:=ou (B:=10) U b
 omega
def OK (h:b<=a):(0:Int)<=aQ (a:Int) (b:Int):=by
 rcases Nat.eq_or_lt_of_le h with h1|h1
 · rw[jy U];omega
 · rw[eY U];omega
def OL (h:¬b<=a):¬(0:Int)<=aQ (a:Int) (b:Int):=by
 rw[gh U];omega
def JU {r r2 x:Nat}(h:c*b+r2=r*10+x)(hr:r<b)(hx:x<10):c<10:=by
 rcases Nat.lt_or_ge c 10 with h1|h1
 · exact h1
 · have:=Nat.mul_le_mul_right b h1;omega
def wR (h1:Dg w lo1 A1 n1 c1 a)(s1:n1<=100000)(h2:Dg w lo2 A2 n2 c2 b)(s2:n2<=100000):
 CL 182 #[.slice A1 n1 c1,.slice A2 n2 c2] w (aH w λv w'=>∃A n c,v=.slice A n c/\Dg w' w.heap.size A n c (a+b)):=by
 have e1:=h1.len;have e2:=h2.len;refine aD func182 Z (I ?_);have G0:World.ownsRow w w.heap.size 3 1 (.slice none 0 0) 0 (ints []):=bK;have KM:=aa3 w;refine b7 [(5,52)] (λCr e W=>∃k:Nat,∃H:Value,((max n1 n2)+1-k=Cr)/\(e 6=.int .i64 (((gM (au 10 a) (au 10 b) k).1:Nat):Int))/\(e 7=.int .i64 k)/\(e 5=H)/\(k<=(max n1 n2)\/k=(max n1 n2)+1/\0<(gM (au 10 a) (au 10 b) (max n1 n2)).1)/\(aO w W)/\(W.ownsRow w.heap.size 3 1 H k (ints (gM (au 10 a) (au 10 b) k).2))) ((max n1 n2)+1-0) ⟨0,.slice none 0 0,rfl,rfl,rfl,rfl,(Or.inl (qa7 _)),KM,G0⟩ ?_;rintro _ _ _ ⟨k,H,rfl,L1,L2,Am,q1,E,ho⟩;have Kp:=bz E;by_cases hka:k<n1;by_cases hkb:k<n2;have Ap:(gM (au 10 a) (au 10 b) k).1<=1:=dA (jU a) (jU b) k;have A0:=jU a k;have O:=jU b k;have Af:n1<=k->(au 10 a).getD k 0=0:=λh=>c6 U;have Ab:n2<=k->(au 10 b).getD k 0=0:=λh=>c6 U;refine I ?_;obtain⟨od,Ax,KY,K2⟩:=((h1.row).ext E).cells k _ (bE (xs:=(au 10 a)) U);refine aa (aB (i:=(k)) (oo:=Ax+k) kB iy Z KY Z U Th ?_);refine aa (bC (v:=.int .i64 (((au 10 a).getD k 0:Nat):Int)) (b:=od) (o:=Ax+k) U3 Z Z K2 ?_);refine aa (cG (a:=(((gM (au 10 a) (au 10 b) k).1:Nat):Int)) (b:=(((au 10 a).getD k 0:Nat):Int)) (c:=(((gM (au 10 a) (au 10 b) k).1+(au 10 a).getD k 0:Nat):Int)) Z Z dZ U ?_)
 refine I ?_;obtain⟨H2,As,ES,E1⟩:=((h2.row).ext E).cells k _ (bE (xs:=(au 10 b)) U);refine aa (aB (i:=(k)) (oo:=As+k) kB iy Z ES Z U Th ?_);refine aa (bC (v:=.int .i64 (((au 10 b).getD k 0:Nat):Int)) (b:=H2) (o:=As+k) U3 Z Z E1 ?_);refine aa (cG (a:=(((gM (au 10 a) (au 10 b) k).1+(au 10 a).getD k 0:Nat):Int)) (b:=(((au 10 b).getD k 0:Nat):Int)) (c:=(((gM (au 10 a) (au 10 b) k).1+(au 10 a).getD k 0+(au 10 b).getD k 0:Nat):Int)) Z Z dZ U ?_);refine I ?_;refine aa (aT (v:=H) Am ?_);refine I ?_;refine aa (mu (a:=(((gM (au 10 a) (au 10 b) k).1+(au 10 a).getD k 0+(au 10 b).getD k 0:Nat):Int)) (b:=10) (c:=((((gM (au 10 a) (au 10 b) k).1+(au 10 a).getD k 0+(au 10 b).getD k 0)%10:Nat):Int)) Z Z U U U ?_);refine BS (λ_ Aw _ E0=>?_);have ho:=ab Aw ho;have E:=xt E Aw;refine AP ho (aa7 E0) (λAv _ CB D1 _=>?_);have E:=bu ho U U E D1;refine aa (aK (v:=Av) Z ?_);refine I ?_;refine aa (wo (a:=(((gM (au 10 a) (au 10 b) k).1+(au 10 a).getD k 0+(au 10 b).getD k 0:Nat):Int)) (b:=10) (c:=(((gM (au 10 a) (au 10 b) (k+1)).1:Nat):Int)) Z Z U U dZ kd5 ?_);refine I ?_
 refine aa (cG (a:=(k:Int)) (b:=1) (c:=((k+1:Nat):Int)) Z Z dZ U ?_);refine I ?_;exact bF (hk:=by first|omega|(rcases q1 with h|⟨h,-⟩;omega;exfalso;have G:=kh (X:=(au 10 a)) (Y:=(au 10 b)) (k:=(max n1 n2)) U U (dA (jU a) (jU b) _);rw[show(max n1 n2)+1=k by omega]at G;omega)) ⟨k+1,Av,rfl,rfl,rfl,rfl,(by rcases q1 with h|⟨h,-⟩ <;>first|(left;omega)|(right;refine⟨by omega,?_⟩;rw[show(max n1 n2)=k by omega];omega)|(exfalso;have G:=kh (X:=(au 10 a)) (Y:=(au 10 b)) (k:=(max n1 n2)) U U (dA (jU a) (jU b) _);rw[show(max n1 n2)+1=k by omega]at G;omega)),E,(aP CB Z (by rw[fj];rfl))⟩;have Ap:(gM (au 10 a) (au 10 b) k).1<=1:=dA (jU a) (jU b) k;have A0:=jU a k;have O:=jU b k;have Af:n1<=k->(au 10 a).getD k 0=0:=λh=>c6 U;have Ab:n2<=k->(au 10 b).getD k 0=0:=λh=>c6 U;refine I ?_;obtain⟨K3,B1,H3,E4⟩:=((h1.row).ext E).cells k _ (bE (xs:=(au 10 a)) U);refine aa (aB (i:=(k)) (oo:=B1+k) kB iy Z H3 Z U Th ?_);refine aa (bC (v:=.int .i64 (((au 10 a).getD k 0:Nat):Int)) (b:=K3) (o:=B1+k) U3 Z Z E4 ?_);refine aa (cG (a:=(((gM (au 10 a) (au 10 b) k).1:Nat):Int)) (b:=(((au 10 a).getD k 0:Nat):Int)) (c:=(((gM (au 10 a) (au 10 b) k).1+(au 10 a).getD k 0:Nat):Int)) Z Z dZ U ?_);refine I ?_;refine aa (aT (v:=H) Am ?_);refine I ?_;refine aa (mu (a:=(((gM (au 10 a) (au 10 b) k).1+(au 10 a).getD k 0:Nat):Int)) (b:=10) (c:=((((gM (au 10 a) (au 10 b) k).1+(au 10 a).getD k 0+(au 10 b).getD k 0)%10:Nat):Int)) Z Z U U U ?_);refine BS (λ_ B0 _ FR=>?_);have ho:=ab B0 ho;have E:=xt E B0;refine AP ho (aa7 FR) (λB2 _ E9 wr _=>?_);have E:=bu ho U U E wr;refine aa (aK (v:=B2) Z ?_)
 refine I ?_;refine aa (wo (a:=(((gM (au 10 a) (au 10 b) k).1+(au 10 a).getD k 0:Nat):Int)) (b:=10) (c:=(((gM (au 10 a) (au 10 b) (k+1)).1:Nat):Int)) Z Z U U dZ kd5 ?_);refine I ?_;refine aa (cG (a:=(k:Int)) (b:=1) (c:=((k+1:Nat):Int)) Z Z dZ U ?_);refine I ?_;exact bF (hk:=by first|omega|(rcases q1 with h|⟨h,-⟩;omega;exfalso;have G:=kh (X:=(au 10 a)) (Y:=(au 10 b)) (k:=(max n1 n2)) U U (dA (jU a) (jU b) _);rw[show(max n1 n2)+1=k by omega]at G;omega)) ⟨k+1,B2,rfl,rfl,rfl,rfl,(by rcases q1 with h|⟨h,-⟩ <;>first|(left;omega)|(right;refine⟨by omega,?_⟩;rw[show(max n1 n2)=k by omega];omega)|(exfalso;have G:=kh (X:=(au 10 a)) (Y:=(au 10 b)) (k:=(max n1 n2)) U U (dA (jU a) (jU b) _);rw[show(max n1 n2)+1=k by omega]at G;omega)),E,(aP E9 Z (by rw[fj];rfl))⟩;by_cases hkb:k<n2;have Ap:(gM (au 10 a) (au 10 b) k).1<=1:=dA (jU a) (jU b) k;have A0:=jU a k;have O:=jU b k;have Af:n1<=k->(au 10 a).getD k 0=0:=λh=>c6 U;have Ab:n2<=k->(au 10 b).getD k 0=0:=λh=>c6 U;refine I ?_;obtain⟨E5,Ay,E6,CG⟩:=((h2.row).ext E).cells k _ (bE (xs:=(au 10 b)) U);refine aa (aB (i:=(k)) (oo:=Ay+k) kB iy Z E6 Z U Th ?_);refine aa (bC (v:=.int .i64 (((au 10 b).getD k 0:Nat):Int)) (b:=E5) (o:=Ay+k) U3 Z Z CG ?_);refine aa (cG (a:=(((gM (au 10 a) (au 10 b) k).1:Nat):Int)) (b:=(((au 10 b).getD k 0:Nat):Int)) (c:=(((gM (au 10 a) (au 10 b) k).1+(au 10 a).getD k 0+(au 10 b).getD k 0:Nat):Int)) Z Z dZ U ?_);refine I ?_;refine aa (aT (v:=H) Am ?_);refine I ?_;refine aa (mu (a:=(((gM (au 10 a) (au 10 b) k).1+(au 10 a).getD k 0+(au 10 b).getD k 0:Nat):Int)) (b:=10) (c:=((((gM (au 10 a) (au 10 b) k).1+(au 10 a).getD k 0+(au 10 b).getD k 0)%10:Nat):Int)) Z Z U U U ?_);refine BS (λ_ C0 _ GC=>?_);have ho:=ab C0 ho;have E:=xt E C0;refine AP ho (aa7 GC) (λAz _ Ix KC _=>?_);have E:=bu ho U U E KC
 refine aa (aK (v:=Az) Z ?_);refine I ?_;refine aa (wo (a:=(((gM (au 10 a) (au 10 b) k).1+(au 10 a).getD k 0+(au 10 b).getD k 0:Nat):Int)) (b:=10) (c:=(((gM (au 10 a) (au 10 b) (k+1)).1:Nat):Int)) Z Z U U dZ kd5 ?_);refine I ?_;refine aa (cG (a:=(k:Int)) (b:=1) (c:=((k+1:Nat):Int)) Z Z dZ U ?_);refine I ?_;exact bF (hk:=by first|omega|(rcases q1 with h|⟨h,-⟩;omega;exfalso;have G:=kh (X:=(au 10 a)) (Y:=(au 10 b)) (k:=(max n1 n2)) U U (dA (jU a) (jU b) _);rw[show(max n1 n2)+1=k by omega]at G;omega)) ⟨k+1,Az,rfl,rfl,rfl,rfl,(by rcases q1 with h|⟨h,-⟩ <;>first|(left;omega)|(right;refine⟨by omega,?_⟩;rw[show(max n1 n2)=k by omega];omega)|(exfalso;have G:=kh (X:=(au 10 a)) (Y:=(au 10 b)) (k:=(max n1 n2)) U U (dA (jU a) (jU b) _);rw[show(max n1 n2)+1=k by omega]at G;omega)),E,(aP Ix Z (by rw[fj];rfl))⟩;by_cases hcr:0<(gM (au 10 a) (au 10 b) k).1;have Ap:(gM (au 10 a) (au 10 b) k).1<=1:=dA (jU a) (jU b) k;have A0:=jU a k;have O:=jU b k;have Af:n1<=k->(au 10 a).getD k 0=0:=λh=>c6 U;have Ab:n2<=k->(au 10 b).getD k 0=0:=λh=>c6 U;refine I ?_;refine aa (aT (v:=H) Am ?_);refine I ?_;refine aa (mu (a:=(((gM (au 10 a) (au 10 b) k).1:Nat):Int)) (b:=10) (c:=((((gM (au 10 a) (au 10 b) k).1+(au 10 a).getD k 0+(au 10 b).getD k 0)%10:Nat):Int)) Z Z U U U ?_);refine BS (λ_ ny _ D2=>?_);have ho:=ab ny ho;have E:=xt E ny;refine AP ho (aa7 D2) (λAq _ H4 CY _=>?_);have E:=bu ho U U E CY;refine aa (aK (v:=Aq) Z ?_);refine I ?_;refine aa (wo (a:=(((gM (au 10 a) (au 10 b) k).1:Nat):Int)) (b:=10) (c:=(((gM (au 10 a) (au 10 b) (k+1)).1:Nat):Int)) Z Z U U dZ kd5 ?_);refine I ?_;refine aa (cG (a:=(k:Int)) (b:=1) (c:=((k+1:Nat):Int)) Z Z dZ U ?_);refine I ?_;exact bF (hk:=by first|omega|(rcases q1 with h|⟨h,-⟩;omega;exfalso;have G:=kh (X:=(au 10 a)) (Y:=(au 10 b)) (k:=(max n1 n2)) U U (dA (jU a) (jU b) _);rw[show(max n1 n2)+1=k by omega]at G;omega)) ⟨k+1,Aq,rfl,rfl,rfl,rfl,(by rcases q1 with h|⟨h,-⟩ <;>first|(left;omega)|(right;refine⟨by omega,?_⟩;rw[show(max n1 n2)=k by omega];omega)|(exfalso;have G:=kh (X:=(au 10 a)) (Y:=(au 10 b)) (k:=(max n1 n2)) U U (dA (jU a) (jU b) _);rw[show(max n1 n2)+1=k by omega]at G;omega)),E,(aP H4 Z (by rw[fj];rfl))⟩
 have Ap:(gM (au 10 a) (au 10 b) k).1<=1:=dA (jU a) (jU b) k;have A0:=jU a k;have O:=jU b k;have Af:n1<=k->(au 10 a).getD k 0=0:=λh=>c6 U;have Ab:n2<=k->(au 10 b).getD k 0=0:=λh=>c6 U;have E7:=OH h1.len h2.len (k:=k) U U U U;obtain⟨Ao,Ar,rfl,EW⟩:=qT ho E7;refine I ?_;exact am (t:=4) (v:=.slice Ao k Ar) Z E ⟨Ao,k,Ar,rfl,EW⟩ Z
theorem lG (h1:Dg w lo1 A1 n1 c1 a)(s1:n1<=100000)(h2:Dg w lo2 A2 n2 c2 b)(s2:n2<=100000)(hle:b<=a):
 CL 183 #[.slice A1 n1 c1,.slice A2 n2 c2] w (aH w λv w'=>∃A n c,v=.slice A n c/\Dg w' w.heap.size A n c (a-b)):=by
 have e1:=h1.len;have e2:=h2.len;refine aD func183 rfl ?_;refine I ?_;have E4:World.ownsRow w w.heap.size 3 1 (.slice none 0 0) 0 (ints []):=bK;have Kp:=aa3 w;refine b7 [(5,38)] (λH3 e W=>∃k:Nat,∃H:Value,(n1-k=H3)/\(e 6=.int .i64 ((((jc (au 10 a) (au 10 b) k).1:Nat):Int)))/\(e 7=.int .i64 k)/\(e 5=H)/\(k<=n1)/\(aO w W)/\(W.ownsRow w.heap.size 3 1 H k (ints (jc (au 10 a) (au 10 b) k).2))) (n1-0) ⟨0,.slice none 0 0,rfl,rfl,rfl,rfl,(qa7 _),Kp,E4⟩ ?_;rintro _ _ _ ⟨k,H,rfl,No,P0,O,q1,E,ho⟩;have P1:=bz E;by_cases hka:k<n1;by_cases hkb:k<n2;by_cases hng:(au 10 a).getD k 0<(jc (au 10 a) (au 10 b) k).1+(au 10 b).getD k 0;have Ab:(jc (au 10 a) (au 10 b) k).1<=1:=gN _ _ k;have Am:=jU a k;have Af:=jU b k;have A0:n2<=k->(au 10 b).getD k 0=0:=λh=>c6 U;have G:(jc (au 10 a) (au 10 b) (k+1))=(1,(jc (au 10 a) (au 10 b) k).2++[(au 10 a).getD k 0+10-(jc (au 10 a) (au 10 b) k).1-(au 10 b).getD k 0]):=if_pos hng;refine I ?_;obtain⟨EW,Av,D1,KM⟩:=((h1.row).ext E).cells k _ (bE (xs:=(au 10 a)) U);refine aa (aB (i:=(k)) (oo:=Av+k) kB iy rfl D1 rfl U (by rw[Nat.mul_one]) ?_);refine aa (bC (v:=.int .i64 ((((au 10 a).getD k 0:Nat):Int))) (b:=EW) (o:=Av+k) U3 rfl rfl KM ?_)
 refine I ?_;refine qk ?_;refine I ?_;obtain⟨ES,Ap,E5,Lj⟩:=((h2.row).ext E).cells k _ (bE (xs:=(au 10 b)) U);refine aa (aB (i:=(k)) (oo:=Ap+k) kB iy rfl E5 rfl U (by rw[Nat.mul_one]) ?_);refine aa (bC (v:=.int .i64 ((((au 10 b).getD k 0:Nat):Int))) (b:=ES) (o:=Ap+k) U3 rfl rfl Lj ?_);refine qk ?_;refine I ?_;refine aa (cG (a:=((((au 10 a).getD k 0:Nat):Int)-(((jc (au 10 a) (au 10 b) k).1:Nat):Int))-(((au 10 b).getD k 0:Nat):Int)) (b:=10) (c:=(((au 10 a).getD k 0+10-(jc (au 10 a) (au 10 b) k).1-(au 10 b).getD k 0:Nat):Int)) rfl rfl dZ U ?_);refine I ?_;refine aa (aT (v:=H) O ?_);refine I ?_;refine BS (λ_ Aw _ Lk=>?_);have ho:=ab Aw ho;have E:=xt E Aw;refine AP ho (aa7 Lk) (λwr _ K2 D2 _=>?_);have E:=bu ho U U E D2;refine aa (aK (v:=wr) rfl ?_);refine I ?_;refine aa (cG (a:=(k:Int)) (b:=1) (c:=((k+1:Nat):Int)) rfl rfl dZ U ?_);refine I ?_;exact bF ⟨k+1,wr,rfl,(by rw[G];rfl),rfl,rfl,U,E,(aP K2 rfl (by rw[fj,G]))⟩;have Ab:(jc (au 10 a) (au 10 b) k).1<=1:=gN _ _ k;have Am:=jU a k;have Af:=jU b k;have A0:n2<=k->(au 10 b).getD k 0=0:=λh=>c6 U
 have G:(jc (au 10 a) (au 10 b) (k+1))=(0,(jc (au 10 a) (au 10 b) k).2++[(au 10 a).getD k 0-(jc (au 10 a) (au 10 b) k).1-(au 10 b).getD k 0]):=if_neg hng;refine I ?_;obtain⟨L2,B0,E9,L1⟩:=((h1.row).ext E).cells k _ (bE (xs:=(au 10 a)) U);refine aa (aB (i:=(k)) (oo:=B0+k) kB iy rfl E9 rfl U (by rw[Nat.mul_one]) ?_);refine aa (bC (v:=.int .i64 ((((au 10 a).getD k 0:Nat):Int))) (b:=L2) (o:=B0+k) U3 rfl rfl L1 ?_);refine I ?_;refine qk ?_;refine I ?_;obtain⟨Ne,Az,Li,ny⟩:=((h2.row).ext E).cells k _ (bE (xs:=(au 10 b)) U);refine aa (aB (i:=(k)) (oo:=Az+k) kB iy rfl Li rfl U (by rw[Nat.mul_one]) ?_);refine aa (bC (v:=.int .i64 ((((au 10 b).getD k 0:Nat):Int))) (b:=Ne) (o:=Az+k) U3 rfl rfl ny ?_);refine aa (jp (a:=(((au 10 a).getD k 0:Nat):Int)-(((jc (au 10 a) (au 10 b) k).1:Nat):Int)) (b:=(((au 10 b).getD k 0:Nat):Int)) (c:=(((au 10 a).getD k 0-(jc (au 10 a) (au 10 b) k).1-(au 10 b).getD k 0:Nat):Int)) rfl rfl dZ U ?_);refine I ?_;refine aa (aT (v:=H) O ?_);refine I ?_;refine BS (λ_ B2 _ CY=>?_);have ho:=ab B2 ho;have E:=xt E B2;refine AP ho (aa7 CY) (λAy _ FR GC _=>?_);have E:=bu ho U U E GC;refine aa (aK (v:=Ay) rfl ?_);refine I ?_
 refine aa (cG (a:=(k:Int)) (b:=1) (c:=((k+1:Nat):Int)) rfl rfl dZ U ?_);refine I ?_;exact bF ⟨k+1,Ay,rfl,(by rw[G];rfl),rfl,rfl,U,E,(aP FR rfl (by rw[fj,G]))⟩;by_cases hng:(au 10 a).getD k 0<(jc (au 10 a) (au 10 b) k).1+(au 10 b).getD k 0;have Ab:(jc (au 10 a) (au 10 b) k).1<=1:=gN _ _ k;have Am:=jU a k;have Af:=jU b k;have A0:n2<=k->(au 10 b).getD k 0=0:=λh=>c6 U;have G:(jc (au 10 a) (au 10 b) (k+1))=(1,(jc (au 10 a) (au 10 b) k).2++[(au 10 a).getD k 0+10-(jc (au 10 a) (au 10 b) k).1-(au 10 b).getD k 0]):=if_pos hng;refine I ?_;obtain⟨G0,od,KC,La⟩:=((h1.row).ext E).cells k _ (bE (xs:=(au 10 a)) U);refine aa (aB (i:=(k)) (oo:=od+k) kB iy rfl KC rfl U (by rw[Nat.mul_one]) ?_);refine aa (bC (v:=.int .i64 ((((au 10 a).getD k 0:Nat):Int))) (b:=G0) (o:=od+k) U3 rfl rfl La ?_);refine I ?_;refine qk ?_;refine I ?_;refine aa (cG (a:=(((au 10 a).getD k 0:Nat):Int)-(((jc (au 10 a) (au 10 b) k).1:Nat):Int)) (b:=10) (c:=(((au 10 a).getD k 0+10-(jc (au 10 a) (au 10 b) k).1-(au 10 b).getD k 0:Nat):Int)) rfl rfl dZ U ?_)
 refine I ?_;refine aa (aT (v:=H) O ?_);refine I ?_;refine BS (λ_ CB _ L3=>?_);have ho:=ab CB ho;have E:=xt E CB;refine AP ho (aa7 L3) (λCG _ H2 E1 _=>?_);have E:=bu ho U U E E1;refine aa (aK (v:=CG) rfl ?_);refine I ?_;refine aa (cG (a:=(k:Int)) (b:=1) (c:=((k+1:Nat):Int)) rfl rfl dZ U ?_);refine I ?_;exact bF ⟨k+1,CG,rfl,(by rw[G];rfl),rfl,rfl,U,E,(aP H2 rfl (by rw[fj,G]))⟩;have Ab:(jc (au 10 a) (au 10 b) k).1<=1:=gN _ _ k;have Am:=jU a k;have Af:=jU b k;have A0:n2<=k->(au 10 b).getD k 0=0:=λh=>c6 U;have G:(jc (au 10 a) (au 10 b) (k+1))=(0,(jc (au 10 a) (au 10 b) k).2++[(au 10 a).getD k 0-(jc (au 10 a) (au 10 b) k).1-(au 10 b).getD k 0]):=if_neg hng;refine I ?_;obtain⟨Cr,B1,KY,H4⟩:=((h1.row).ext E).cells k _ (bE (xs:=(au 10 a)) U);refine aa (aB (i:=(k)) (oo:=B1+k) kB iy rfl KY rfl U (by rw[Nat.mul_one]) ?_);refine aa (bC (v:=.int .i64 ((((au 10 a).getD k 0:Nat):Int))) (b:=Cr) (o:=B1+k) U3 rfl rfl H4 ?_);refine I ?_;refine aa (jp (a:=(((au 10 a).getD k 0:Nat):Int)) (b:=(((jc (au 10 a) (au 10 b) k).1:Nat):Int)) (c:=(((au 10 a).getD k 0-(jc (au 10 a) (au 10 b) k).1-(au 10 b).getD k 0:Nat):Int)) rfl rfl dZ U ?_)
 refine I ?_;refine aa (aT (v:=H) O ?_);refine I ?_;refine BS (λ_ Ar _ K3=>?_);have ho:=ab Ar ho;have E:=xt E Ar;refine AP ho (aa7 K3) (λAx _ E7 E6 _=>?_);have E:=bu ho U U E E6;refine aa (aK (v:=Ax) rfl ?_);refine I ?_;refine aa (cG (a:=(k:Int)) (b:=1) (c:=((k+1:Nat):Int)) rfl rfl dZ U ?_);refine I ?_;exact bF ⟨k+1,Ax,rfl,(by rw[G];rfl),rfl,rfl,U,E,(aP E7 rfl (by rw[fj,G]))⟩;have E0:k=n1:=by omega
 obtain⟨Ao,Aq,rfl,N0,-⟩:=e8 ho;refine I ?_;refine clb Is (hc:=qU (aa7 ho) (nl _ _ _) N0 U) (hk:=?_);rintro _ _ As ⟨C0,rfl,Ix,L4⟩;have ho:=ab As.2 ho;have E:=xt E As.2;refine I ?_;exact am (t:=4) (v:=.slice Ao C0 Aq) rfl E ⟨Ao,C0,Aq,rfl,Dg.trim (aa7 ho) (Dc (jU a) (jU b) k) (by rw[E0];exact OI h1.len h2.len hle) Ix (by rw[nl];exact L4) U⟩ rfl
def AE (h1:Dg w lo1 A1 n1 c1 a)(s1:n1<=90000)(h2:Dg w lo2 A2 n2 c2 b)(s2:n2<=90000)(hb0:0<b):
 CL 180 #[.slice A1 n1 c1,.slice A2 n2 c2] w (aH w λv w'=>∃A n c B m d,v=.tuple #[.slice A n c,.slice B m d]/\Dg w' w.heap.size A n c (a/b)/\Dg w' w.heap.size B m d (a%b)):=by
 have e1:=h1.len;have e2:=h2.len;refine aD func180 Z (I ?_);refine aa (my (m:=n1) kB kI Z Z U CA (λIx K3 _ E6=>?_));have H3:=K3;have hq:=Ew E6;rw[Dd]at hq;clear E6;refine I ?_;refine qk (I ?_);rw[<-JR]at hq;have Kp:Dg Ix (w.heap.size+1) none 0 0 0:=Dg.zero _ _;refine b7 [(7,8),(15,39)] (λAy e W=>∃i:Nat,∃T:List Nat,∃Ar:Option Addr,∃Af:Nat,∃As:Nat,∃r:Nat,(i=Ay)/\(e 8=.int .i64 ((i:Int)-1))/\(e 7=.slice Ar Af As)/\(i<=n1)/\(Nl (au 10 a) b i r T)/\(aO w W)/\(ar W w.heap.size 3 (ints (QL i T)).toArray)/\(Dg W (w.heap.size+1) Ar Af As r)) (n1) ⟨n1,[],none,0,0,0,rfl,(qb2 (Value.int .i64) U),rfl,(qa0 _),(by rw[<-h1.len];exact Nl.start hb0),H3,hq,Kp⟩ ?_;rintro _ _ ny ⟨i,T,Ar,Af,As,r,rfl,Ne,od,N0,O,G,hq,hr⟩;by_cases hi:0<i;have C0:=bt hq;have E0:=hr.hi;have Az:=jU a (i-1);have ES:=O.rlt;have L3:=O.len;have No:Af<=n2+1:=JS hr.len h2.len U;refine I ?_;obtain⟨L2,D2,wr,H4⟩:=((h1.row).ext G).cells (i-1) _ (bE (xs:=(au 10 a)) U);refine aa (aB (i:=i-1) (oo:=D2+(i-1)) kB iy Z wr (dG Z U) U Th ?_);refine aa (bC (v:=.int .i64 (((au 10 a).getD (i-1) 0:Nat):Int)) (b:=L2) (o:=D2+(i-1)) U3 Z Z H4 ?_)
 refine BS (λ_ Aq _ E4=>?_);have hq:=be Aq hq;have hr:=ac9 Aq hr;have G:=xt G Aq;have Lk:=bz Aq;refine I ?_;refine aa (jI (v:=.slice (some ⟨ny.heap.size,0,none⟩) (1) (1)) (k:=1) kB kI Z dc Z E4 Z hr.row (by rw[i7,hr.len];omega) tY CA U U (λ_ G0 E1 B2 _=>?_));have hq:=aa2 B2 DB hq;have hr:=Dg.gr B2 (λKC e=>by have:=E0 KC e;simp[Value.ownBlock];omega) hr;have G:=cS G B2 (bz G) (λg KM=>by have:=(E4.lt g KM).1;omega);obtain⟨Aw,CY,rfl,L4,P0,-,-⟩:=e8 E1;have hs:Rw G0 ny.heap.size Aw (ints (((au 10 a).getD (i-1) 0)::au 10 r)):=aa7 E1;refine clb Is (hc:=qU hs (by rw[List.length_cons,hr.len];omega) L4 U) (hk:=?_);rintro _ L1 Ap ⟨CG,rfl,Ab,E5⟩;have hq:=be Ap.2 hq;have hr:=ac9 Ap.2 hr;have G:=xt G Ap.2;rw[T6 _ _ Az]at Ab;have La:Dg L1 (w.heap.size+1) Aw CG CY (r*10+((au 10 a).getD (i-1) 0)):=by
  refine⟨?_,?_,by omega⟩
  rw[Ab];have:=((hs.ext Ap.2).take CG).mono (lo':=w.heap.size+1) U;simpa[ints,List.map_take]using this;rw[Ab,List.length_take,List.length_cons,hr.len];omega
 rw[OJ T hi]at hq;refine I ?_;refine b7 [(7,7),(27,39)] (λAy e W=>∃c:Nat,∃Ar2:Option Addr,∃A0:Nat,∃Av:Nat,∃r2:Nat,(r2=Ay)/\(e 7=.slice Ar2 A0 Av)/\(c*b+r2=(r*10+((au 10 a).getD (i-1) 0)))/\(aO w W)/\(ar W w.heap.size 3 (ints (QL (i-1) (c::T))).toArray)/\(Dg W (w.heap.size+1) Ar2 A0 Av r2)) (r*10+((au 10 a).getD (i-1) 0)) ⟨0,Aw,CG,CY,(r*10+((au 10 a).getD (i-1) 0)),rfl,rfl,U,G,hq,La⟩ ?_;rintro _ _ _ ⟨c,Ar2,A0,Av,r2,rfl,Li,Ax,E,hq,H⟩;by_cases hge:b<=r2;have C0:=bt hq;have hcR:r2<=(r*10+((au 10 a).getD (i-1) 0)):=by have:=qa7 (c*b);omega
 have K2:A0<=n2+1:=JS H.len h2.len U;have KY:c<10:=JU Ax ES Az;refine I ?_;refine clb zy (hc:=jS H U (h2.ext E) U) (hk:=?_);rintro _ _ B1 rfl;have hq:=be B1.2 hq;have H:=ac9 B1.2 H;have E:=xt E B1.2;have P2:=OK hge;refine I ?_;refine clb Ei (hc:=lG H U (h2.ext E) U hge) (hk:=?_);rintro _ _ FR ⟨Am,nm,H2,rfl,Ao⟩;have⟨hq,E⟩:=bo FR.2 hq E;have Ao:=Ao.mono (lo':=w.heap.size+1) U;refine I ?_;refine aa (aB (A:=some ⟨w.heap.size,0,none⟩) (bk:=w.heap.size) (o:=0) (m:=n1) (c:=n1) (i:=i-1) (oo:=i-1) kB iy Z Z (dG Z U) U U ?_);refine aa (bC (v:=.int .i64 (((QL (i-1) (c::T)).getD (i-1) 0:Nat):Int)) U3 Z Z (ab6 hq (by rw[List.getElem?_toArray];exact bE (by rw[yr,List.length_cons];omega))) ?_);rw[T4];refine aa (cG (a:=(c:Int)) (b:=1) (c:=((c+1:Nat):Int)) Z Z dZ U ?_);refine aa (aB (A:=some ⟨w.heap.size,0,none⟩) (bk:=w.heap.size) (o:=0) (m:=n1) (c:=n1) (i:=i-1) (oo:=i-1) kB iy Z Z (dG Z U) U U ?_);refine aa (cJ (b:=w.heap.size) (o:=i-1) (v:=.int .i64 ((c+1:Nat):Int)) iy Z Z Z hq (by rw[List.size_toArray,i7];rw[yr,List.length_cons];omega) (λ_ E7 GC=>?_));have Ao:=Dg.put E7 U Ao;have E:=bi E7 E;have hq:=GC;rw[ints_set]at hq
 refine I ?_;exact bF ⟨c+1,Am,nm,H2,r2-b,rfl,rfl,(by rw[Nat.add_mul];omega),E,(by rw[T5]at hq;exact hq),Ao⟩;have C0:=bt hq;have hcR:r2<=(r*10+((au 10 a).getD (i-1) 0)):=by have:=qa7 (c*b);omega
 have K2:A0<=n2+1:=JS H.len h2.len U;have KY:c<10:=JU Ax ES Az;refine I ?_;refine clb zy (hc:=jS H U (h2.ext E) U) (hk:=?_);rintro _ _ B0 rfl;have hq:=be B0.2 hq;have H:=ac9 B0.2 H;have E:=xt E B0.2;have P1:=OL hge;refine I ?_;refine aa (jp (a:=(i:Int)-1) (b:=1) (c:=((i-1:Nat):Int)-1) Z Z dZ U ?_);refine I ?_;exact bF ⟨i-1,c::T,Ar2,A0,Av,r2,rfl,rfl,Li,U,(Nl.step (eO 10 U a) (by rw[show i-1+1=i by omega];exact O) Ax U),E,hq,H⟩;have C0:=bt hq;have EW:i=0:=J
 rw[EW]at O hq;have L3:=O.len;obtain⟨Cr,D1⟩:=O.fin hb0;rw[h1.val]at Cr D1;have E0:=hr.hi;refine I ?_;have Lj:=ae3 hq (qa0 _);refine clb Is (hc:=qU Lj (by rw[yr];omega) (qa0 _) U) (hk:=?_);rintro _ _ CB ⟨E9,rfl,Ab,E5⟩;have hq:=be CB.2 hq;have hr:=ac9 CB.2 hr;have G:=xt G CB.2;refine I ?_;exact bA (t:=4) (u:=5) (v1:=.slice (some ⟨w.heap.size,0,none⟩) E9 n1) (v2:=.slice Ar Af As) Z G ⟨_,E9,_,_,_,_,rfl,(Dg.trim (ae3 hq (qa0 _)) (by rw[show QL 0 T=T from rfl];exact O.lt) (by rw[show QL 0 T=T from rfl];exact Cr) Ab (by rw[yr];omega) E5).mono U,by rw[<-D1];exact hr.mono U⟩ Z Z
end Go.Proofs.YtlmihmlnpjkblaaGreatDoor
