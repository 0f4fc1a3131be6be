/- Part of the proof of a statement about an adjustment. -/
import Derived.Test.YtlmihmlnpjkblaaGreatDoorInt13ToRat2G
set_option linter.all false
namespace Go.Proofs.YtlmihmlnpjkblaaGreatDoor
open Go Go.Eng Go.RowKit Tryz
variable {q ng:Bool}{xs X Y:List Nat}{l d:List UInt8}{i lo' k base n a j n1 c1 lo1 n2 c2 b lo2:Nat}{A1 A A2:Option Addr}{c:UInt8}{w:World}
attribute [local irreducible] wpListIn Code.wpIn Oper.wpIn Exit.then Exit.inBlock Exit.noGoto
set_option maxHeartbeats 40000000
def uk:bN ([48],[49])=true:=by decide +kernel
def c7 {a:R}(h:bN a=true):0<ai a.2:=by
 have h2:=gF h
 simp only[bN,Bool.and_eq_true,Bool.not_eq_true',decide_eq_false_iff_not]at h
 have:=h.1.2
 rw[gT h2,dh]at this
 omega
def GK:dt [48] [49]=some ([48],[48]):=by decide +kernel
def Ad (h:0<ai l):0<aD (body l):=by have:=ec l;omega
def Q4 {a:R}(h:bN a=true):dt a.1 a.2=some (ae (ai a.1/ai a.2),ae (ai a.1%ai a.2)):=by
 have E:=c7 h
 rw[lB (by rw[js h,gF h];rfl) (Ad E)]
 have hf:fits (ai a.1/ai a.2)=true:=by
  refine kg (e9 (js h)) ?_
  obtain⟨d,hd⟩:∃d:Nat,ai a.2=(d:Int):=⟨(ai a.2).toNat,by omega⟩
  rw[hd]at E ⊢
  rcases Int.le_total 0 (ai a.1)with h0|h0
  · have h1:=Int.ediv_nonneg h0 (Int.le_of_lt E)
    have h2:=Int.ediv_le_self (b:=(d:Int)) h0
    omega
  · have h1:ai a.1/(d:Int)<=0:=Int.ediv_nonpos_of_nonpos_of_neg h0 E
    have h2:ai a.1<=ai a.1/(d:Int):=by
     refine Int.le_ediv_of_mul_le E ?_
     have G:0<=(-ai a.1)*((d:Int)-1):=Int.mul_nonneg U U
     rw[Int.neg_mul,Int.mul_sub,Int.mul_one]at G
     omega
    omega
 unfold bj;rw[if_pos hf];rfl
def qN (x:Int):Int:=aQ x 0
def JB {a:R}(h:bN a=true):fits (ai a.1%ai a.2)=true:=by
 have E:=c7 h
 refine kg (e9 (gF h)) ?_
 have h1:=Int.emod_nonneg (ai a.1) (show ai a.2≠0 by omega)
 have h2:=Int.emod_lt_of_pos (ai a.1) E
 omega
def wC {a:R}(h:bN a=true):dR (ae (ai a.1/ai a.2)) [48]=aQ (ai a.1/ai a.2) 0:=by
 have hd:=Q4 h
 have hf:fits (ai a.1/ai a.2)=true:=by
  rw[lB (by rw[js h,gF h];rfl) (Ad (c7 h))]at hd
  cases hh:fits (ai a.1/ai a.2)with
  |true=>rfl
  |false=>unfold bj at hd;rw[hh]at hd;simp at hd
 rw[gT (bu hf),aG]
def Ae {a:R}(h:bN a=true):(ae (ai a.1%ai a.2)=[48])↔ai a.1%ai a.2=0:=by
 rw[<-ge (bu (JB h)),aG]
def TI {a:R}(h:bN a=true)(h1:¬dR (ae (ai a.1/ai a.2)) [48]=0):dR (ae (ai a.1/ai a.2)) [48]=qN (ai a.1):=by
 rw[wC h]at *
 have G:=c7 h
 unfold qN
 refine oc ?_ ?_
 · constructor
   · intro E
     by_cases h9:ai a.1<0
     · exact h9
     · have:=Int.ediv_nonneg (Int.not_lt.1 h9) (Int.le_of_lt G);omega
   · intro E;exact Int.ediv_neg_of_neg_of_pos E G
 · constructor
   · intro E;rw[E]at h1;exact absurd (jy Z) h1
   · intro E;rw[E];simp
def JC {a:R}(h:bN a=true)(h1:dR (ae (ai a.1/ai a.2)) [48]=0):0<=ai a.1/\ai a.1%ai a.2=ai a.1:=by
 rw[wC h]at h1
 have E:=c7 h
 have hq:ai a.1/ai a.2=0:=by
  unfold aQ at h1
  split at h1
  · omega
  · split at h1
    · assumption
    · omega
 have h2:=Int.emod_add_mul_ediv (ai a.1) (ai a.2)
 rw[hq]at h2
 have h3:=Int.emod_nonneg (ai a.1) (show ai a.2≠0 by omega)
 simp at h2
 exact⟨by omega,h2⟩
def TJ {a:R}(h:bN a=true)(h1:dR (ae (ai a.1/ai a.2)) [48]=0)(h2:ae (ai a.1%ai a.2)=[48]):(0:Int)=qN (ai a.1):=by
 obtain⟨_,h4⟩:=JC h h1
 rw[Ae h,h4]at h2
 unfold qN;rw[jy h2]
def TK {a:R}(h:bN a=true)(h1:dR (ae (ai a.1/ai a.2)) [48]=0)(h2:¬ae (ai a.1%ai a.2)=[48]):(1:Int)=qN (ai a.1):=by
 obtain⟨_,h4⟩:=JC h h1
 rw[Ae h,h4]at h2
 unfold qN;rw[eT U]
def Ol (a b:List UInt8):-1<=dR a b/\dR a b<=1:=by
 unfold dR aQ
 split
 · split
   · omega
   · split <;>omega
 · omega
set_option maxRecDepth 100000 in
def Om (x1 x2:List UInt8)(w:World)(ht:Tb w)(h:bN (x1,x2)=true):
 CL 26 #[.agg #[S x1,S x2],.agg #[S [48],S [49]]] w (aH w λv w'=>v=.int .i64 (qN (ai x1))):=by
 have As:=Q4 h;refine aC func26 Z (I ?_);refine bx (λ_ Af G=>?_);have ht:=ab7 Af.2 ht;have E:=Af.2;refine bx (λ_ Ao H=>?_);have ht:=ab7 Ao.2 ht;have⟨G,E⟩:=bw Ao.2 G E;refine I ?_;refine cl tj (eE x1 x2 _ ht) ?_;rintro _ _ A0 rfl;have ht:=ab7 A0.2 ht;have⟨G,H,E⟩:=cD A0.2 G H E;refine I ?_;refine cl tj (eE [48] [49] _ ht) ?_;rintro _ _ Ab rfl;have ht:=ab7 Ab.2 ht;have⟨G,H,E⟩:=cD Ab.2 G H E;refine I ?_;refine wpIn_label (I ?_);refine cl zj (kf x1 x2 _ ht) ?_;rintro Aq _ Am O;have ht:=ab7 Am.2 ht;have⟨H,E⟩:=bw Am.2 H E;rw[As]at O;have O:Aq=.tuple #[S (ae (ai x1/ai x2)),S (ae (ai x1%ai x2)),.int .i64 0]:=O;subst O;refine I ?_;refine cl zj (kf [48] [49] _ ht) ?_;rintro Av _ Ar W;have E:=xt E Ar.2;rw[GK]at W;have W:Av=.tuple #[S [48],S [48],.int .i64 0]:=W;subst W;refine I ?_;refine cl xo (pg (ae (ai x1/ai x2)) [48] _) ?_;rintro _ _ Ap rfl;have E:=xt E Ap.2;have Aw:=Ol (ae (ai x1/ai x2)) [48];refine I ?_;by_cases cx:(dR (ae (ai x1/ai x2)) [48])=0;refine I ?_;by_cases cv:(ae (ai x1%ai x2))=([48]);refine I ?_;refine rU (b:=[48]) (I ?_);refine rU (a:=[48]) (b:=[48]) (I ?_)
 exact am (t:=4) (v:=.int .i64 0) Z E (qb2 (Value.int .i64) (TJ (a:=(x1,x2)) h cx cv)) Z;refine I ?_;refine rU (b:=[48]) (I ?_);refine rU (b:=[48]) (I ?_);refine rU (a:=[48]) (b:=[48]) (I ?_);exact am (t:=4) (v:=.int .i64 1) Z E (qb2 (Value.int .i64) (TK (a:=(x1,x2)) h cx cv)) Z;refine I ?_;refine aa (ra (a:=1) (b:=dR (ae (ai x1/ai x2)) [48]) (c:=1*(dR (ae (ai x1/ai x2)) [48])) Z Z j0 Z ?_);refine I ?_;exact am (t:=4) (v:=.int .i64 (1*(dR (ae (ai x1/ai x2)) [48]))) Z E (qb2 (Value.int .i64) ((Int.one_mul _).trans (TI (a:=(x1,x2)) h cx))) Z
def aj {p:Prop}(h:p:=by assumption):p:=h
def c45 :(((c.toNat:Nat):Int)=45)↔c=45:=by
 constructor
 · intro h;exact UInt8.toNat_inj.1 (by have:(45:UInt8).toNat=45:=rfl;omega)
 · intro h;subst h;rfl
def c48 :(((c.toNat:Nat):Int)=48)↔c=48:=by
 constructor
 · intro h;exact UInt8.toNat_inj.1 (by have:(48:UInt8).toNat=48:=rfl;omega)
 · intro h;subst h;rfl
def Ag (hc:l[0]?=some c)(h:((c.toNat:Nat):Int)=45):neg l=true/\body l=l.drop 1:=by
 rw[c45]at h;subst h
 cases l with
 |nil=>simp at hc
 |cons a t=>simp at hc;subst hc;exact⟨rfl,rfl⟩
def EM (hc:l[0]?=some c)(h:¬((c.toNat:Nat):Int)=45):neg l=false/\body l=l:=by
 have E:l.head?≠some 45:=by rw[List.head?_eq_getElem?,hc];intro e;cases e;exact h Z
 exact⟨Jh E,xO E⟩
def JD (h:¬(0:Int)<((l.length:Nat):Int)):neg l=false/\body l=l:=by
 have:l=[]:=List.length_eq_zero_iff.1 U
 subst this;exact⟨rfl,rfl⟩
section
variable {D:List UInt8}
def HQ (hb:neg l=true/\body l=D)(h:D=[48]):Value.bool false=.bool (isInt l):=by
 unfold isInt;rw[hb.1,hb.2,h];rfl
def HR (hb:neg l=q/\body l=D)(h:¬(0:Int)<((D.length:Nat):Int)):Value.bool false=.bool (isInt l):=by
 have:D=[]:=List.length_eq_zero_iff.1 U
 unfold isInt eo;rw[hb.2,this];rfl
def HS (hb:neg l=q/\body l=D)(h:¬((D.length:Nat):Int)<=200):Value.bool false=.bool (isInt l):=by
 have:¬D.length<=200:=J
 unfold isInt eo;rw[hb.2];simp[this]
def sH (hb:neg l=q/\body l=D)(hc:D[i]?=some c)(h:cu c=false):Value.bool false=.bool (isInt l):=by
 have:D.all cu=false:=by
  rw[List.all_eq_false]
  exact⟨c,List.mem_iff_getElem?.2 ⟨i,hc⟩,by simp[h]⟩
 unfold isInt eo;rw[hb.2,this];simp
def dig_lo (h:((c.toNat:Nat):Int)<48):cu c=false:=by unfold cu;simp;omega
def dig_hi (h:(57:Int)<((c.toNat:Nat):Int)):cu c=false:=by unfold cu;simp;omega
def JE (h1:¬((c.toNat:Nat):Int)<48)(h2:¬(57:Int)<((c.toNat:Nat):Int)):cu c=true:=by unfold cu;simp;omega
def HT (hb:neg l=false/\body l=D)(h:D=[48]):Value.bool true=.bool (isInt l):=by
 unfold isInt;rw[hb.1,hb.2,h];rfl
def HU (hb:neg l=q/\body l=D)(ha:D.all cu=true)(h0:(0:Int)<((D.length:Nat):Int))(h1:((D.length:Nat):Int)<=200)(h:¬D=[48])(hc:D[0]?=some c):Value.bool (!decide (((c.toNat:Nat):Int)=48))=.bool (isInt l):=by
 have e1:D.isEmpty=false:=by cases D <;>simp_all
 have e2:D.length<=200:=J
 have E:D.head?=some c:=by rw[List.head?_eq_getElem?];exact hc
 congr 1
 unfold isInt eo
 rw[hb.2]
 simp only[e1,e2,ha,h,E,c48,Bool.not_false,decide_true,decide_false,Bool.and_self,Bool.true_and,Bool.false_or,Bool.and_false,Bool.not_false,Bool.and_true,ne_eq,Option.some.injEq,decide_not]
def nF (ha:(D.take i).all cu=true)(hc:D[i]?=some c)(h:cu c=true):(D.take (i+1)).all cu=true:=by
 have hi:i<D.length:=(List.getElem?_eq_some_iff.1 hc).1
 have E:=(List.getElem?_eq_some_iff.1 hc).2
 rw[List.take_succ_eq_append_getElem hi,List.all_append,ha,E]
 simp[h]
end
structure Dg (w:World)(lo:Nat)(A:Option Addr)(n c a:Nat):Prop where
 row:Rw w lo A (ints (au 10 a))
 len:(au 10 a).length=n
 cap:n<=c
section
variable {w0 w':World}{lo:Nat}{c:Nat}
def Dg.ext (k:aN w w')(h:Dg w lo A n c a):Dg w' lo A n c a:=⟨h.row.ext k,h.len,h.cap⟩
def ac8:=@Dg.ext
def Dg.gr {row:Option Nat}(k:w.grownBy w' row)(hne:∀ad,A=some ad->some ad.block≠row)(h:Dg w lo A n c a):Dg w' lo A n c a:=⟨h.row.gr k hne,h.len,h.cap⟩
def Dg.mono (hl:lo'<=lo)(h:Dg w lo A n c a):Dg w lo' A n c a:=⟨h.row.mono hl,h.len,h.cap⟩
def Dg.lt (h:Dg w lo A n c a):∀x∈au 10 a,x<10:=eM 10 U a
def Dg.val (h:Dg w lo A n c a):bS 10 (au 10 a)=a:=cJ 10 U a
def Dg.zero (w:World)(lo:Nat):Dg w lo none 0 0 0:=⟨Rw.nil w lo,rfl,qa0 _⟩
def Dg.trim {l:List Nat}{m:Nat}(hr:Rw w lo A (ints l))(hd:∀d∈l,d<10)(hv:bS 10 l=a)(ht:dH l=l.take m)(hm:m<=l.length)(hc:m<=c):Dg w lo A m c a:=by
 have h1:au 10 a=l.take m:=by rw[<-ht,<-hv];exact(mw 10 U l hd).symm
 refine⟨?_,?_,hc⟩
 · rw[h1]
   have:=hr.take m
   simpa[ints,List.map_take]using this
 · rw[h1];simp;omega
end
def Ah (hc:d[d.length-1-i]?=some c)(hi:i<d.length):eJ (d.drop (d.length-i))++[c.toNat-48]=eJ (d.drop (d.length-(i+1))):=by
 have hlt:d.length-(i+1)<d.length:=J
 have E:d.drop (d.length-(i+1))=c::d.drop (d.length-i):=by
  rw[List.drop_eq_getElem_cons hlt]
  have e2:d[d.length-(i+1)]?=some c:=by rw[show d.length-(i+1)=d.length-1-i by omega];exact hc
  rw[List.getElem?_eq_getElem hlt]at e2
  rw[Option.some.inj e2,show d.length-(i+1)+1=d.length-i by omega]
 rw[E];simp[eJ]
set_option maxRecDepth 100000 in
def cH (l:List UInt8)(w:World)(hl:l.length<=1000000):
 CL 135 #[S l] w (aH w λv w'=>v=.bool (isInt l)):=by
 refine aC func135 Z (I ?_);by_cases cf:0<(((l).length:Nat):Int);refine I ?_;refine aa (dz (l:=l) U9 Z ?_);refine I ?_;have Av:=dx (l:=l) (i:=0) U;refine aa (ir (l:=l) (i:=0) (c:=(l.getD 0 0)) U9 Z Z Av ?_);refine I ?_;by_cases lr:(((l.getD 0 0).toNat:Nat):Int)=45;have hb:=Ag (dx U) lr;refine I ?_;refine aa (me (l:=l) (i:=1) (j:=(l).length) U9 Z (.inr ⟨_,qb2 some Z⟩) (.inl ⟨rfl,rfl⟩) U U ?_);rw[show((l).take ((l).length)).drop 1=(l).drop 1 by rw[List.take_length]];refine I ?_;refine rU (b:=[48]) (I ?_);by_cases lm:((l).drop 1)=([48]);refine I ?_;exact am (t:=2) (v:=.bool false) Z (aa0 _) q3 Z;refine I ?_;have hlD:((l).drop 1).length<=1000000:=by first|omega|(simp;omega)
 have Ap:=aa0 w;refine ck [(2,3),(16,31)] (λA0 e W=>∃i:Nat,(((l).drop 1).length-i=A0)/\(e 3=.int .i64 i)/\(i<=((l).drop 1).length)/\((((l).drop 1).take i).all cu=true)/\(aN w W)) (((l).drop 1).length-0) ⟨0,rfl,rfl,(qa7 _),rfl,Ap⟩ ?_;rintro _ _ _ ⟨i,rfl,Aw,hi,G,H⟩;by_cases hlt:i<((l).drop 1).length;refine I ?_;refine aa (j9 (l:=(l).drop 1) (m:=((l).drop 1).length) U9 Z Z ?_);refine I ?_;by_cases cv:(((((l).drop 1).getD i 0).toNat:Nat):Int)<48;refine I ?_;have Am:=dx (l:=(l).drop 1) (i:=(i)) U;refine aa (ir (l:=(l).drop 1) (i:=(i)) (c:=(((l).drop 1).getD i 0)) U9 Z Z Am ?_);refine I ?_;exact am (t:=2) (v:=.bool false) Z H q3 Z;refine I ?_;have Ar:=dx (l:=(l).drop 1) (i:=(i)) U;refine aa (ir (l:=(l).drop 1) (i:=(i)) (c:=(((l).drop 1).getD i 0)) U9 Z Z Ar ?_);refine I ?_;have ny:=dx (l:=(l).drop 1) (i:=(i)) U;refine aa (ir (l:=(l).drop 1) (i:=(i)) (c:=(((l).drop 1).getD i 0)) U9 Z Z ny ?_);refine I ?_
 by_cases ly:57<(((((l).drop 1).getD i 0).toNat:Nat):Int);refine I ?_;exact am (t:=2) (v:=.bool false) Z H q3 Z;refine I ?_;refine aa (cG (a:=(i:Int)) (b:=1) (c:=((i+1:Nat):Int)) Z Z j0 U ?_);refine I ?_;exact bJ ⟨i+1,rfl,rfl,U,(by first|exact nF G aj (JE aj aj)),H⟩;have E:((l).drop 1).all cu=true:=by rw[<-List.take_length (l:=(l).drop 1),show((l).drop 1).length=i by omega];exact G
 refine I ?_;refine aa (j9 (l:=(l).drop 1) (m:=((l).drop 1).length) U9 Z Z ?_);refine I ?_;by_cases cr:0<((((l).drop 1).length:Nat):Int);by_cases cw:((((l).drop 1).length:Nat):Int)<=200;refine I ?_;refine aa (dz (l:=(l).drop 1) U9 Z ?_);refine I ?_;refine aa (dz (l:=(l).drop 1) U9 Z ?_);refine I ?_;refine rU (b:=[48]) (I ?_);have od:=dx (l:=(l).drop 1) (i:=0) U;refine aa (ir (l:=(l).drop 1) (i:=0) (c:=(((l).drop 1).getD 0 0)) U9 Z Z od ?_);refine I ?_;exact am (t:=2) (v:=.bool (!decide ((((((l).drop 1).getD 0 0).toNat:Nat):Int)=48))) Z H q3 Z;refine I ?_;refine aa (dz (l:=(l).drop 1) U9 Z ?_);refine I ?_;refine aa (dz (l:=(l).drop 1) U9 Z ?_);refine I ?_
 exact am (t:=2) (v:=.bool false) Z H q3 Z;refine I ?_;refine aa (dz (l:=(l).drop 1) U9 Z ?_);refine I ?_;exact am (t:=2) (v:=.bool false) Z H q3 Z;have hb:=EM (dx U) lr;refine I ?_;have hlD:(l).length<=1000000:=by first|omega|(simp;omega)
 have Ab:=aa0 w;refine ck [(2,3),(16,31)] (λA0 e W=>∃i:Nat,((l).length-i=A0)/\(e 3=.int .i64 i)/\(i<=(l).length)/\(((l).take i).all cu=true)/\(aN w W)) ((l).length-0) ⟨0,rfl,rfl,(qa7 _),rfl,Ab⟩ ?_;rintro _ _ _ ⟨i,rfl,Ay,hi,G,O⟩;by_cases hlt:i<(l).length;refine I ?_;refine aa (j9 (l:=l) (m:=(l).length) U9 Z Z ?_);refine I ?_;by_cases cx:(((l.getD i 0).toNat:Nat):Int)<48;refine I ?_;have Ao:=dx (l:=l) (i:=(i)) U;refine aa (ir (l:=l) (i:=(i)) (c:=(l.getD i 0)) U9 Z Z Ao ?_);refine I ?_;exact am (t:=2) (v:=.bool false) Z O q3 Z;refine I ?_;have Aq:=dx (l:=l) (i:=(i)) U;refine aa (ir (l:=l) (i:=(i)) (c:=(l.getD i 0)) U9 Z Z Aq ?_);refine I ?_;have Af:=dx (l:=l) (i:=(i)) U;refine aa (ir (l:=l) (i:=(i)) (c:=(l.getD i 0)) U9 Z Z Af ?_);refine I ?_;by_cases mq:57<(((l.getD i 0).toNat:Nat):Int);refine I ?_
 exact am (t:=2) (v:=.bool false) Z O q3 Z;refine I ?_;refine aa (cG (a:=(i:Int)) (b:=1) (c:=((i+1:Nat):Int)) Z Z j0 U ?_);refine I ?_;exact bJ ⟨i+1,rfl,rfl,U,(by first|exact nF G aj (JE aj aj)),O⟩;have E:(l).all cu=true:=by rw[<-List.take_length (l:=l),show(l).length=i by omega];exact G
 refine I ?_;refine aa (j9 (l:=l) (m:=(l).length) U9 Z Z ?_);refine I ?_;by_cases cm:(((l).length:Nat):Int)<=200;by_cases cy:l=([48]);refine I ?_;refine aa (dz (l:=l) U9 Z ?_);refine I ?_;refine aa (dz (l:=l) U9 Z ?_);refine I ?_;refine rU (b:=[48]) (I ?_);exact am (t:=2) (v:=.bool true) Z O q3 Z;refine I ?_;refine aa (dz (l:=l) U9 Z ?_);refine I ?_;refine aa (dz (l:=l) U9 Z ?_);refine I ?_;refine rU (b:=[48]) (I ?_);have As:=dx (l:=l) (i:=0) U;refine aa (ir (l:=l) (i:=0) (c:=(l.getD 0 0)) U9 Z Z As ?_);refine I ?_;exact am (t:=2) (v:=.bool (!decide ((((l.getD 0 0).toNat:Nat):Int)=48))) Z O q3 Z;refine I ?_
 refine aa (dz (l:=l) U9 Z ?_);refine I ?_;refine aa (dz (l:=l) U9 Z ?_);refine I ?_;exact am (t:=2) (v:=.bool false) Z O q3 Z;have hb:=JD cf;refine I ?_;refine aa (dz (l:=l) U9 Z ?_);refine I ?_;have hlD:(l).length<=1000000:=by first|omega|(simp;omega)
 have wr:=aa0 w;refine ck [(2,3),(16,31)] (λA0 e W=>∃i:Nat,((l).length-i=A0)/\(e 3=.int .i64 i)/\(i<=(l).length)/\(((l).take i).all cu=true)/\(aN w W)) ((l).length-0) ⟨0,rfl,rfl,(qa7 _),rfl,wr⟩ ?_;rintro _ _ _ ⟨i,rfl,Ax,hi,G,nm⟩;by_cases hlt:i<(l).length;exact absurd hlt U;have E:(l).all cu=true:=by rw[<-List.take_length (l:=l),show(l).length=i by omega];exact G
 refine I ?_;refine aa (j9 (l:=l) (m:=(l).length) U9 Z Z ?_);refine I ?_;refine aa (dz (l:=l) U9 Z ?_);refine I ?_;exact am (t:=2) (v:=.bool false) Z nm q3 Z
set_option maxRecDepth 100000
def kQ (h:isInt l=true):0<l.length/\l.length<=201:=by
 have h1:=kN (ez h)
 cases hn:neg l with
 |true=>have:=tS hn;rw[this];simp;omega
 |false=>rw[o5 hn]at h1;omega
def ul (d:List UInt8):eJ (d.drop (d.length-0))=[]:=by simp[eJ]
def pn (hd:eo d=true)(h:k=d.length/\¬d=[48]\/k=0/\d=[48]):eJ (d.drop (d.length-k))=au 10 (aD d):=by
 rcases h with⟨rfl,h⟩|⟨rfl,rfl⟩
 · rw[Nat.sub_self,List.drop_zero];exact zP hd h
 · rfl
def x8 (h:d.all cu=true)(hi:i<d.length):48<=(d.getD i 0).toNat/\(d.getD i 0).toNat<=57:=by
 have hc:=dx hi
 have:=List.all_eq_true.1 h _ (List.mem_iff_getElem?.2 ⟨i,hc⟩)
 simpa[cu]using this
def qO {v:Value}(h:w.ownsRow base 3 1 v n (ints xs))(hx:xs=au 10 a):∃A c,v=.slice A n c/\Dg w base A n c a:=by
 subst hx
 obtain⟨A,c,rfl,hc,-⟩:=e8 h
 refine⟨A,c,rfl,ab0 h,?_,hc⟩
 have:=h.1
 rw[iY]at this;omega
def Xb (l:List UInt8):List Value:=l.map λb=>Value.int .u8 b.toNat
def um (hn:X.length=n)(hk:k<n):cQ (X.drop (n-(k+1)))=cQ (X.drop (n-k))++[UInt8.ofNat (48+X.getD (n-1-k) 0)]:=by
 have h1:X.drop (n-(k+1))=X.getD (n-(k+1)) 0::X.drop (n-(k+1)+1):=drop_at U
 rw[h1,show n-(k+1)+1=n-k by omega,show n-(k+1)=n-1-k by omega]
 simp[cQ]
def wD {d:Nat}(h:d<10):(((UInt8.ofNat (48+d)).toNat:Nat):Int)=48+(d:Int):=by
 have e:(UInt8.ofNat (48+d)).toNat=48+d:=by rw[UInt8.toNat_ofNat'];omega
 rw[e];omega
def jF (h:∀x∈xs,x<10)(i:Nat):xs.getD i 0<10:=by
 rcases Nat.lt_or_ge i xs.length with hi|hi
 · have E:xs[i]? =some xs[i]:=qa5 hi
   rw[List.getD,E];exact h _ (List.getElem_mem hi)
 · rw[lz hi];omega
def r4 (ng:Bool)(a:Nat):List UInt8:=if a=0 then[48]else if ng then 45::bC a else bC a
def vO (a:Nat):Bool:=decide (a=0)||decide ((au 10 a).length<=200)
def JF (h:a=0):Value.tuple #[S [48],.bool true]=.tuple #[S (r4 ng a),.bool (vO a)]:=by subst h;rfl
def EN (h:0<a)(hn:(au 10 a).length=n)(hl:l=(if ng then[45]else[])++cQ (au 10 a)):Value.tuple #[S l,.bool (decide ((n:Int)<=200))]=.tuple #[S (r4 ng a),.bool (vO a)]:=by
 have e1:r4 ng a=l:=by
  have E:¬a=0:=J
  unfold r4 bC
  rw[if_neg E,if_neg E,hl]
  cases ng <;>rfl
 have e2:vO a=decide ((n:Int)<=200):=by
  have E:¬a=0:=J
  unfold vO;rw[hn,decide_eq_false E,Bool.false_or,decide_eq_decide];omega
 rw[e1,e2]
def EO (B:Nat)(xs:List Nat)(h:j<xs.length):bS B xs=bS B (xs.take j)+B^j*(xs.getD j 0+B*bS B (xs.drop (j+1))):=by
 conv=>lhs;rw[<-List.take_append_drop j xs]
 rw[cj,List.length_take,Nat.min_eq_left U,drop_at h]
 rfl
def wE (hn:X.length=n)(hm:Y.length=n)(h:∀i,j<=i->i<n->X.getD i 0=Y.getD i 0):X.drop j=Y.drop j:=by
 apply List.ext_getElem?
 intro i
 rw[List.getElem?_drop,List.getElem?_drop]
 by_cases hi:j+i<n
 · have:=h (j+i) U hi
   rw[List.getD,List.getD,List.getElem?_eq_getElem U,List.getElem?_eq_getElem U]at this
   rw[List.getElem?_eq_getElem U,List.getElem?_eq_getElem U]
   exact qb2 some this
 · rw[List.getElem?_eq_none U,List.getElem?_eq_none U]
def JG (hX:∀d∈X,d<10)(hn:X.length=n)(hm:Y.length=n)(hj:j<n)(h:∀i,j+1<=i->i<n->X.getD i 0=Y.getD i 0)(hl:X.getD j 0<Y.getD j 0):bS 10 X<bS 10 Y:=by
 rw[EO 10 X (show j<X.length by omega),EO 10 Y (show j<Y.length by omega),wE (n:=n) (j:=j+1) hn hm h]
 have h1:bS 10 (X.take j)<10^j:=by
  have:=lj 10 (X.take j) (λd hd=>hX d (List.mem_of_mem_take hd))
  rwa [List.length_take,Nat.min_eq_left U]at this
 have h2:10^j*(X.getD j 0+10*bS 10 (Y.drop (j+1))+1)<=10^j*(Y.getD j 0+10*bS 10 (Y.drop (j+1))):=Nat.mul_le_mul_left _ U
 rw[Nat.mul_add,Nat.mul_one]at h2
 omega
section
def Ai (h1:(au 10 a).length=n1)(h2:(au 10 b).length=n2)(h:n1<n2):a<b:=by
 rcases Nat.lt_or_ge a b with h3|h3
 · exact h3
 · have:=ey (B:=10) U h3;omega
def un (h1:(au 10 a).length=n1)(h2:(au 10 b).length=n2)(h:n1<n2):(-1:Int)=aQ (a:Int) (b:Int):=by
 rw[gd];have:=Ai h1 h2 h;omega
def uo (h1:(au 10 a).length=n1)(h2:(au 10 b).length=n2)(h:n2<n1):(1:Int)=aQ (a:Int) (b:Int):=by
 rw[eT];have:=Ai h2 h1 h;omega
def po (h1:(au 10 a).length=n1)(h2:(au 10 b).length=n2)(hn:n1=n2)(hk:k<n1)(h:∀i,n1-k<=i->i<n1->(au 10 a).getD i 0=(au 10 b).getD i 0)(hl:(au 10 a).getD (n1-1-k) 0<(au 10 b).getD (n1-1-k) 0):(-1:Int)=aQ (a:Int) (b:Int):=by
 subst hn
 have:=JG (eM 10 U a) h1 h2 (j:=n1-1-k) U (λi _=>h i U) hl
 rw[cJ 10 U,cJ 10 U]at this
 rw[gd];omega
def pp (h1:(au 10 a).length=n1)(h2:(au 10 b).length=n2)(hn:n1=n2)(hk:k<n1)(h:∀i,n1-k<=i->i<n1->(au 10 a).getD i 0=(au 10 b).getD i 0)(hl:(au 10 b).getD (n1-1-k) 0<(au 10 a).getD (n1-1-k) 0):(1:Int)=aQ (a:Int) (b:Int):=by
 subst hn
 have:=JG (eM 10 U b) h2 h1 (j:=n1-1-k) U (λi _ E=>(h i U E).symm) hl
 rw[cJ 10 U,cJ 10 U]at this
 rw[eT];omega
def us (h1:(au 10 a).length=n1)(h2:(au 10 b).length=n2)(hn:n1=n2)(h:∀i,i<n1->(au 10 a).getD i 0=(au 10 b).getD i 0):(0:Int)=aQ (a:Int) (b:Int):=by
 subst hn
 have e:=wE (j:=0) h1 h2 (λi _ hi=>h i hi)
 simp only[List.drop_zero]at e
 have:=qb2 (bS 10) e
 rw[cJ 10 U,cJ 10 U]at this
 rw[jy];omega
end
def eL (l:List UInt8)(w:World)(h:isInt l=true):
 CL 177 #[S l] w (aH w λv w'=>∃A n c,v=.tuple #[.bool (neg l),.slice A n c]/\Dg w' w.heap.size A n c (aD (body l))):=by
 have hl:=kQ h;have Aq:=ez h;refine aC func177 Z (I ?_);have B0:=dx (l:=l) (i:=0) U;refine aa (ir (l:=l) (i:=0) (c:=(l.getD 0 0)) U9 Z Z B0 ?_);refine I ?_;by_cases cw:(((l.getD 0 0).toNat:Nat):Int)=45;have hb:=Ag (dx U) cw;have Ab:neg l=true:=hb.1;have hD:eo ((l).drop 1)=true:=by rw[<-hb.2];exact Aq
 have hlD:=kN hD;have hdD:=jO hD;have hvD:aD (body l)=aD ((l).drop 1):=by rw[hb.2]
 refine I ?_;refine aa (me (l:=l) (i:=1) (j:=(l).length) U9 Z (.inr ⟨_,qb2 some Z⟩) (.inl ⟨rfl,rfl⟩) U U ?_);rw[show((l).take ((l).length)).drop 1=(l).drop 1 by rw[List.take_length]];refine I ?_;refine aa (dz (l:=(l).drop 1) U9 Z ?_);refine qF (I ?_);have Af:World.ownsRow w w.heap.size 3 1 (.slice none 0 0) 0 (ints (eJ (((l).drop 1).drop (((l).drop 1).length-0)))):=by rw[ul];exact bO
 have Cr:=aa0 w;refine ck [(5,6),(16,31)] (λAm e W=>∃k:Nat,∃G:Value,(((l).drop 1).length-k=Am)/\(e 6=.int .i64 (((((l).drop 1).length:Nat):Int)-1-(k:Int)))/\(e 5=G)/\(k<=((l).drop 1).length)/\((l).drop 1=[48]->k=0)/\(aN w W)/\(W.ownsRow w.heap.size 3 1 G k (ints (eJ (((l).drop 1).drop (((l).drop 1).length-k)))))) (((l).drop 1).length-0) ⟨0,.slice none 0 0,rfl,(qb2 (Value.int .i64) U),rfl,(qa7 _),(λ_=>rfl),Cr,Af⟩ ?_;rintro _ _ _ ⟨k,G,rfl,E0,Ay,hk,h4,O,ho⟩;have D2:=bz O;by_cases h48:(l).drop 1=[48];by_cases hlt:k<((l).drop 1).length;obtain⟨Ao,E,rfl,A0⟩:=qO ho (pn hD DB);refine I ?_;refine aa (s9 (a:=(l).drop 1) (b:=[48]) (q:=false) Z Z (by rw[decide_eq_true h48];rfl) ?_);refine I ?_;exact bF (t:=2) (u:=3) (v1:=.bool (decide ((((l.getD 0 0).toNat:Nat):Int)=45))) (v2:=.slice Ao k E) Z O ⟨Ao,k,E,by rw[Ab,decide_eq_true BT],by rw[hvD];exact A0⟩ Z Z;exfalso;have B2:=h4 h48;have CY:((l).drop 1).length=1:=by rw[h48];rfl
 omega;by_cases hlt:k<((l).drop 1).length;have hlD1:=hlD.1;refine I ?_;refine aa (s9 (a:=(l).drop 1) (b:=[48]) (q:=true) Z Z (by rw[decide_eq_false h48];rfl) ?_);refine I ?_;refine aa (aY (v:=G) Ay ?_);refine I ?_;have nm:=dx (l:=(l).drop 1) (i:=((l).drop 1).length-1-k) U;refine aa (ir (l:=(l).drop 1) (i:=((l).drop 1).length-1-k) (c:=(((l).drop 1).getD (((l).drop 1).length-1-k) 0)) U9 Z (dA Z U) nm ?_);refine aa (IP (k:=.u8) (a:=(((((l).drop 1).getD (((l).drop 1).length-1-k) 0).toNat:Nat):Int)) (b:=48) (c:=(((((l).drop 1).getD (((l).drop 1).length-1-k) 0).toNat-48:Nat):Int)) Z Z (by have:=x8 hdD (i:=((l).drop 1).length-1-k) U;rw[wrap_u8 U];omega) ?_);refine aa (qt (k:=.u8) (k':=.i64) (a:=(((((l).drop 1).getD (((l).drop 1).length-1-k) 0).toNat-48:Nat):Int)) (c:=(((((l).drop 1).getD (((l).drop 1).length-1-k) 0).toNat-48:Nat):Int)) U5 U3 Z (by have:=x8 hdD (i:=((l).drop 1).length-1-k) U;rw[wrap_i64 U]) ?_);refine BS (λ_ Ar _ CG=>?_);have ho:=ab Ar ho;have O:=xt O Ar;refine AP ho (ab0 CG) (λAs _ C0 Az _=>?_);have O:=bB ho U U O Az;refine aa (aJ (v:=As) Z ?_);refine I ?_
 refine aa (jq (a:=((((l).drop 1).length:Nat):Int)-1-(k:Int)) (b:=1) (c:=((((l).drop 1).length:Nat):Int)-1-((k+1:Nat):Int)) Z Z j0 U ?_);refine I ?_;exact bJ ⟨k+1,As,rfl,rfl,rfl,U,(λh=>absurd h h48),O,(aP C0 Z (by rw[<-Ah (dx U) U,mA];rfl))⟩;obtain⟨Ao,E,rfl,A0⟩:=qO ho (pn hD DB);refine I ?_;exact bF (t:=2) (u:=3) (v1:=.bool (decide ((((l.getD 0 0).toNat:Nat):Int)=45))) (v2:=.slice Ao k E) Z O ⟨Ao,k,E,by rw[Ab,decide_eq_true BT],by rw[hvD];exact A0⟩ Z Z;have hb:=EM (dx U) cw;have Ab:neg l=false:=hb.1;have hD:eo l=true:=by rw[<-hb.2];exact Aq
 have hlD:=kN hD;have hdD:=jO hD;have hvD:aD (body l)=aD (l):=by rw[hb.2]
 refine I ?_;refine aa (dz (l:=l) U9 Z ?_);refine qF (I ?_);have Af:World.ownsRow w w.heap.size 3 1 (.slice none 0 0) 0 (ints (eJ ((l).drop ((l).length-0)))):=by rw[ul];exact bO
 have Aw:=aa0 w;refine ck [(5,6),(16,31)] (λAm e W=>∃k:Nat,∃G:Value,((l).length-k=Am)/\(e 6=.int .i64 ((((l).length:Nat):Int)-1-(k:Int)))/\(e 5=G)/\(k<=(l).length)/\(l=[48]->k=0)/\(aN w W)/\(W.ownsRow w.heap.size 3 1 G k (ints (eJ ((l).drop ((l).length-k)))))) ((l).length-0) ⟨0,.slice none 0 0,rfl,(qb2 (Value.int .i64) U),rfl,(qa7 _),(λ_=>rfl),Aw,Af⟩ ?_;rintro _ _ _ ⟨k,G,rfl,D1,B1,hk,h4,H,ho⟩;have E1:=bz H;by_cases h48:l=[48];by_cases hlt:k<(l).length;obtain⟨Ao,E,rfl,A0⟩:=qO ho (pn hD DH);refine I ?_;refine aa (s9 (a:=l) (b:=[48]) (q:=false) Z Z (by rw[decide_eq_true h48];rfl) ?_);refine I ?_;exact bF (t:=2) (u:=3) (v1:=.bool (decide ((((l.getD 0 0).toNat:Nat):Int)=45))) (v2:=.slice Ao k E) Z H ⟨Ao,k,E,by rw[Ab,decide_eq_false BT],by rw[hvD];exact A0⟩ Z Z;exfalso;have B2:=h4 h48;have CY:(l).length=1:=by rw[h48];rfl
 omega;by_cases hlt:k<(l).length;have hlD1:=hlD.1;refine I ?_;refine aa (s9 (a:=l) (b:=[48]) (q:=true) Z Z (by rw[decide_eq_false h48];rfl) ?_);refine I ?_;refine aa (aY (v:=G) B1 ?_);refine I ?_;have CB:=dx (l:=l) (i:=(l).length-1-k) U;refine aa (ir (l:=l) (i:=(l).length-1-k) (c:=(l.getD ((l).length-1-k) 0)) U9 Z (dA Z U) CB ?_);refine aa (IP (k:=.u8) (a:=(((l.getD ((l).length-1-k) 0).toNat:Nat):Int)) (b:=48) (c:=((((l).getD ((l).length-1-k) 0).toNat-48:Nat):Int)) Z Z (by have:=x8 hdD (i:=(l).length-1-k) U;rw[wrap_u8 U];omega) ?_);refine aa (qt (k:=.u8) (k':=.i64) (a:=((((l).getD ((l).length-1-k) 0).toNat-48:Nat):Int)) (c:=((((l).getD ((l).length-1-k) 0).toNat-48:Nat):Int)) U5 U3 Z (by have:=x8 hdD (i:=(l).length-1-k) U;rw[wrap_i64 U]) ?_);refine BS (λ_ Av _ ny=>?_);have ho:=ab Av ho;have H:=xt H Av;refine AP ho (ab0 ny) (λAp _ od Ax _=>?_);have H:=bB ho U U H Ax;refine aa (aJ (v:=Ap) Z ?_);refine I ?_;refine aa (jq (a:=(((l).length:Nat):Int)-1-(k:Int)) (b:=1) (c:=(((l).length:Nat):Int)-1-((k+1:Nat):Int)) Z Z j0 U ?_);refine I ?_
 exact bJ ⟨k+1,Ap,rfl,rfl,rfl,U,(λh=>absurd h h48),H,(aP od Z (by rw[<-Ah (dx U) U,mA];rfl))⟩;obtain⟨Ao,E,rfl,A0⟩:=qO ho (pn hD DH);refine I ?_;exact bF (t:=2) (u:=3) (v1:=.bool (decide ((((l.getD 0 0).toNat:Nat):Int)=45))) (v2:=.slice Ao k E) Z H ⟨Ao,k,E,by rw[Ab,decide_eq_false BT],by rw[hvD];exact A0⟩ Z Z
def kR (h1:Dg w lo1 A1 n1 c1 a)(s1:n1<=100000)(ng:Bool):
 CL 140 #[.bool ng,.slice A1 n1 c1] w (aH w λv w'=>v=.tuple #[S (r4 ng a),.bool (vO a)]):=by
 have e1:=h1.len;refine aC func140 Z (I ?_);by_cases ly:(n1:Int)=0;have A0:a=0:=jw (B:=10) U (h1.len.trans U);refine I ?_;exact bF (t:=4) (u:=5) (v1:=S [48]) (v2:=.bool true) Z (aa0 _) (JF A0) Z Z;have A0:0<a:=mD (B:=10) U kb4;have O:World.ownsRow w w.heap.size 5 1 (.slice none 0 0) 0 (Xb []):=bO;refine I ?_;rcases qa4 ng with cr|cr;refine I ?_;refine BS (λ_ Ap _ B2=>?_);have O:=ab Ap O;have Aq:=Ap;have G0:=bz Ap;refine AP O (ab0 B2) (λAy _ D2 nm _=>?_);have Aq:=bB O U U Aq nm;refine aa (aJ (v:=Ay) Z ?_);refine I ?_;refine qF (I ?_);refine ck [(6,7),(18,30)] (λAb e W=>∃k:Nat,∃E:Value,(n1-k=Ab)/\(e 7=.int .i64 ((n1:Int)-1-(k:Int)))/\(e 6=E)/\(k<=n1)/\(aN w W)/\(W.ownsRow w.heap.size 5 1 E (k+1) (Xb ([45]++cQ ((au 10 a).drop (n1-k)))))) (n1-0) ⟨0,Ay,rfl,(qb2 (Value.int .i64) U),rfl,(qa7 _),Aq,(aP D2 zd (by rw[Nat.sub_zero,List.drop_eq_nil_of_le U];rfl))⟩ ?_;rintro _ _ _ ⟨k,E,rfl,ES,E7,hk,H,ho⟩;have E9:=bz H;by_cases hlt:k<n1;have CY:=jF h1.lt (n1-1-k);refine I ?_;refine aa (aY (v:=E) E7 ?_)
 refine I ?_;obtain⟨E1,Ax,CG,D1⟩:=((h1.row).ext H).cells (n1-1-k) _ (bG (xs:=(au 10 a)) U);refine aa (aA (i:=n1-1-k) (oo:=Ax+(n1-1-k)) kB ji Z CG (dA Z U) U GS ?_);refine aa (bn (v:=.int .i64 (((au 10 a).getD (n1-1-k) 0:Nat):Int)) (b:=E1) (o:=Ax+(n1-1-k)) U3 Z Z D1 ?_);refine gR ?_;refine aa (qt (k:=.i64) (k':=.u8) (a:=48+((((au 10 a).getD (n1-1-k) 0):Nat):Int)) (c:=(((UInt8.ofNat (48+((au 10 a).getD (n1-1-k) 0))).toNat:Nat):Int)) U3 U5 Z ka9 ?_);refine BS (λ_ Az _ wr=>?_);have ho:=ab Az ho;have H:=xt H Az;refine AP ho (ab0 wr) (λAs _ C0 E4 _=>?_);have H:=bB ho U U H E4;refine aa (aJ (v:=As) Z ?_);refine I ?_;refine aa (jq (a:=(n1:Int)-1-(k:Int)) (b:=1) (c:=(n1:Int)-1-((k+1:Nat):Int)) Z Z j0 U ?_);refine I ?_;exact bJ ⟨k+1,As,rfl,rfl,rfl,U,H,(aP C0 U (by rw[um h1.len U];simp[Xb]))⟩;obtain⟨Ao,Am,rfl,Cr,-⟩:=e8 ho;have Af:([45]++cQ ((au 10 a).drop (n1-k)))=(if true=true then[45]else[])++cQ (au 10 a):=by rw[show n1-k=0 by omega,List.drop_zero];rfl
 refine I ?_;refine aa (QJ (l:=[45]++cQ ((au 10 a).drop (n1-k))) (A:=Ao) (m:=(k+1)) (c:=Am) Vy U5 U9 Z (ab0 ho) (by simp[cN];rw[h1.len];omega) ?_);refine I ?_;exact bF (t:=4) (u:=5) (v1:=S ([45]++cQ ((au 10 a).drop (n1-k)))) (v2:=.bool (decide ((n1:Int)<=200))) Z H (EN (ng:=ng) A0 h1.len (by rw[cr];exact Af)) Z Z;refine I ?_;refine qF (I ?_);have E6:=aa0 w;refine ck [(6,7),(18,30)] (λAb e W=>∃k:Nat,∃E:Value,(n1-k=Ab)/\(e 7=.int .i64 ((n1:Int)-1-(k:Int)))/\(e 6=E)/\(k<=n1)/\(aN w W)/\(W.ownsRow w.heap.size 5 1 E (k+0) (Xb (cQ ((au 10 a).drop (n1-k)))))) (n1-0) ⟨0,.slice none 0 0,rfl,(qb2 (Value.int .i64) U),rfl,(qa7 _),E6,(aP O zd (by rw[Nat.sub_zero,List.drop_eq_nil_of_le U];rfl))⟩ ?_;rintro _ _ _ ⟨k,E,rfl,EW,ny,hk,G,ho⟩;have FR:=bz G;by_cases hlt:k<n1;have CY:=jF h1.lt (n1-1-k);refine I ?_;refine aa (aY (v:=E) ny ?_);refine I ?_;obtain⟨od,Av,B0,B1⟩:=((h1.row).ext G).cells (n1-1-k) _ (bG (xs:=(au 10 a)) U);refine aa (aA (i:=n1-1-k) (oo:=Av+(n1-1-k)) kB ji Z B0 (dA Z U) U GS ?_);refine aa (bn (v:=.int .i64 (((au 10 a).getD (n1-1-k) 0:Nat):Int)) (b:=od) (o:=Av+(n1-1-k)) U3 Z Z B1 ?_);refine gR ?_
 refine aa (qt (k:=.i64) (k':=.u8) (a:=48+((((au 10 a).getD (n1-1-k) 0):Nat):Int)) (c:=(((UInt8.ofNat (48+((au 10 a).getD (n1-1-k) 0))).toNat:Nat):Int)) U3 U5 Z ka9 ?_);refine BS (λ_ Aw _ CB=>?_);have ho:=ab Aw ho;have G:=xt G Aw;refine AP ho (ab0 CB) (λAr _ E5 E0 _=>?_);have G:=bB ho U U G E0;refine aa (aJ (v:=Ar) Z ?_);refine I ?_;refine aa (jq (a:=(n1:Int)-1-(k:Int)) (b:=1) (c:=(n1:Int)-1-((k+1:Nat):Int)) Z Z j0 U ?_);refine I ?_;exact bJ ⟨k+1,Ar,rfl,rfl,rfl,U,G,(aP E5 U (by rw[um h1.len U];simp[Xb]))⟩;obtain⟨Ao,Am,rfl,Cr,-⟩:=e8 ho;have Af:(cQ ((au 10 a).drop (n1-k)))=(if false=true then[45]else[])++cQ (au 10 a):=by rw[show n1-k=0 by omega,List.drop_zero];rfl
 refine I ?_;refine aa (QJ (l:=cQ ((au 10 a).drop (n1-k))) (A:=Ao) (m:=(k+0)) (c:=Am) Vy U5 U9 Z (ab0 ho) (by simp[cN];rw[h1.len];omega) ?_);refine I ?_;exact bF (t:=4) (u:=5) (v1:=S (cQ ((au 10 a).drop (n1-k)))) (v2:=.bool (decide ((n1:Int)<=200))) Z G (EN (ng:=ng) A0 h1.len (by rw[cr];exact Af)) Z Z
def qP {c lo:Nat}(hr:Rw w lo A (ints xs))(hn:xs.length=n)(hc:n<=c)(hb:n<=1000000):
 CL 217 #[.slice A n c] w (aH w λv w'=>∃m,v=.slice A m c/\dH xs=xs.take m/\m<=n):=by
 refine aC func217 Z (I ?_);have Ab:=aa0 w;refine ck [(0,0),(3,19)] (λAf e W=>∃m:Nat,(m=Af)/\(e 0=.slice A m c)/\(m<=n)/\(dH xs=dH (xs.take m))/\(aN w W)) (n) ⟨n,rfl,rfl,(qa0 _),(by rw[List.take_of_length_le U]),Ab⟩ ?_;rintro _ _ _ ⟨m,rfl,As,q1,G,E⟩;by_cases hm:0<m;by_cases hz:xs.getD (m-1) 0=0;refine I ?_;refine qF (I ?_);obtain⟨Ar,O,Am,Aq⟩:=((hr).ext E).cells (m-1) _ (bG (xs:=xs) U);refine aa (aA (i:=m-1) (oo:=O+(m-1)) kB ji Z Am (dA Z U) U GS ?_);refine I ?_;refine aa (bn (v:=.int .i64 ((xs.getD (m-1) 0:Nat):Int)) (b:=Ar) (o:=O+(m-1)) U3 Z Z Aq ?_);refine I ?_;refine qF ?_;refine aa (re (j:=m-1) kB ji Z (dA Z U) U ?_);refine I ?_;exact bJ ⟨m-1,rfl,rfl,U,(G.trans (wn (n:=n) U hz)),E⟩;refine I ?_;refine qF (I ?_);obtain⟨Ap,H,Ao,A0⟩:=((hr).ext E).cells (m-1) _ (bG (xs:=xs) U);refine aa (aA (i:=m-1) (oo:=H+(m-1)) kB ji Z Ao (dA Z U) U GS ?_);refine I ?_;refine aa (bn (v:=.int .i64 ((xs.getD (m-1) 0:Nat):Int)) (b:=Ap) (o:=H+(m-1)) U3 Z Z A0 ?_);refine I ?_
 exact am (t:=2) (v:=.slice A m c) Z E ⟨m,rfl,G.trans (mT (n:=n) U CT),by omega⟩ Z;refine I ?_;exact am (t:=2) (v:=.slice A m c) Z E ⟨m,rfl,G.trans (mT (n:=n) U CT),by omega⟩ Z
def jS (h1:Dg w lo1 A1 n1 c1 a)(s1:n1<=100000)(h2:Dg w lo2 A2 n2 c2 b)(s2:n2<=100000):
 CL 178 #[.slice A1 n1 c1,.slice A2 n2 c2] w (aH w λv w'=>v=.int .i64 (aQ (a:Int) (b:Int))):=by
 have e1:=h1.len;have e2:=h2.len;refine aC func178 Z (I ?_);by_cases p6:(n1:Int)=(n2:Int);have H4:n1=n2:=J
 refine I ?_;refine qF (I ?_);have FR:=aa0 w;refine ck [(4,5),(19,40)] (λE0 e W=>∃k:Nat,(n1-k=E0)/\(e 5=.int .i64 ((n1:Int)-1-(k:Int)))/\(k<=n1)/\(∀i,n1-k<=i->i<n1->(au 10 a).getD i 0=(au 10 b).getD i 0)/\(aN w W)) (n1-0) ⟨0,rfl,(qb2 (Value.int .i64) U),(qa7 _),(λi h1 h2=>by omega),FR⟩ ?_;rintro _ _ _ ⟨k,rfl,H3,q1,G,E⟩;by_cases hlt:k<n1;by_cases he:(au 10 a).getD (n1-1-k) 0=(au 10 b).getD (n1-1-k) 0;have B0:n1-1-k<n1:=J
 obtain⟨E6,CB,G0,Aq⟩:=((h1.row).ext E).cells (n1-1-k) _ (bG (xs:=(au 10 a)) U);obtain⟨E7,B1,D2,Ar⟩:=((h2.row).ext E).cells (n1-1-k) _ (bG (xs:=(au 10 b)) U);refine I ?_;refine bP 8 ?_;refine sf ?_;refine aB (λ_ _ _ _=>by refine aa (aA (i:=n1-1-k) (oo:=CB+(n1-1-k)) kB ji Z G0 (dA Z U) U GS ?_);refine I ?_;exact aK) ?_;refine aB (λ_ _ GC _=>by have Aq:=Cf.ext GC Aq;refine aa (bn (v:=.int .i64 (((au 10 a).getD (n1-1-k) 0:Nat):Int)) (b:=E6) (o:=CB+(n1-1-k)) U3 Z Z Aq ?_);refine I ?_;exact aK) ?_;refine sf ?_;refine aB (λ_ _ _ _=>by refine aa (aA (i:=n1-1-k) (oo:=B1+(n1-1-k)) kB ji Z D2 (dA Z U) U GS ?_);refine I ?_;exact aK) ?_;refine aB (λ_ _ E5 _=>by have Ar:=Cf.ext E5 Ar;refine aa (bn (v:=.int .i64 (((au 10 b).getD (n1-1-k) 0:Nat):Int)) (b:=E7) (o:=B1+(n1-1-k)) U3 Z Z Ar ?_);refine I ?_;exact aK) ?_;refine sf ?_;intro _ _ D1 _;have E:=xt E D1.2;refine I ?_;refine aa (jq (a:=(n1:Int)-1-(k:Int)) (b:=1) (c:=(n1:Int)-1-((k+1:Nat):Int)) Z Z j0 U ?_);refine I ?_;exact bJ ⟨k+1,rfl,rfl,U,(λi hi h=>by by_cases hik:i=n1-1-k;subst hik;omega;exact G i U h),E⟩
 by_cases hl:(au 10 a).getD (n1-1-k) 0<(au 10 b).getD (n1-1-k) 0;have B0:n1-1-k<n1:=J
 obtain⟨Ax,Ap,Av,A0⟩:=((h1.row).ext E).cells (n1-1-k) _ (bG (xs:=(au 10 a)) U);obtain⟨Az,Ao,B2,O⟩:=((h2.row).ext E).cells (n1-1-k) _ (bG (xs:=(au 10 b)) U);refine I ?_;refine bP 8 ?_;refine sf ?_;refine aB (λ_ _ _ _=>by refine aa (aA (i:=n1-1-k) (oo:=Ap+(n1-1-k)) kB ji Z Av (dA Z U) U GS ?_);refine I ?_;exact aK) ?_;refine aB (λ_ _ CY _=>by have A0:=Cf.ext CY A0;refine aa (bn (v:=.int .i64 (((au 10 a).getD (n1-1-k) 0:Nat):Int)) (b:=Ax) (o:=Ap+(n1-1-k)) U3 Z Z A0 ?_);refine I ?_;exact aK) ?_;refine sf ?_;refine aB (λ_ _ _ _=>by refine aa (aA (i:=n1-1-k) (oo:=Ao+(n1-1-k)) kB ji Z B2 (dA Z U) U GS ?_);refine I ?_;exact aK) ?_;refine aB (λ_ _ Cr _=>by have O:=Cf.ext Cr O;refine aa (bn (v:=.int .i64 (((au 10 b).getD (n1-1-k) 0:Nat):Int)) (b:=Az) (o:=Ao+(n1-1-k)) U3 Z Z O ?_);refine I ?_;exact aK) ?_;refine sf ?_;intro _ _ As _;have A0:=Cf.ext As.2 A0;have O:=Cf.ext As.2 O;have E:=xt E As.2;refine I ?_;refine bP 8 ?_;refine sf ?_;refine aB (λ_ _ _ _=>by refine aa (aA (i:=n1-1-k) (oo:=Ap+(n1-1-k)) kB ji Z Av (dA Z U) U GS ?_);refine I ?_;exact aK) ?_
 refine aB (λ_ _ E4 _=>by have A0:=Cf.ext E4 A0;refine aa (bn (v:=.int .i64 (((au 10 a).getD (n1-1-k) 0:Nat):Int)) (b:=Ax) (o:=Ap+(n1-1-k)) U3 Z Z A0 ?_);refine I ?_;exact aK) ?_;refine sf ?_;refine aB (λ_ _ _ _=>by refine aa (aA (i:=n1-1-k) (oo:=Ao+(n1-1-k)) kB ji Z B2 (dA Z U) U GS ?_);refine I ?_;exact aK) ?_;refine aB (λ_ _ EW _=>by have O:=Cf.ext EW O;refine aa (bn (v:=.int .i64 (((au 10 b).getD (n1-1-k) 0:Nat):Int)) (b:=Az) (o:=Ao+(n1-1-k)) U3 Z Z O ?_);refine I ?_;exact aK) ?_;refine sf ?_;intro _ _ ny _;have E:=xt E ny.2;refine I ?_;exact am (t:=4) (v:=.int .i64 (-1)) Z E (qb2 (Value.int .i64) JT) Z;have B0:n1-1-k<n1:=J
 obtain⟨C0,Am,Ay,Ab⟩:=((h1.row).ext E).cells (n1-1-k) _ (bG (xs:=(au 10 a)) U);obtain⟨nm,Af,Aw,H⟩:=((h2.row).ext E).cells (n1-1-k) _ (bG (xs:=(au 10 b)) U);refine I ?_;refine bP 8 ?_;refine sf ?_;refine aB (λ_ _ _ _=>by refine aa (aA (i:=n1-1-k) (oo:=Am+(n1-1-k)) kB ji Z Ay (dA Z U) U GS ?_);refine I ?_;exact aK) ?_;refine aB (λ_ _ E1 _=>by have Ab:=Cf.ext E1 Ab;refine aa (bn (v:=.int .i64 (((au 10 a).getD (n1-1-k) 0:Nat):Int)) (b:=C0) (o:=Am+(n1-1-k)) U3 Z Z Ab ?_);refine I ?_;exact aK) ?_;refine sf ?_;refine aB (λ_ _ _ _=>by refine aa (aA (i:=n1-1-k) (oo:=Af+(n1-1-k)) kB ji Z Aw (dA Z U) U GS ?_);refine I ?_;exact aK) ?_;refine aB (λ_ _ E9 _=>by have H:=Cf.ext E9 H;refine aa (bn (v:=.int .i64 (((au 10 b).getD (n1-1-k) 0:Nat):Int)) (b:=nm) (o:=Af+(n1-1-k)) U3 Z Z H ?_);refine I ?_;exact aK) ?_;refine sf ?_;intro _ _ od _;have Ab:=Cf.ext od.2 Ab;have H:=Cf.ext od.2 H;have E:=xt E od.2;refine I ?_;refine bP 8 ?_;refine sf ?_;refine aB (λ_ _ _ _=>by refine aa (aA (i:=n1-1-k) (oo:=Am+(n1-1-k)) kB ji Z Ay (dA Z U) U GS ?_);refine I ?_;exact aK) ?_
 refine aB (λ_ _ H2 _=>by have Ab:=Cf.ext H2 Ab;refine aa (bn (v:=.int .i64 (((au 10 a).getD (n1-1-k) 0:Nat):Int)) (b:=C0) (o:=Am+(n1-1-k)) U3 Z Z Ab ?_);refine I ?_;exact aK) ?_;refine sf ?_;refine aB (λ_ _ _ _=>by refine aa (aA (i:=n1-1-k) (oo:=Af+(n1-1-k)) kB ji Z Aw (dA Z U) U GS ?_);refine I ?_;exact aK) ?_;refine aB (λ_ _ ES _=>by have H:=Cf.ext ES H;refine aa (bn (v:=.int .i64 (((au 10 b).getD (n1-1-k) 0:Nat):Int)) (b:=nm) (o:=Af+(n1-1-k)) U3 Z Z H ?_);refine I ?_;exact aK) ?_;refine sf ?_;intro _ _ CG _;have E:=xt E CG.2;refine I ?_;exact am (t:=4) (v:=.int .i64 1) Z E (qb2 (Value.int .i64) JT) Z;refine I ?_;exact am (t:=4) (v:=.int .i64 0) Z E (qb2 (Value.int .i64) JT) Z;refine I ?_;by_cases apl:(n1:Int)<(n2:Int);refine I ?_
 exact am (t:=4) (v:=.int .i64 (-1)) Z (aa0 _) (qb2 (Value.int .i64) JT) Z;refine I ?_;exact am (t:=4) (v:=.int .i64 1) Z (aa0 _) (qb2 (Value.int .i64) JT) Z
end Go.Proofs.YtlmihmlnpjkblaaGreatDoor
def c6 {xs:List Nat}{i:Nat}(h:xs.length<=i):xs.getD i 0=0:=by simp[List.getD,List.getElem?_eq_none h]
def fh (B:Nat)(xs:List Nat)(k:Nat):bS B (xs.take (k+1))=bS B (xs.take k)+B^k*xs.getD k 0:=by
 rcases Nat.lt_or_ge k xs.length with h|h
 · rw[List.take_succ_eq_append_getElem h,cj,List.length_take,Nat.min_eq_left J]
   simp[bS,List.getD,h]
 · rw[List.take_of_length_le J,List.take_of_length_le h,c6 h];simp
def gL (X Y:List Nat):Nat->Nat×List Nat
 |0=>(0,[])
 |k+1=>(((gL X Y k).1+X.getD k 0+Y.getD k 0)/10,(gL X Y k).2++[((gL X Y k).1+X.getD k 0+Y.getD k 0)%10])
def x9 (X Y:List Nat):∀k,(gL X Y k).2.length=k
 |0=>rfl
 |k+1=>by simp[gL,x9 X Y k]
def JH (X Y:List Nat):∀k,∀d∈(gL X Y k).2,d<10
 |0=>by simp[gL]
 | k+1=>by
   intro d hd
   rcases List.mem_append.1 hd with h|h
   · exact JH X Y k d h
   · rw[List.mem_singleton.1 h];exact Nat.mod_lt _ J
def dy {X Y:List Nat}(hX:∀i,X.getD i 0<10)(hY:∀i,Y.getD i 0<10):∀k,(gL X Y k).1<=1
 |0=>by simp[gL]
 |k+1=>by have:=dy hX hY k;have:=hX k;have:=hY k;simp only[gL];omega
def ya (X Y:List Nat):∀k,bS 10 (gL X Y k).2+10^k*(gL X Y k).1=bS 10 (X.take k)+bS 10 (Y.take k)
 |0=>by simp[gL,bS]
 | k+1=>by
   have ih:=ya X Y k
   simp only[gL]
   rw[cj,x9,fh,fh,Nat.pow_succ]
   have E:=Nat.div_add_mod ((gL X Y k).1+X.getD k 0+Y.getD k 0) 10
   simp only[bS]
   generalize ((gL X Y k).1+X.getD k 0+Y.getD k 0)/10=u at *
   generalize ((gL X Y k).1+X.getD k 0+Y.getD k 0)%10=v at *
   generalize X.getD k 0=x at *
   generalize Y.getD k 0=y at *
   generalize (gL X Y k).1=c at *
   grind
def ki {X Y:List Nat}{k:Nat}(hX:X.length<=k)(hY:Y.length<=k)(h:(gL X Y k).1<=1):(gL X Y (k+1)).1=0:=by
 simp only[gL,c6 hX,c6 hY];omega
def ut {a k:Nat}(h:k<(au 10 a).length):10^k<=a:=by
 rcases Nat.lt_or_ge a (10^k)with h1|h1
 · have:=(bi 10 J a k).2 h1;omega
 · exact h1
def On {a b n1 n2 k:Nat}(h1:(au 10 a).length=n1)(h2:(au 10 b).length=n2)(hk1:n1<=k)(hk2:n2<=k)(hc:(gL (au 10 a) (au 10 b) k).1=0)(hm:k<=max n1 n2\/k=max n1 n2+1/\0<(gL (au 10 a) (au 10 b) (max n1 n2)).1):(gL (au 10 a) (au 10 b) k).2=au 10 (a+b):=by
 have hv:=ya (au 10 a) (au 10 b) k
 rw[hc,Nat.mul_zero,Nat.add_zero,List.take_of_length_le J,List.take_of_length_le J,cJ 10 J,cJ 10 J]at hv
 have H:=x9 (au 10 a) (au 10 b) k
 have hlt:=JH (au 10 a) (au 10 b) k
 have A0:0<k->10^(k-1)<=a+b:=by
  intro G
  rcases hm with hm|⟨hm,hp⟩
  · have:n1=k\/n2=k:=J
    rcases this with h|h
    · have:=ut (a:=a) (k:=k-1) J;omega
    · have:=ut (a:=b) (k:=k-1) J;omega
  · have Ab:=ya (au 10 a) (au 10 b) (max n1 n2)
    rw[List.take_of_length_le J,List.take_of_length_le J,cJ 10 J,cJ 10 J]at Ab
    have:10^max n1 n2*1<=10^max n1 n2*(gL (au 10 a) (au 10 b) (max n1 n2)).1:=Nat.mul_le_mul_left _ hp
    rw[hm,Nat.add_sub_cancel]
    omega
 generalize (gL (au 10 a) (au 10 b) k).2=l at *
 rw[<-hv]
 refine mu J ⟨hlt,?_⟩
 intro E
 have G:0<k:=by
  rcases Nat.eq_zero_or_pos k with h|h
  · subst h;rw[List.length_eq_zero_iff.1 H]at E;simp at E
  · exact h
 obtain⟨l',rfl⟩:∃l',l=l'++[0]:=by
  have W:l≠[]:=by intro e;subst e;simp at E
  refine⟨l.dropLast,?_⟩
  have O:=List.dropLast_concat_getLast W
  rw[List.getLast?_eq_some_getLast W]at E
  rw[Option.some.inj E]at O
  exact O.symm
 have h3:=lj 10 l' (λd hd=>hlt d (List.mem_append_left _ hd))
 rw[cj]at hv
 simp only[bS,Nat.mul_zero,Nat.add_zero]at hv
 simp at H
 have:=A0 G
 rw[show k-1=l'.length by omega]at this
 omega
def i8 (X Y:List Nat):Nat->Nat×List Nat
 |0=>(0,[])
 |k+1=>if X.getD k 0<(i8 X Y k).1+Y.getD k 0 then(1,(i8 X Y k).2++[X.getD k 0+10-(i8 X Y k).1-Y.getD k 0])else(0,(i8 X Y k).2++[X.getD k 0-(i8 X Y k).1-Y.getD k 0])
def mZ (X Y:List Nat):∀k,(i8 X Y k).2.length=k
 |0=>rfl
 |k+1=>by simp only[i8];split <;>simp[mZ X Y k]
def gM (X Y:List Nat):∀k,(i8 X Y k).1<=1
 |0=>by simp[i8]
 |k+1=>by simp only[i8];split <;>simp
def CZ {X Y:List Nat}(hX:∀i,X.getD i 0<10)(hY:∀i,Y.getD i 0<10):∀k,∀d∈(i8 X Y k).2,d<10
 |0=>by simp[i8]
 | k +1=>by
   have hb:=gM X Y k
   have hx:=hX k
   have hy:=hY k
   intro d hd
   simp only[i8]at hd
   split at hd
   all_goals
    rcases List.mem_append.1 hd with h|h
    · exact CZ hX hY k d h
    · rw[List.mem_singleton.1 h];omega
def EQ {X Y:List Nat}(hY:∀i,Y.getD i 0<10):∀k,bS 10 (i8 X Y k).2+bS 10 (Y.take k)=bS 10 (X.take k)+10^k*(i8 X Y k).1
 |0=>by simp[i8,bS]
 | k +1=>by
   have ih:=EQ (X:=X) hY k
   have hb:=gM X Y k
   have hy:=hY k
   rw[fh,fh,Nat.pow_succ]
   simp only[i8]
   split
   · next h=>
     rw[cj,mZ]
     simp only[bS]
     obtain⟨t,ht⟩:∃t,X.getD k 0+10-(i8 X Y k).1-Y.getD k 0=t:=⟨_,rfl⟩
     have hs:t+(i8 X Y k).1+Y.getD k 0=X.getD k 0+10:=J
     rw[ht]
     generalize X.getD k 0=x at *
     generalize Y.getD k 0=y at *
     generalize (i8 X Y k).1=c at *
     grind
   · next h=>
     rw[cj,mZ]
     simp only[bS]
     obtain⟨t,ht⟩:∃t,X.getD k 0-(i8 X Y k).1-Y.getD k 0=t:=⟨_,rfl⟩
     have hs:t+(i8 X Y k).1+Y.getD k 0=X.getD k 0:=J
     rw[ht]
     generalize X.getD k 0=x at *
     generalize Y.getD k 0=y at *
     generalize (i8 X Y k).1=c at *
     grind
def Oo {a b n1 n2:Nat}(h1:(au 10 a).length=n1)(h2:(au 10 b).length=n2)(hle:b<=a):bS 10 (i8 (au 10 a) (au 10 b) n1).2=a-b:=by
 have E:∀(c i:Nat),(au 10 c).getD i 0<10:=by
  intro c i
  rcases Nat.lt_or_ge i (au 10 c).length with hi|hi
  · have G:(au 10 c)[i]? =some (au 10 c)[i]:=qa5 hi
    rw[List.getD,G];exact eM 10 J c _ (List.getElem_mem hi)
  · rw[c6 hi];omega
 have hv:=EQ (X:=au 10 a) (E b) n1
 have H:n2<=n1:=by rw[<-h1,<-h2];exact ey J hle
 rw[List.take_of_length_le J,List.take_of_length_le J,cJ 10 J,cJ 10 J]at hv
 have hlt:=lj 10 _ (CZ (E a) (E b) n1)
 rw[mZ]at hlt
 have hb:=gM (au 10 a) (au 10 b) n1
 generalize (i8 (au 10 a) (au 10 b) n1).1=c at *
 rcases Nat.eq_zero_or_pos c with hc|hc
 · subst hc;omega
 · obtain rfl:c=1:=J
   omega
def ER (B:Nat):∀(l:List Nat) (j v:Nat),j<l.length->bS B (l.set j v)+B^j*l.getD j 0=bS B l+B^j*v
 |x::l,0,v,_=>by simp[bS];omega
 | x::l,j+1,v,h=>by
   have ih:=ER B l j v ka5
   simp only[List.set_cons_succ,bS,List.getD_cons_succ,Nat.pow_succ]
   generalize l.getD j 0=y at *
   generalize bS B (l.set j v)=p at *
   generalize bS B l=q at *
   generalize B^j=t at *
   grind
structure HV (X Y:List Nat)(i n:Nat)(k c:Nat)(l:List Nat):Prop where
 len:l.length=n
 lt:∀d∈l,d<10
 c9:c<=9
 val:bS 10 l+10^(i+k)*c=(bS 10 (X.take i)*bS 10 Y)+10^i*(X.getD i 0*bS 10 (Y.take k))
def TL {l:List Nat}{j v:Nat}(h:∀d∈l,d<10)(hv:v<10):∀d∈l.set j v,d<10:=by
 intro d hd
 rcases List.mem_or_eq_of_mem_set hd with h1|h1
 · exact h d h1
 · rw[h1];exact hv
def jT {xs:List Nat}(h:∀x∈xs,x<10)(i:Nat):xs.getD i 0<10:=by
 rcases Nat.lt_or_ge i xs.length with hi|hi
 · have E:xs[i]? =some xs[i]:=qa5 hi
   rw[List.getD,E];exact h _ (List.getElem_mem hi)
 · rw[c6 hi];omega
def HV.step {X Y l:List Nat}{i n k c:Nat}(hX:∀x∈X,x<10)(hY:∀x∈Y,x<10)(h:HV X Y i n k c l)(hj:i+k<n):
 HV X Y i n (k+1) ((l.getD (i+k) 0+c+X.getD i 0*Y.getD k 0)/10) (l.set (i+k) ((l.getD (i+k) 0+c+X.getD i 0*Y.getD k 0)%10)):=by
 have h1:=jT h.lt (i+k)
 have h2:=jT hX i
 have h3:=jT hY k
 have h4:X.getD i 0*Y.getD k 0<=9*9:=qb9 J J
 have hc:=h.c9
 refine⟨by rw[List.length_set];exact h.len,TL h.lt (Nat.mod_lt _ J),by omega,?_⟩
 have hs:=ER 10 l (i+k) ((l.getD (i+k) 0+c+X.getD i 0*Y.getD k 0)%10) (by rw[h.len];exact hj)
 have hv:=h.val
 have E:=Nat.div_add_mod (l.getD (i+k) 0+c+X.getD i 0*Y.getD k 0) 10
 rw[fh,show i+(k+1)=(i+k)+1 by omega,Nat.pow_succ]
 have G:(10:Nat)^(i+k)=10^i*10^k:=Nat.pow_add ..
 generalize (l.getD (i+k) 0+c+X.getD i 0*Y.getD k 0)/10=u at *
 generalize (l.getD (i+k) 0+c+X.getD i 0*Y.getD k 0)%10=v at *
 generalize bS 10 (l.set (i+k) v)=p at *
 generalize l.getD (i+k) 0=z at *
 generalize X.getD i 0=x at *
 generalize Y.getD k 0=y at *
 generalize bS 10 (Y.take k)=yk at *
 generalize bS 10 (X.take i)*bS 10 Y=W at *
 generalize (10:Nat)^(i+k)=t at *
 generalize (10:Nat)^i=ti at *
 generalize (10:Nat)^k=tk at *
 grind
def HV.done {X Y l:List Nat}{i n n2 k:Nat}(hn2:Y.length=n2)(h:HV X Y i n k 0 l)(hk:n2<=k):HV X Y (i+1) n 0 0 l:=by
 refine⟨h.len,h.lt,by omega,?_⟩
 have hv:=h.val
 rw[List.take_of_length_le (l:=Y) J]at hv
 rw[fh]
 simp only[Nat.mul_zero,Nat.add_zero,List.take_zero,bS]at hv ⊢
 rw[hv]
 generalize bS 10 (X.take i)=p
 generalize bS 10 Y=q
 generalize X.getD i 0=x
 generalize (10:Nat)^i=t
 grind
def HV.start (X Y:List Nat)(n:Nat):HV X Y 0 n 0 0 (List.replicate n 0):=by
 refine⟨by simp,λd hd=>by rw[(List.mem_replicate.1 hd).2];omega,by omega,?_⟩
 have:∀m,bS 10 (List.replicate m 0)=0:=by
  intro m;induction m with
  |zero=>rfl
  |succ m ih=>simp[List.replicate_succ,bS,ih]
 simp[this,bS]
def HV.fin {X Y l:List Nat}{n n1:Nat}(hn1:X.length=n1)(h:HV X Y n1 n 0 0 l):bS 10 l=bS 10 X*bS 10 Y:=by
 have hv:=h.val
 rw[List.take_of_length_le (l:=X) J]at hv
 simp only[Nat.mul_zero,Nat.add_zero,List.take_zero,bS]at hv
 exact hv
def HV.rem {X Y l:List Nat}{i n n2 k c:Nat}(hn2:Y.length=n2)(hX:∀x∈X,x<10)(hY:∀x∈Y,x<10)(h:HV X Y i n k c l)(hk:n2<=k):(l.getD (i+k) 0+c+X.getD i 0*Y.getD k 0)=l.getD (i+k) 0+c:=by
 rw[c6 (xs:=Y) J];simp
structure M5 (X:List Nat)(b:Nat)(i r:Nat)(T:List Nat):Prop where
 len:T.length+i=X.length
 lt:∀d∈T,d<10
 val:bS 10 T*b+r=bS 10 (X.drop i)
 rlt:r<b
def M5.start {X:List Nat}{b:Nat}(hb:0<b):M5 X b X.length 0 []:=⟨by simp,by simp,by simp[bS],hb⟩
def M5.step {X T:List Nat}{b i r c r2:Nat}(hX:∀x∈X,x<10)(h:M5 X b (i+1) r T)(hc:c*b+r2=r*10+X.getD i 0)(hr:r2<b):M5 X b i r2 (c::T):=by
 have hl:=h.len
 have hx:=jT hX i
 have G:=h.rlt
 have E:c<10:=by
  rcases Nat.lt_or_ge c 10 with h1|h1
  · exact h1
  · have h2:10*b<=c*b:=Nat.mul_le_mul_right _ h1
    omega
 refine⟨by simp;omega,λd hd=>?_,?_,hr⟩
 · rcases List.mem_cons.1 hd with rfl|h1
   · exact E
   · exact h.lt d h1
 · have e:X.drop i=X.getD i 0::X.drop (i+1):=by
    rw[List.drop_eq_getElem_cons J];simp[show i<X.length by omega]
   rw[e]
   simp only[bS]
   have hv:=h.val
   generalize X.getD i 0=x at *
   generalize bS 10 T=t at *
   generalize bS 10 (X.drop (i+1))=u at *
   grind
def M5.fin {X T:List Nat}{b r:Nat}(hb:0<b)(h:M5 X b 0 r T):bS 10 T=bS 10 X/b/\r=bS 10 X%b:=by
 have hv:=h.val
 rw[List.drop_zero]at hv
 have hr:=h.rlt
 rw[<-hv]
 constructor
 · rw[Nat.mul_comm,Nat.mul_add_div hb,Nat.div_eq_of_lt hr];omega
 · rw[Nat.mul_comm,Nat.mul_add_mod,Nat.mod_eq_of_lt hr]
namespace Go.Proofs.YtlmihmlnpjkblaaGreatDoor
variable {a lo b n c i n1 n2 c1 lo1 c2 lo2:Nat}{A A1 A2:Option Addr}{w w':World}
set_option maxRecDepth 100000
open Go Go.Eng Go.RowKit Tryz
attribute [local irreducible] wpListIn Code.wpIn Oper.wpIn Exit.then Exit.inBlock Exit.noGoto
set_option maxHeartbeats 40000000
def k8 {a:Int}(h:In64 a:=by unfold In64;omega):In64 a:=h
def jU (a i:Nat):(au 10 a).getD i 0<10:=jT (eM 10 U a) i
def fj (l:List Nat)(x:Nat):ints l++[Value.int .i64 x]=ints (l++[x]):=by simp[ints]
def C2 (m:Nat):(madeCells (Value.int IntKind.i64 0).cells (m*1)).toList=ints (List.replicate m 0):=qG m
def Dg.put (k:dP w w' b)(hb:b<lo)(h:Dg w lo A n c a):Dg w' lo A n c a:=⟨h.row.put k hb,h.len,h.cap⟩
def Dg.hi (h:Dg w lo A n c a):∀ad,A=some ad->ad.block<w.heap.size:=h.row.hi
def QL (i:Nat)(T:List Nat):List Nat:=List.replicate i 0++T
def yb (i:Nat)(T:List Nat):(QL i T).length=i+T.length:=by simp[QL]
def Oq (T:List Nat)(h:0<i):QL i T=QL (i-1) (0::T):=by
 obtain⟨j,rfl⟩:∃j,i=j+1:=⟨i-1,by omega⟩
 simp[QL,List.replicate_succ']
def TM (i c:Nat)(T:List Nat):(QL i (c::T)).getD i 0=c:=by simp[QL,List.getD]
def TN (i c d:Nat)(T:List Nat):(QL i (c::T)).set i d=QL i (d::T):=by
 induction i with
 |zero=>rfl
 |succ i ih=>unfold QL at *;rw[List.replicate_succ,List.cons_append,List.cons_append,List.set_cons_succ,ih]
def JI (n:Nat):QL n []=List.replicate n 0:=by simp[QL]
def TO (r d:Nat)(hd:d<10):dH (d::au 10 r)=au 10 (r*10+d):=by
 rw[mw 10 U (d::au 10 r) (λx hx=>by
  rcases List.mem_cons.1 hx with rfl|hx
  · exact hd
  · exact eM 10 U r x hx)]
 simp only[bS,cJ 10 (show 2<=10 by omega)]
 congr 1;omega
def JJ (h1:(au 10 a).length=n1)(h2:(au 10 b).length=n2)(h:a<b*10):n1<=n2+1:=by
 rw[<-h1,<-h2,bi 10 U,Nat.pow_succ]
 have:=nZ (B:=10) U b
 omega
def Ot (h:b<=a):(0:Int)<=aQ (a:Int) (b:Int):=by
 rcases Nat.eq_or_lt_of_le h with h1|h1
 · rw[jy U];omega
 · rw[eT U];omega
def Ou (h:¬b<=a):¬(0:Int)<=aQ (a:Int) (b:Int):=by
 rw[gd U];omega
def JK {r r2 x:Nat}(h:c*b+r2=r*10+x)(hr:r<b)(hx:x<10):c<10:=by
 rcases Nat.lt_or_ge c 10 with h1|h1
 · exact h1
 · have:=Nat.mul_le_mul_right b h1;omega
def wF (h1:Dg w lo1 A1 n1 c1 a)(s1:n1<=100000)(h2:Dg w lo2 A2 n2 c2 b)(s2:n2<=100000):
 CL 182 #[.slice A1 n1 c1,.slice A2 n2 c2] w (aH w λv w'=>∃A n c,v=.slice A n c/\Dg w' w.heap.size A n c (a+b)):=by
 have e1:=h1.len;have e2:=h2.len;refine aC func182 Z (I ?_);have Ix:World.ownsRow w w.heap.size 3 1 (.slice none 0 0) 0 (ints []):=bO;have E6:=aa0 w;refine ck [(5,52)] (λE5 e W=>∃k:Nat,∃H:Value,((max n1 n2)+1-k=E5)/\(e 6=.int .i64 (((gL (au 10 a) (au 10 b) k).1:Nat):Int))/\(e 7=.int .i64 k)/\(e 5=H)/\(k<=(max n1 n2)\/k=(max n1 n2)+1/\0<(gL (au 10 a) (au 10 b) (max n1 n2)).1)/\(aN w W)/\(W.ownsRow w.heap.size 3 1 H k (ints (gL (au 10 a) (au 10 b) k).2))) ((max n1 n2)+1-0) ⟨0,.slice none 0 0,rfl,rfl,rfl,rfl,(Or.inl (qa7 _)),E6,Ix⟩ ?_;rintro _ _ _ ⟨k,H,rfl,L1,Kp,Af,q1,E,ho⟩;have L2:=bz E;by_cases hka:k<n1;by_cases hkb:k<n2;have Am:(gL (au 10 a) (au 10 b) k).1<=1:=dy (jU a) (jU b) k;have O:=jU a k;have Ab:=jU b k;have Ap:n1<=k->(au 10 a).getD k 0=0:=λh=>c6 U;have A0:n2<=k->(au 10 b).getD k 0=0:=λh=>c6 U;refine I ?_;obtain⟨od,Ax,E4,FR⟩:=((h1.row).ext E).cells k _ (bG (xs:=(au 10 a)) U);refine aa (aA (i:=(k)) (oo:=Ax+k) kB ji Z E4 Z U GS ?_);refine aa (bn (v:=.int .i64 (((au 10 a).getD k 0:Nat):Int)) (b:=od) (o:=Ax+k) U3 Z Z FR ?_);refine aa (cG (a:=(((gL (au 10 a) (au 10 b) k).1:Nat):Int)) (b:=(((au 10 a).getD k 0:Nat):Int)) (c:=(((gL (au 10 a) (au 10 b) k).1+(au 10 a).getD k 0:Nat):Int)) Z Z k8 U ?_)
 refine I ?_;obtain⟨CB,Ar,KC,H4⟩:=((h2.row).ext E).cells k _ (bG (xs:=(au 10 b)) U);refine aa (aA (i:=(k)) (oo:=Ar+k) kB ji Z KC Z U GS ?_);refine aa (bn (v:=.int .i64 (((au 10 b).getD k 0:Nat):Int)) (b:=CB) (o:=Ar+k) U3 Z Z H4 ?_);refine aa (cG (a:=(((gL (au 10 a) (au 10 b) k).1+(au 10 a).getD k 0:Nat):Int)) (b:=(((au 10 b).getD k 0:Nat):Int)) (c:=(((gL (au 10 a) (au 10 b) k).1+(au 10 a).getD k 0+(au 10 b).getD k 0:Nat):Int)) Z Z k8 U ?_);refine I ?_;refine aa (aY (v:=H) Af ?_);refine I ?_;refine aa (mc (a:=(((gL (au 10 a) (au 10 b) k).1+(au 10 a).getD k 0+(au 10 b).getD k 0:Nat):Int)) (b:=10) (c:=((((gL (au 10 a) (au 10 b) k).1+(au 10 a).getD k 0+(au 10 b).getD k 0)%10:Nat):Int)) Z Z U U U ?_);refine BS (λ_ Az _ KY=>?_);have ho:=ab Az ho;have E:=xt E Az;refine AP ho (ab0 KY) (λAy _ Cr E7 _=>?_);have E:=bB ho U U E E7;refine aa (aJ (v:=Ay) Z ?_);refine I ?_;refine aa (wc (a:=(((gL (au 10 a) (au 10 b) k).1+(au 10 a).getD k 0+(au 10 b).getD k 0:Nat):Int)) (b:=10) (c:=(((gL (au 10 a) (au 10 b) (k+1)).1:Nat):Int)) Z Z U U k8 kc5 ?_);refine I ?_
 refine aa (cG (a:=(k:Int)) (b:=1) (c:=((k+1:Nat):Int)) Z Z k8 U ?_);refine I ?_;exact bJ (hk:=by first|omega|(rcases q1 with h|⟨h,-⟩;omega;exfalso;have G:=ki (X:=(au 10 a)) (Y:=(au 10 b)) (k:=(max n1 n2)) U U (dy (jU a) (jU b) _);rw[show(max n1 n2)+1=k by omega]at G;omega)) ⟨k+1,Ay,rfl,rfl,rfl,rfl,(by rcases q1 with h|⟨h,-⟩ <;>first|(left;omega)|(right;refine⟨by omega,?_⟩;rw[show(max n1 n2)=k by omega];omega)|(exfalso;have G:=ki (X:=(au 10 a)) (Y:=(au 10 b)) (k:=(max n1 n2)) U U (dy (jU a) (jU b) _);rw[show(max n1 n2)+1=k by omega]at G;omega)),E,(aP Cr Z (by rw[fj];rfl))⟩;have Am:(gL (au 10 a) (au 10 b) k).1<=1:=dy (jU a) (jU b) k;have O:=jU a k;have Ab:=jU b k;have Ap:n1<=k->(au 10 a).getD k 0=0:=λh=>c6 U;have A0:n2<=k->(au 10 b).getD k 0=0:=λh=>c6 U;refine I ?_;obtain⟨H3,C0,CG,K2⟩:=((h1.row).ext E).cells k _ (bG (xs:=(au 10 a)) U);refine aa (aA (i:=(k)) (oo:=C0+k) kB ji Z CG Z U GS ?_);refine aa (bn (v:=.int .i64 (((au 10 a).getD k 0:Nat):Int)) (b:=H3) (o:=C0+k) U3 Z Z K2 ?_);refine aa (cG (a:=(((gL (au 10 a) (au 10 b) k).1:Nat):Int)) (b:=(((au 10 a).getD k 0:Nat):Int)) (c:=(((gL (au 10 a) (au 10 b) k).1+(au 10 a).getD k 0:Nat):Int)) Z Z k8 U ?_);refine I ?_;refine aa (aY (v:=H) Af ?_);refine I ?_;refine aa (mc (a:=(((gL (au 10 a) (au 10 b) k).1+(au 10 a).getD k 0:Nat):Int)) (b:=10) (c:=((((gL (au 10 a) (au 10 b) k).1+(au 10 a).getD k 0+(au 10 b).getD k 0)%10:Nat):Int)) Z Z U U U ?_);refine BS (λ_ B1 _ D2=>?_);have ho:=ab B1 ho;have E:=xt E B1;refine AP ho (ab0 D2) (λAv _ E0 wr _=>?_);have E:=bB ho U U E wr;refine aa (aJ (v:=Av) Z ?_)
 refine I ?_;refine aa (wc (a:=(((gL (au 10 a) (au 10 b) k).1+(au 10 a).getD k 0:Nat):Int)) (b:=10) (c:=(((gL (au 10 a) (au 10 b) (k+1)).1:Nat):Int)) Z Z U U k8 kc5 ?_);refine I ?_;refine aa (cG (a:=(k:Int)) (b:=1) (c:=((k+1:Nat):Int)) Z Z k8 U ?_);refine I ?_;exact bJ (hk:=by first|omega|(rcases q1 with h|⟨h,-⟩;omega;exfalso;have G:=ki (X:=(au 10 a)) (Y:=(au 10 b)) (k:=(max n1 n2)) U U (dy (jU a) (jU b) _);rw[show(max n1 n2)+1=k by omega]at G;omega)) ⟨k+1,Av,rfl,rfl,rfl,rfl,(by rcases q1 with h|⟨h,-⟩ <;>first|(left;omega)|(right;refine⟨by omega,?_⟩;rw[show(max n1 n2)=k by omega];omega)|(exfalso;have G:=ki (X:=(au 10 a)) (Y:=(au 10 b)) (k:=(max n1 n2)) U U (dy (jU a) (jU b) _);rw[show(max n1 n2)+1=k by omega]at G;omega)),E,(aP E0 Z (by rw[fj];rfl))⟩;by_cases hkb:k<n2;have Am:(gL (au 10 a) (au 10 b) k).1<=1:=dy (jU a) (jU b) k;have O:=jU a k;have Ab:=jU b k;have Ap:n1<=k->(au 10 a).getD k 0=0:=λh=>c6 U;have A0:n2<=k->(au 10 b).getD k 0=0:=λh=>c6 U;refine I ?_;obtain⟨ES,Aq,CY,K3⟩:=((h2.row).ext E).cells k _ (bG (xs:=(au 10 b)) U);refine aa (aA (i:=(k)) (oo:=Aq+k) kB ji Z CY Z U GS ?_);refine aa (bn (v:=.int .i64 (((au 10 b).getD k 0:Nat):Int)) (b:=ES) (o:=Aq+k) U3 Z Z K3 ?_);refine aa (cG (a:=(((gL (au 10 a) (au 10 b) k).1:Nat):Int)) (b:=(((au 10 b).getD k 0:Nat):Int)) (c:=(((gL (au 10 a) (au 10 b) k).1+(au 10 a).getD k 0+(au 10 b).getD k 0:Nat):Int)) Z Z k8 U ?_);refine I ?_;refine aa (aY (v:=H) Af ?_);refine I ?_;refine aa (mc (a:=(((gL (au 10 a) (au 10 b) k).1+(au 10 a).getD k 0+(au 10 b).getD k 0:Nat):Int)) (b:=10) (c:=((((gL (au 10 a) (au 10 b) k).1+(au 10 a).getD k 0+(au 10 b).getD k 0)%10:Nat):Int)) Z Z U U U ?_);refine BS (λ_ B0 _ GC=>?_);have ho:=ab B0 ho;have E:=xt E B0;refine AP ho (ab0 GC) (λB2 _ E1 D1 _=>?_);have E:=bB ho U U E D1
 refine aa (aJ (v:=B2) Z ?_);refine I ?_;refine aa (wc (a:=(((gL (au 10 a) (au 10 b) k).1+(au 10 a).getD k 0+(au 10 b).getD k 0:Nat):Int)) (b:=10) (c:=(((gL (au 10 a) (au 10 b) (k+1)).1:Nat):Int)) Z Z U U k8 kc5 ?_);refine I ?_;refine aa (cG (a:=(k:Int)) (b:=1) (c:=((k+1:Nat):Int)) Z Z k8 U ?_);refine I ?_;exact bJ (hk:=by first|omega|(rcases q1 with h|⟨h,-⟩;omega;exfalso;have G:=ki (X:=(au 10 a)) (Y:=(au 10 b)) (k:=(max n1 n2)) U U (dy (jU a) (jU b) _);rw[show(max n1 n2)+1=k by omega]at G;omega)) ⟨k+1,B2,rfl,rfl,rfl,rfl,(by rcases q1 with h|⟨h,-⟩ <;>first|(left;omega)|(right;refine⟨by omega,?_⟩;rw[show(max n1 n2)=k by omega];omega)|(exfalso;have G:=ki (X:=(au 10 a)) (Y:=(au 10 b)) (k:=(max n1 n2)) U U (dy (jU a) (jU b) _);rw[show(max n1 n2)+1=k by omega]at G;omega)),E,(aP E1 Z (by rw[fj];rfl))⟩;by_cases hcr:0<(gL (au 10 a) (au 10 b) k).1;have Am:(gL (au 10 a) (au 10 b) k).1<=1:=dy (jU a) (jU b) k;have O:=jU a k;have Ab:=jU b k;have Ap:n1<=k->(au 10 a).getD k 0=0:=λh=>c6 U;have A0:n2<=k->(au 10 b).getD k 0=0:=λh=>c6 U;refine I ?_;refine aa (aY (v:=H) Af ?_);refine I ?_;refine aa (mc (a:=(((gL (au 10 a) (au 10 b) k).1:Nat):Int)) (b:=10) (c:=((((gL (au 10 a) (au 10 b) k).1+(au 10 a).getD k 0+(au 10 b).getD k 0)%10:Nat):Int)) Z Z U U U ?_);refine BS (λ_ ny _ H2=>?_);have ho:=ab ny ho;have E:=xt E ny;refine AP ho (ab0 H2) (λAs _ G0 KM _=>?_);have E:=bB ho U U E KM;refine aa (aJ (v:=As) Z ?_);refine I ?_;refine aa (wc (a:=(((gL (au 10 a) (au 10 b) k).1:Nat):Int)) (b:=10) (c:=(((gL (au 10 a) (au 10 b) (k+1)).1:Nat):Int)) Z Z U U k8 kc5 ?_);refine I ?_;refine aa (cG (a:=(k:Int)) (b:=1) (c:=((k+1:Nat):Int)) Z Z k8 U ?_);refine I ?_;exact bJ (hk:=by first|omega|(rcases q1 with h|⟨h,-⟩;omega;exfalso;have G:=ki (X:=(au 10 a)) (Y:=(au 10 b)) (k:=(max n1 n2)) U U (dy (jU a) (jU b) _);rw[show(max n1 n2)+1=k by omega]at G;omega)) ⟨k+1,As,rfl,rfl,rfl,rfl,(by rcases q1 with h|⟨h,-⟩ <;>first|(left;omega)|(right;refine⟨by omega,?_⟩;rw[show(max n1 n2)=k by omega];omega)|(exfalso;have G:=ki (X:=(au 10 a)) (Y:=(au 10 b)) (k:=(max n1 n2)) U U (dy (jU a) (jU b) _);rw[show(max n1 n2)+1=k by omega]at G;omega)),E,(aP G0 Z (by rw[fj];rfl))⟩
 have Am:(gL (au 10 a) (au 10 b) k).1<=1:=dy (jU a) (jU b) k;have O:=jU a k;have Ab:=jU b k;have Ap:n1<=k->(au 10 a).getD k 0=0:=λh=>c6 U;have A0:n2<=k->(au 10 b).getD k 0=0:=λh=>c6 U;have EW:=On h1.len h2.len (k:=k) U U U U;obtain⟨Ao,Aw,rfl,E9⟩:=qO ho EW;refine I ?_;exact am (t:=4) (v:=.slice Ao k Aw) Z E ⟨Ao,k,Aw,rfl,E9⟩ Z
theorem lD (h1:Dg w lo1 A1 n1 c1 a)(s1:n1<=100000)(h2:Dg w lo2 A2 n2 c2 b)(s2:n2<=100000)(hle:b<=a):
 CL 183 #[.slice A1 n1 c1,.slice A2 n2 c2] w (aH w λv w'=>∃A n c,v=.slice A n c/\Dg w' w.heap.size A n c (a-b)):=by
 have e1:=h1.len;have e2:=h2.len;refine aC func183 rfl ?_;refine I ?_;have Lj:World.ownsRow w w.heap.size 3 1 (.slice none 0 0) 0 (ints []):=bO;have D1:=aa0 w;refine ck [(5,38)] (λH3 e W=>∃k:Nat,∃H:Value,(n1-k=H3)/\(e 6=.int .i64 ((((i8 (au 10 a) (au 10 b) k).1:Nat):Int)))/\(e 7=.int .i64 k)/\(e 5=H)/\(k<=n1)/\(aN w W)/\(W.ownsRow w.heap.size 3 1 H k (ints (i8 (au 10 a) (au 10 b) k).2))) (n1-0) ⟨0,.slice none 0 0,rfl,rfl,rfl,rfl,(qa7 _),D1,Lj⟩ ?_;rintro _ _ _ ⟨k,H,rfl,P0,No,O,q1,E,ho⟩;have P1:=bz E;by_cases hka:k<n1;by_cases hkb:k<n2;by_cases hng:(au 10 a).getD k 0<(i8 (au 10 a) (au 10 b) k).1+(au 10 b).getD k 0;have Af:(i8 (au 10 a) (au 10 b) k).1<=1:=gM _ _ k;have A0:=jU a k;have Ab:=jU b k;have Am:n2<=k->(au 10 b).getD k 0=0:=λh=>c6 U;have G:(i8 (au 10 a) (au 10 b) (k+1))=(1,(i8 (au 10 a) (au 10 b) k).2++[(au 10 a).getD k 0+10-(i8 (au 10 a) (au 10 b) k).1-(au 10 b).getD k 0]):=if_pos hng;refine I ?_;obtain⟨E6,B1,G0,E0⟩:=((h1.row).ext E).cells k _ (bG (xs:=(au 10 a)) U);refine aa (aA (i:=(k)) (oo:=B1+k) kB ji rfl G0 rfl U (by rw[Nat.mul_one]) ?_);refine aa (bn (v:=.int .i64 ((((au 10 a).getD k 0:Nat):Int))) (b:=E6) (o:=B1+k) U3 rfl rfl E0 ?_)
 refine I ?_;refine qF ?_;refine I ?_;obtain⟨E4,Aw,L2,Ne⟩:=((h2.row).ext E).cells k _ (bG (xs:=(au 10 b)) U);refine aa (aA (i:=(k)) (oo:=Aw+k) kB ji rfl L2 rfl U (by rw[Nat.mul_one]) ?_);refine aa (bn (v:=.int .i64 ((((au 10 b).getD k 0:Nat):Int))) (b:=E4) (o:=Aw+k) U3 rfl rfl Ne ?_);refine qF ?_;refine I ?_;refine aa (cG (a:=((((au 10 a).getD k 0:Nat):Int)-(((i8 (au 10 a) (au 10 b) k).1:Nat):Int))-(((au 10 b).getD k 0:Nat):Int)) (b:=10) (c:=(((au 10 a).getD k 0+10-(i8 (au 10 a) (au 10 b) k).1-(au 10 b).getD k 0:Nat):Int)) rfl rfl k8 U ?_);refine I ?_;refine aa (aY (v:=H) O ?_);refine I ?_;refine BS (λ_ Ax _ H2=>?_);have ho:=ab Ax ho;have E:=xt E Ax;refine AP ho (ab0 H2) (λwr _ L1 E1 _=>?_);have E:=bB ho U U E E1;refine aa (aJ (v:=wr) rfl ?_);refine I ?_;refine aa (cG (a:=(k:Int)) (b:=1) (c:=((k+1:Nat):Int)) rfl rfl k8 U ?_);refine I ?_;exact bJ ⟨k+1,wr,rfl,(by rw[G];rfl),rfl,rfl,U,E,(aP L1 rfl (by rw[fj,G]))⟩;have Af:(i8 (au 10 a) (au 10 b) k).1<=1:=gM _ _ k;have A0:=jU a k;have Ab:=jU b k;have Am:n2<=k->(au 10 b).getD k 0=0:=λh=>c6 U
 have G:(i8 (au 10 a) (au 10 b) (k+1))=(0,(i8 (au 10 a) (au 10 b) k).2++[(au 10 a).getD k 0-(i8 (au 10 a) (au 10 b) k).1-(au 10 b).getD k 0]):=if_neg hng;refine I ?_;obtain⟨FR,Ay,Kp,D2⟩:=((h1.row).ext E).cells k _ (bG (xs:=(au 10 a)) U);refine aa (aA (i:=(k)) (oo:=Ay+k) kB ji rfl Kp rfl U (by rw[Nat.mul_one]) ?_);refine aa (bn (v:=.int .i64 ((((au 10 a).getD k 0:Nat):Int))) (b:=FR) (o:=Ay+k) U3 rfl rfl D2 ?_);refine I ?_;refine qF ?_;refine I ?_;obtain⟨Cr,Az,Lk,ny⟩:=((h2.row).ext E).cells k _ (bG (xs:=(au 10 b)) U);refine aa (aA (i:=(k)) (oo:=Az+k) kB ji rfl Lk rfl U (by rw[Nat.mul_one]) ?_);refine aa (bn (v:=.int .i64 ((((au 10 b).getD k 0:Nat):Int))) (b:=Cr) (o:=Az+k) U3 rfl rfl ny ?_);refine aa (jq (a:=(((au 10 a).getD k 0:Nat):Int)-(((i8 (au 10 a) (au 10 b) k).1:Nat):Int)) (b:=(((au 10 b).getD k 0:Nat):Int)) (c:=(((au 10 a).getD k 0-(i8 (au 10 a) (au 10 b) k).1-(au 10 b).getD k 0:Nat):Int)) rfl rfl k8 U ?_);refine I ?_;refine aa (aY (v:=H) O ?_);refine I ?_;refine BS (λ_ CB _ H4=>?_);have ho:=ab CB ho;have E:=xt E CB;refine AP ho (ab0 H4) (λB0 _ ES EW _=>?_);have E:=bB ho U U E EW;refine aa (aJ (v:=B0) rfl ?_);refine I ?_
 refine aa (cG (a:=(k:Int)) (b:=1) (c:=((k+1:Nat):Int)) rfl rfl k8 U ?_);refine I ?_;exact bJ ⟨k+1,B0,rfl,(by rw[G];rfl),rfl,rfl,U,E,(aP ES rfl (by rw[fj,G]))⟩;by_cases hng:(au 10 a).getD k 0<(i8 (au 10 a) (au 10 b) k).1+(au 10 b).getD k 0;have Af:(i8 (au 10 a) (au 10 b) k).1<=1:=gM _ _ k;have A0:=jU a k;have Ab:=jU b k;have Am:n2<=k->(au 10 b).getD k 0=0:=λh=>c6 U;have G:(i8 (au 10 a) (au 10 b) (k+1))=(1,(i8 (au 10 a) (au 10 b) k).2++[(au 10 a).getD k 0+10-(i8 (au 10 a) (au 10 b) k).1-(au 10 b).getD k 0]):=if_pos hng;refine I ?_;obtain⟨K2,od,E5,CY⟩:=((h1.row).ext E).cells k _ (bG (xs:=(au 10 a)) U);refine aa (aA (i:=(k)) (oo:=od+k) kB ji rfl E5 rfl U (by rw[Nat.mul_one]) ?_);refine aa (bn (v:=.int .i64 ((((au 10 a).getD k 0:Nat):Int))) (b:=K2) (o:=od+k) U3 rfl rfl CY ?_);refine I ?_;refine qF ?_;refine I ?_;refine aa (cG (a:=(((au 10 a).getD k 0:Nat):Int)-(((i8 (au 10 a) (au 10 b) k).1:Nat):Int)) (b:=10) (c:=(((au 10 a).getD k 0+10-(i8 (au 10 a) (au 10 b) k).1-(au 10 b).getD k 0:Nat):Int)) rfl rfl k8 U ?_)
 refine I ?_;refine aa (aY (v:=H) O ?_);refine I ?_;refine BS (λ_ CG _ La=>?_);have ho:=ab CG ho;have E:=xt E CG;refine AP ho (ab0 La) (λAr _ L4 E9 _=>?_);have E:=bB ho U U E E9;refine aa (aJ (v:=Ar) rfl ?_);refine I ?_;refine aa (cG (a:=(k:Int)) (b:=1) (c:=((k+1:Nat):Int)) rfl rfl k8 U ?_);refine I ?_;exact bJ ⟨k+1,Ar,rfl,(by rw[G];rfl),rfl,rfl,U,E,(aP L4 rfl (by rw[fj,G]))⟩;have Af:(i8 (au 10 a) (au 10 b) k).1<=1:=gM _ _ k;have A0:=jU a k;have Ab:=jU b k;have Am:n2<=k->(au 10 b).getD k 0=0:=λh=>c6 U;have G:(i8 (au 10 a) (au 10 b) (k+1))=(0,(i8 (au 10 a) (au 10 b) k).2++[(au 10 a).getD k 0-(i8 (au 10 a) (au 10 b) k).1-(au 10 b).getD k 0]):=if_neg hng;refine I ?_;obtain⟨N0,C0,Li,K3⟩:=((h1.row).ext E).cells k _ (bG (xs:=(au 10 a)) U);refine aa (aA (i:=(k)) (oo:=C0+k) kB ji rfl Li rfl U (by rw[Nat.mul_one]) ?_);refine aa (bn (v:=.int .i64 ((((au 10 a).getD k 0:Nat):Int))) (b:=N0) (o:=C0+k) U3 rfl rfl K3 ?_);refine I ?_;refine aa (jq (a:=(((au 10 a).getD k 0:Nat):Int)) (b:=(((i8 (au 10 a) (au 10 b) k).1:Nat):Int)) (c:=(((au 10 a).getD k 0-(i8 (au 10 a) (au 10 b) k).1-(au 10 b).getD k 0:Nat):Int)) rfl rfl k8 U ?_)
 refine I ?_;refine aa (aY (v:=H) O ?_);refine I ?_;refine BS (λ_ Av _ Ix=>?_);have ho:=ab Av ho;have E:=xt E Av;refine AP ho (ab0 Ix) (λAp _ KC GC _=>?_);have E:=bB ho U U E GC;refine aa (aJ (v:=Ap) rfl ?_);refine I ?_;refine aa (cG (a:=(k:Int)) (b:=1) (c:=((k+1:Nat):Int)) rfl rfl k8 U ?_);refine I ?_;exact bJ ⟨k+1,Ap,rfl,(by rw[G];rfl),rfl,rfl,U,E,(aP KC rfl (by rw[fj,G]))⟩;have KY:k=n1:=by omega
 obtain⟨Ao,B2,rfl,L3,-⟩:=e8 ho;refine I ?_;refine clb Ii (hc:=qP (ab0 ho) (mZ _ _ _) L3 U) (hk:=?_);rintro _ _ Aq ⟨As,rfl,KM,E7⟩;have ho:=ab Aq.2 ho;have E:=xt E Aq.2;refine I ?_;exact am (t:=4) (v:=.slice Ao As B2) rfl E ⟨Ao,As,B2,rfl,Dg.trim (ab0 ho) (CZ (jU a) (jU b) k) (by rw[KY];exact Oo h1.len h2.len hle) KM (by rw[mZ];exact E7) U⟩ rfl
def Aj (h1:Dg w lo1 A1 n1 c1 a)(s1:n1<=90000)(h2:Dg w lo2 A2 n2 c2 b)(s2:n2<=90000)(hb0:0<b):
 CL 180 #[.slice A1 n1 c1,.slice A2 n2 c2] w (aH w λv w'=>∃A n c B m d,v=.tuple #[.slice A n c,.slice B m d]/\Dg w' w.heap.size A n c (a/b)/\Dg w' w.heap.size B m d (a%b)):=by
 have e1:=h1.len;have e2:=h2.len;refine aC func180 Z (I ?_);refine aa (mf (m:=n1) kB lf Z Z U Rd (λGC K3 _ E5=>?_));have Lj:=K3;have hq:=Eh E5;rw[C2]at hq;clear E5;refine I ?_;refine qF (I ?_);rw[<-JI]at hq;have Li:Dg GC (w.heap.size+1) none 0 0 0:=Dg.zero _ _;refine ck [(7,8),(15,39)] (λCB e W=>∃i:Nat,∃T:List Nat,∃Ar:Option Addr,∃Ao:Nat,∃Av:Nat,∃r:Nat,(i=CB)/\(e 8=.int .i64 ((i:Int)-1))/\(e 7=.slice Ar Ao Av)/\(i<=n1)/\(M5 (au 10 a) b i r T)/\(aN w W)/\(ar W w.heap.size 3 (ints (QL i T)).toArray)/\(Dg W (w.heap.size+1) Ar Ao Av r)) (n1) ⟨n1,[],none,0,0,0,rfl,(qb2 (Value.int .i64) U),rfl,(qa0 _),(by rw[<-h1.len];exact M5.start hb0),Lj,hq,Li⟩ ?_;rintro _ _ ny ⟨i,T,Ar,Ao,Av,r,rfl,N0,od,P0,O,G,hq,hr⟩;by_cases hi:0<i;have C0:=bt hq;have E6:=hr.hi;have Ay:=jU a (i-1);have E9:=O.rlt;have H4:=O.len;have P1:Ao<=n2+1:=JJ hr.len h2.len U;refine I ?_;obtain⟨EW,CY,wr,L1⟩:=((h1.row).ext G).cells (i-1) _ (bG (xs:=(au 10 a)) U);refine aa (aA (i:=i-1) (oo:=CY+(i-1)) kB ji Z wr (dA Z U) U GS ?_);refine aa (bn (v:=.int .i64 (((au 10 a).getD (i-1) 0:Nat):Int)) (b:=EW) (o:=CY+(i-1)) U3 Z Z L1 ?_)
 refine BS (λ_ Ap _ E7=>?_);have hq:=be Ap hq;have hr:=ac8 Ap hr;have G:=xt G Ap;have P2:=bz Ap;refine I ?_;refine aa (jI (v:=.slice (some ⟨ny.heap.size,0,none⟩) (1) (1)) (k:=1) kB lf Z dc Z E7 Z hr.row (by rw[iY,hr.len];omega) tL Rd U U (λ_ G0 E4 CG _=>?_));have hq:=aa3 CG RM hq;have hr:=Dg.gr CG (λKC e=>by have:=E6 KC e;simp[Value.ownBlock];omega) hr;have G:=cR G CG (bz G) (λg H3=>by have:=(E7.lt g H3).1;omega);obtain⟨Aw,E1,rfl,L2,No,-,-⟩:=e8 E4;have hs:Rw G0 ny.heap.size Aw (ints (((au 10 a).getD (i-1) 0)::au 10 r)):=ab0 E4;refine clb Ii (hc:=qP hs (by rw[List.length_cons,hr.len];omega) L2 U) (hk:=?_);rintro _ KM Aq ⟨B1,rfl,Af,Cr⟩;have hq:=be Aq.2 hq;have hr:=ac8 Aq.2 hr;have G:=xt G Aq.2;rw[TO _ _ Ay]at Af;have Kp:Dg KM (w.heap.size+1) Aw B1 E1 (r*10+((au 10 a).getD (i-1) 0)):=by
  refine⟨?_,?_,by omega⟩
  rw[Af];have:=((hs.ext Aq.2).take B1).mono (lo':=w.heap.size+1) U;simpa[ints,List.map_take]using this;rw[Af,List.length_take,List.length_cons,hr.len];omega
 rw[Oq T hi]at hq;refine I ?_;refine ck [(7,7),(27,39)] (λCB e W=>∃c:Nat,∃Ar2:Option Addr,∃A0:Nat,∃As:Nat,∃r2:Nat,(r2=CB)/\(e 7=.slice Ar2 A0 As)/\(c*b+r2=(r*10+((au 10 a).getD (i-1) 0)))/\(aN w W)/\(ar W w.heap.size 3 (ints (QL (i-1) (c::T))).toArray)/\(Dg W (w.heap.size+1) Ar2 A0 As r2)) (r*10+((au 10 a).getD (i-1) 0)) ⟨0,Aw,B1,E1,(r*10+((au 10 a).getD (i-1) 0)),rfl,rfl,U,G,hq,Kp⟩ ?_;rintro _ _ _ ⟨c,Ar2,A0,As,r2,rfl,L4,B0,E,hq,H⟩;by_cases hge:b<=r2;have C0:=bt hq;have hcR:r2<=(r*10+((au 10 a).getD (i-1) 0)):=by have:=qa7 (c*b);omega
 have L3:A0<=n2+1:=JJ H.len h2.len U;have KY:c<10:=JK B0 E9 Ay;refine I ?_;refine clb zp (hc:=jS H U (h2.ext E) U) (hk:=?_);rintro _ _ Az rfl;have hq:=be Az.2 hq;have H:=ac8 Az.2 H;have E:=xt E Az.2;have Lk:=Ot hge;refine I ?_;refine clb D6 (hc:=lD H U (h2.ext E) U hge) (hk:=?_);rintro _ _ Ix ⟨Am,nm,FR,rfl,Ab⟩;have⟨hq,E⟩:=bw Ix.2 hq E;have Ab:=Ab.mono (lo':=w.heap.size+1) U;refine I ?_;refine aa (aA (A:=some ⟨w.heap.size,0,none⟩) (bk:=w.heap.size) (o:=0) (m:=n1) (c:=n1) (i:=i-1) (oo:=i-1) kB ji Z Z (dA Z U) U U ?_);refine aa (bn (v:=.int .i64 (((QL (i-1) (c::T)).getD (i-1) 0:Nat):Int)) U3 Z Z (ab4 hq (by rw[List.getElem?_toArray];exact bG (by rw[yb,List.length_cons];omega))) ?_);rw[TM];refine aa (cG (a:=(c:Int)) (b:=1) (c:=((c+1:Nat):Int)) Z Z k8 U ?_);refine aa (aA (A:=some ⟨w.heap.size,0,none⟩) (bk:=w.heap.size) (o:=0) (m:=n1) (c:=n1) (i:=i-1) (oo:=i-1) kB ji Z Z (dA Z U) U U ?_);refine aa (cI (b:=w.heap.size) (o:=i-1) (v:=.int .i64 ((c+1:Nat):Int)) ji Z Z Z hq (by rw[List.size_toArray,iY];rw[yb,List.length_cons];omega) (λ_ D2 La=>?_));have Ab:=Dg.put D2 U Ab;have E:=bA D2 E;have hq:=La;rw[ints_set]at hq
 refine I ?_;exact bJ ⟨c+1,Am,nm,FR,r2-b,rfl,rfl,(by rw[Nat.add_mul];omega),E,(by rw[TN]at hq;exact hq),Ab⟩;have C0:=bt hq;have hcR:r2<=(r*10+((au 10 a).getD (i-1) 0)):=by have:=qa7 (c*b);omega
 have L3:A0<=n2+1:=JJ H.len h2.len U;have KY:c<10:=JK B0 E9 Ay;refine I ?_;refine clb zp (hc:=jS H U (h2.ext E) U) (hk:=?_);rintro _ _ B2 rfl;have hq:=be B2.2 hq;have H:=ac8 B2.2 H;have E:=xt E B2.2;have Ne:=Ou hge;refine I ?_;refine aa (jq (a:=(i:Int)-1) (b:=1) (c:=((i-1:Nat):Int)-1) Z Z k8 U ?_);refine I ?_;exact bJ ⟨i-1,c::T,Ar2,A0,As,r2,rfl,rfl,L4,U,(M5.step (eM 10 U a) (by rw[show i-1+1=i by omega];exact O) B0 U),E,hq,H⟩;have C0:=bt hq;have K2:i=0:=J
 rw[K2]at O hq;have H4:=O.len;obtain⟨ES,D1⟩:=O.fin hb0;rw[h1.val]at ES D1;have E6:=hr.hi;refine I ?_;have H2:=ae2 hq (qa0 _);refine clb Ii (hc:=qP H2 (by rw[yb];omega) (qa0 _) U) (hk:=?_);rintro _ _ Ax ⟨E0,rfl,Af,Cr⟩;have hq:=be Ax.2 hq;have hr:=ac8 Ax.2 hr;have G:=xt G Ax.2;refine I ?_;exact bF (t:=4) (u:=5) (v1:=.slice (some ⟨w.heap.size,0,none⟩) E0 n1) (v2:=.slice Ar Ao Av) Z G ⟨_,E0,_,_,_,_,rfl,(Dg.trim (ae2 hq (qa0 _)) (by rw[show QL 0 T=T from rfl];exact O.lt) (by rw[show QL 0 T=T from rfl];exact ES) Af (by rw[yb];omega) Cr).mono U,by rw[<-D1];exact hr.mono U⟩ Z Z
end Go.Proofs.YtlmihmlnpjkblaaGreatDoor
