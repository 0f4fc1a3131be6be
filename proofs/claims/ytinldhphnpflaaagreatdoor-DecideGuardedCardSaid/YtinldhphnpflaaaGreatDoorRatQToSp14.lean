/- Part of the proof of a statement about decisions. -/
import Derived.Test.YtinldhphnpflaaaGreatDoorSp3ToRat5
import Derived.Test.YtinldhphnpflaaaGreatDoorEngPToEngH
import Derived.Test.YtinldhphnpflaaaGreatDoorInt9ToRatS
set_option linter.all false
namespace Go.Proofs.YtinldhphnpflaaaGreatDoor
open Go Go.Eng Go.RowKit
section
variable {n d:Int}
theorem gcd_pos (hd:0<d):0<((Int.gcd n d:Nat):Int):=by have:=Int.gcd_pos_of_ne_zero_right n (show d≠0 by omega);omega
theorem rq_n (hd:0<d):redN n d*((Int.gcd n d:Nat):Int)=n:=by
  unfold redN;rw[if_neg om];exact Int.ediv_mul_cancel (Int.gcd_dvd_left ..)
theorem rq_d (hd:0<d):redD n d*((Int.gcd n d:Nat):Int)=d:=by
  unfold redD;rw[if_neg om];exact Int.ediv_mul_cancel (Int.gcd_dvd_right ..)
theorem rq_cross (hd:0<d):redN n d*d=n*redD n d:=by
  have h1:=rq_n (n:=n) hd
  have h2:=rq_d (n:=n) hd
  generalize redN n d=a at *
  generalize redD n d=b at *
  generalize ((Int.gcd n d:Nat):Int)=g at *
  rw[<-h1,<-h2,Int.mul_comm b g,Int.mul_assoc]
theorem rq_pos (hd:0<d):0<redD n d:=by
  have h2:=rq_d (n:=n) hd
  have hg:=gcd_pos (n:=n) hd
  rcases Int.lt_or_le 0 (redD n d)with h|h
  · exact h
  · have:=Int.mul_nonpos_of_nonpos_of_nonneg h (Int.le_of_lt hg);omega
theorem rq_le (hd:0<d):redD n d<=d:=by
  have h2:=rq_d (n:=n) hd
  have hg:=gcd_pos (n:=n) hd
  have hp:=rq_pos (n:=n) hd
  have:=Int.mul_le_mul_of_nonneg_left (show(1:Int)<=((Int.gcd n d:Nat):Int)by omega) (Int.le_of_lt hp)
  omega
theorem rq_abs (hd:0<d):(redN n d).natAbs<=n.natAbs:=by
  have h2:=congrArg Int.natAbs (rq_n (n:=n) hd)
  have hg:=gcd_pos (n:=n) hd
  rw[Int.natAbs_mul,Int.natAbs_natCast]at h2
  exact Nat.le_trans (Nat.le_mul_of_pos_right _ om) (Nat.le_of_eq h2)
theorem rq_gcd (hd:0<d):Int.gcd (redN n d) (redD n d)=1:=by
  have hg:=gcd_pos (n:=n) hd
  have e:=Int.gcd_mul_right (redN n d) ((Int.gcd n d:Nat):Int) (redD n d)
  rw[rq_n hd,rq_d hd,Int.natAbs_natCast]at e
  exact Nat.eq_of_mul_eq_mul_right (show 0<Int.gcd n d by omega) om
theorem okR_z {a b:Int}(ha:Fz a)(hb:Fz b)(h0:0<b)(hg:Int.gcd a b=1):okR (showI a,showI b)=true:=by
  have e:gcdI (showI a) (showI b)=some [49]:=by
    unfold gcdI;rw[if_pos (by rw[ha.int,hb.int];rfl),valZ_showI,valZ_showI,hg]
    decide +kernel
  unfold okR
  simp only[ha.int,hb.int,e]
  rw[cmpS_zero hb.int,valZ_showI,decide_eq_false (by rw[cmpI_nonpos];omega)]
  rfl
theorem fz_rn (hd:0<d)(h:Fz n):Fz (redN n d):=Nat.lt_of_le_of_lt (rq_abs hd) h
theorem fz_rd (hd:0<d)(h:Fz d):Fz (redD n d):=by have:=rq_pos (n:=n) hd;have:=rq_le (n:=n) hd;unfold Fz at *;omega
theorem okR_q (hd:0<d)(fn:Fz n)(fd:Fz d):okR (qR n d)=true:=okR_z (fz_rn hd fn) (fz_rd hd fd) (rq_pos hd) (rq_gcd hd)
end
theorem qR_cop {n d:Int}(hd:0<d)(hg:Int.gcd n d=1):qR n d=(showI n,showI d):=by
  unfold qR redN redD;rw[hg,if_neg om,if_neg om];simp
theorem dvd_gcd1 {a b c:Int}(h:a∣b*c)(hg:Int.gcd a c=1):a∣b:=by
  have h1:a.natAbs∣b.natAbs*c.natAbs:=by rw[<-Int.natAbs_mul];exact Int.natAbs_dvd_natAbs.2 h
  exact Int.natAbs_dvd_natAbs.1 (Nat.Coprime.dvd_of_dvd_mul_right (show Nat.Coprime a.natAbs c.natAbs from hg) h1)
theorem red_uniq {a b c d:Int}(hb:0<b)(hd:0<d)(h1:Int.gcd a b=1)(h2:Int.gcd c d=1)(h:a*d=c*b):a=c∧b=d:=by
  have e1:b∣d:=by
    have:b∣d*a:=⟨c,by rw[Int.mul_comm d a,h,Int.mul_comm]⟩
    exact dvd_gcd1 this (by rw[Int.gcd_comm];exact h1)
  have e2:d∣b:=by
    have:d∣b*c:=⟨a,by rw[Int.mul_comm b c,<-h,Int.mul_comm]⟩
    exact dvd_gcd1 this (by rw[Int.gcd_comm];exact h2)
  have e:=Int.dvd_antisymm om om e1 e2
  subst e
  exact⟨Int.eq_of_mul_eq_mul_right om h,rfl⟩
theorem red_congr {a b c d:Int}(hb:0<b)(hd:0<d)(h:a*d=c*b):redN a b=redN c d∧redD a b=redD c d:=by
  have h1:=rq_cross (n:=a) hb
  have h2:=rq_cross (n:=c) hd
  refine red_uniq (rq_pos hb) (rq_pos hd) (rq_gcd hb) (rq_gcd hd) ?_
  have e:redN a b*redD c d*(b*d)=redN c d*redD a b*(b*d):=by
    calc redN a b*redD c d*(b*d)=(redN a b*b)*(redD c d*d):=by grind
      _=(a*redD a b)*(redD c d*d):=by rw[h1]
      _=(a*d)*(redD a b*redD c d):=by grind
      _=(c*b)*(redD a b*redD c d):=by rw[h]
      _=(c*redD c d)*(redD a b*b):=by grind
      _=(redN c d*d)*(redD a b*b):=by rw[h2]
      _=redN c d*redD a b*(b*d):=by grind
  exact Int.eq_of_mul_eq_mul_right (Int.ne_of_gt (Int.mul_pos hb hd)) e
theorem qR_congr {a b c d:Int}(hb:0<b)(hd:0<d)(h:a*d=c*b):qR a b=qR c d:=by
  obtain⟨h1,h2⟩:=red_congr hb hd h
  unfold qR;rw[h1,h2]
theorem qR_inj {a b c d:Int}(hb:0<b)(hd:0<d)(h:qR a b=qR c d):a*d=c*b:=by
  unfold qR at h
  have e1:=showI_inj (congrArg Prod.fst h)
  have e2:=showI_inj (congrArg Prod.snd h)
  have h1:=rq_n (n:=a) hb
  have h2:=rq_d (n:=a) hb
  have h3:=rq_n (n:=c) hd
  have h4:=rq_d (n:=c) hd
  rw[<-e1]at h3
  rw[<-e2]at h4
  generalize redN a b=p at *
  generalize redD a b=q at *
  rw[<-h1,<-h2,<-h3,<-h4];grind
theorem sgn_mul_cmp {x y k:Int}(hk:0<k):cmpI (x*k) (y*k)=cmpI x y:=cmpI_iff ⟨λh=>Int.lt_of_mul_lt_mul_right h (Int.le_of_lt hk),λh=>Int.mul_lt_mul_of_pos_right h hk⟩ ⟨λh=>Int.eq_of_mul_eq_mul_right om h,λh=>by rw[h]⟩
theorem cmp_red {a b c d:Int}(hb:0<b)(hd:0<d):cmpI (redN a b*redD c d) (redN c d*redD a b)=cmpI (a*d) (c*b):=by
  rw[<-sgn_mul_cmp (Int.mul_pos (gcd_pos (n:=a) hb) (gcd_pos (n:=c) hd))]
  have h1:=rq_n (n:=a) hb
  have h2:=rq_d (n:=a) hb
  have h3:=rq_n (n:=c) hd
  have h4:=rq_d (n:=c) hd
  generalize redN a b=p at *
  generalize redD a b=q at *
  generalize redN c d=r at *
  generalize redD c d=s at *
  generalize ((Int.gcd a b:Nat):Int)=g at *
  generalize ((Int.gcd c d:Nat):Int)=k at *
  rw[<-h1,<-h2,<-h3,<-h4,show p*s*(g*k)=p*g*(s*k)by grind,show r*q*(g*k)=r*k*(q*g)by grind]
theorem rCmpQ_ok {a b c d:Int}{w:World}(hb:0<b)(hd:0<d)(fa:Fz a)(fb:Fz b)(fc:Fz c)(fd:Fz d)(ht:Tb w):
    CL 12 #[.agg #[S (qR a b).1,S (qR a b).2],.agg #[S (qR c d).1,S (qR c d).2]] w (Ret w λv _=>v=.int .i64 (cmpI (a*d) (c*b))):=
  cEq (rCmpZ_ok (okR_q hb fa fb) (okR_q hd fc fd) (fz_rn hb fa) (fz_rd hb fb) (fz_rn hd fc) (fz_rd hd fd) ht) (congrArg (Value.int .i64) (cmp_red hb hd))
theorem qR_val {a b:Int}:valZ (qR a b).1=redN a b∧valZ (qR a b).2=redD a b:=⟨valZ_showI _,valZ_showI _⟩
def Q9 (a b:Int):Prop:=a.natAbs<10^90∧0<b∧b<10^90
theorem Q9.fz {a b:Int}(h:Q9 a b):Fz a∧Fz b:=by obtain⟨_,_,_⟩:=h;unfold Fz;omega
theorem Q9.red {a b:Int}(h:Q9 a b):Q9 (redN a b) (redD a b):=⟨Nat.lt_of_le_of_lt (rq_abs h.2.1) h.1,rq_pos h.2.1,by have:=rq_le (n:=a) h.2.1;have:=h.2.2;omega⟩
theorem Q9.ok {a b:Int}(h:Q9 a b):okR (qR a b)=true:=okR_q h.2.1 h.fz.1 h.fz.2
theorem abs_mul {a b:Int}(ha:a.natAbs<10^90)(hb:b.natAbs<10^90):(a*b).natAbs<10^180:=by rw[Int.natAbs_mul];exact mul_lt_pow ha hb
theorem fz_180 {a:Int}(h:a.natAbs<10^180):Fz a:=by unfold Fz;omega
theorem both_q {n d c e:Int}(fn:Fz n)(fd:Fz d)(h:makeR n d=some (qR c e)):bothF n d=some (qR c e):=by
  unfold bothF;rw[fn.fits,fd.fits];exact h
theorem addR_q {a b c d:Int}(h1:Q9 a b)(h2:Q9 c d):addR (qR a b) (qR c d)=some (qR (a*d+c*b) (b*d)):=by
  unfold addR
  rw[h1.ok,h2.ok,qR_val.1,qR_val.2,qR_val.1,qR_val.2]
  have r1:=h1.red
  have r2:=h2.red
  have m1:=abs_mul r1.1 (b:=redD c d) (by have:=r2.2;omega)
  have m2:=abs_mul r2.1 (b:=redD a b) (by have:=r1.2;omega)
  have m3:=abs_mul (a:=redD a b) (b:=redD c d) (by have:=r1.2;omega) (by have:=r2.2;omega)
  rw[(fz_180 m1).fits,(fz_180 m2).fits]
  have hp:=Int.mul_pos r1.2.1 r2.2.1
  simp only[Bool.and_self,if_true]
  refine both_q (by unfold Fz;omega) (fz_180 m3) ?_
  rw[makeR_q om]
  congr 1
  refine qR_congr hp (Int.mul_pos h1.2.1 h2.2.1) ?_
  have e1:=rq_cross (n:=a) h1.2.1
  have e2:=rq_cross (n:=c) h2.2.1
  generalize redN a b=p at *
  generalize redD a b=q at *
  generalize redN c d=r at *
  generalize redD c d=s at *
  grind
theorem subR_q {a b c d:Int}(h1:Q9 a b)(h2:Q9 c d):subR (qR a b) (qR c d)=some (qR (a*d-c*b) (b*d)):=by
  unfold subR
  rw[h1.ok,h2.ok,qR_val.1,qR_val.2,qR_val.1,qR_val.2]
  have r1:=h1.red
  have r2:=h2.red
  have m1:=abs_mul r1.1 (b:=redD c d) (by have:=r2.2;omega)
  have m2:=abs_mul r2.1 (b:=redD a b) (by have:=r1.2;omega)
  have m3:=abs_mul (a:=redD a b) (b:=redD c d) (by have:=r1.2;omega) (by have:=r2.2;omega)
  rw[(fz_180 m1).fits,(fz_180 m2).fits]
  have hp:=Int.mul_pos r1.2.1 r2.2.1
  simp only[Bool.and_self,if_true]
  refine both_q (by unfold Fz;omega) (fz_180 m3) ?_
  rw[makeR_q om]
  congr 1
  refine qR_congr hp (Int.mul_pos h1.2.1 h2.2.1) ?_
  have e1:=rq_cross (n:=a) h1.2.1
  have e2:=rq_cross (n:=c) h2.2.1
  generalize redN a b=p at *
  generalize redD a b=q at *
  generalize redN c d=r at *
  generalize redD c d=s at *
  grind
theorem divR_q {a b c d:Int}(h1:Q9 a b)(h2:Q9 c d)(hc:0<c):divR (qR a b) (qR c d)=some (qR (a*d) (b*c)):=by
  unfold divR
  rw[h1.ok,h2.ok,qR_val.1,qR_val.2,qR_val.1,qR_val.2]
  have r1:=h1.red
  have r2:=h2.red
  have m1:=abs_mul r1.1 (b:=redD c d) (by have:=r2.2;omega)
  have m3:=abs_mul (a:=redD a b) (b:=redN c d) (by have:=r1.2;omega) r2.1
  have hrc:0<redN c d:=by
    have h:=rq_n (n:=c) h2.2.1
    have hg:=gcd_pos (n:=c) h2.2.1
    rcases Int.lt_or_le 0 (redN c d)with h'|h'
    · exact h'
    · have:=Int.mul_nonpos_of_nonpos_of_nonneg h' (Int.le_of_lt hg);omega
  have hp:=Int.mul_pos r1.2.1 hrc
  simp only[Bool.and_self,if_true]
  refine both_q (fz_180 m1) (fz_180 m3) ?_
  rw[makeR_q om]
  congr 1
  refine qR_congr hp (Int.mul_pos h1.2.1 hc) ?_
  have e1:=rq_cross (n:=a) h1.2.1
  have e2:=rq_cross (n:=c) h2.2.1
  generalize redN a b=p at *
  generalize redD a b=q at *
  generalize redN c d=r at *
  generalize redD c d=s at *
  grind
section
variable {a b c d:Int}{w:World}
theorem qAdd_ok (h1:Q9 a b)(h2:Q9 c d)(ht:Tb w):CL 11 #[.agg #[S (qR a b).1,S (qR a b).2],.agg #[S (qR c d).1,S (qR c d).2]] w (Ret w λv _=>v=Qv (a*d+c*b) (b*d)):=cEq (rAdd_ok _ _ _ _ _ ht) (congrArg resR (addR_q h1 h2))
theorem qSub_ok (h1:Q9 a b)(h2:Q9 c d)(ht:Tb w):CL 9 #[.agg #[S (qR a b).1,S (qR a b).2],.agg #[S (qR c d).1,S (qR c d).2]] w (Ret w λv _=>v=Qv (a*d-c*b) (b*d)):=cEq (rSub_ok _ _ _ _ _ ht) (congrArg resR (subR_q h1 h2))
theorem qDiv_ok (h1:Q9 a b)(h2:Q9 c d)(hc:0<c)(ht:Tb w):CL 164 #[.agg #[S (qR a b).1,S (qR a b).2],.agg #[S (qR c d).1,S (qR c d).2]] w (Ret w λv _=>v=Qv (a*d) (b*c)):=cEq (rDiv_ok _ _ _ _ _ ht) (congrArg resR (divR_q h1 h2 hc))
end
theorem upn_mul {a b k:Nat}(hk:0<k):upn (a*k) (b*k)=upn a b:=by
  unfold upn
  rw[Nat.mul_mod_mul_right,Nat.mul_div_mul_right _ _ hk]
  have:(a%b*k=0)↔(a%b=0):=⟨λh=>(Nat.mul_eq_zero.1 h).resolve_right om,λh=>by rw[h,Nat.zero_mul]⟩
  simp only[this]
theorem ofP_mul {S n d k:Nat}(hk:0<k):ofP S (n*k) (d*k)=ofP S n d:=by
  unfold ofP
  rw[show n*k*S=n*S*k by rw[Nat.mul_assoc,Nat.mul_comm k,<-Nat.mul_assoc],upn_mul hk,Nat.mul_div_mul_right _ _ hk]
abbrev QV (a b:Int):Value:=.agg #[S (qR a b).1,S (qR a b).2]
abbrev IV (a b c d:Int):Value:=.agg #[S (qR a b).1,S (qR a b).2,S (qR c d).1,S (qR c d).2]
abbrev t7 (ma mb sa sb ea eb la lb ha hb oa ob ga gb:Int):Array Value:=#[S (qR ma mb).1,S (qR ma mb).2,S (qR sa sb).1,S (qR sa sb).2,S (qR ea eb).1,S (qR ea eb).2,S (qR la lb).1,S (qR la lb).2,S (qR ha hb).1,S (qR ha hb).2,S (qR oa ob).1,S (qR oa ob).2,S (qR ga gb).1,S (qR ga gb).2]
end Go.Proofs.YtinldhphnpflaaaGreatDoor
namespace Go.Proofs.YtinldhphnpflaaaGreatDoor
open Go Go.Eng Go.RowKit
attribute [local irreducible] wpListIn Code.wpIn Oper.wpIn Exit.then Exit.inBlock Exit.noGoto
set_option maxHeartbeats 40000000
theorem q11:(([49],[49]):R)=qR 1 1:=by decide +kernel
theorem q01:(([48],[49]):R)=qR 0 1:=by decide +kernel
theorem q12:(([49],[50]):R)=qR 1 2:=by decide +kernel
section
variable {a b c d:Int}{l m l' m':List UInt8}{w:World}
theorem qCmpL (e1:(l,m)=qR a b)(e2:(l',m')=qR c d)(h1:Q9 a b)(h2:Q9 c d)(ht:Tb w):CL 12 #[.agg #[S l,S m],.agg #[S l',S m']] w (Ret w λv _=>v=.int .i64 (cmpI (a*d) (c*b))):=by
  rw[show l=(qR a b).1 from congrArg Prod.fst e1,show m=(qR a b).2 from congrArg Prod.snd e1,show l'=(qR c d).1 from congrArg Prod.fst e2,show m'=(qR c d).2 from congrArg Prod.snd e2]
  exact rCmpQ_ok h1.2.1 h2.2.1 h1.fz.1 h1.fz.2 h2.fz.1 h2.fz.2 ht
theorem qAddL (e1:(l,m)=qR a b)(e2:(l',m')=qR c d)(h1:Q9 a b)(h2:Q9 c d)(ht:Tb w):CL 11 #[.agg #[S l,S m],.agg #[S l',S m']] w (Ret w λv _=>v=Qv (a*d+c*b) (b*d)):=by
  rw[show l=(qR a b).1 from congrArg Prod.fst e1,show m=(qR a b).2 from congrArg Prod.snd e1,show l'=(qR c d).1 from congrArg Prod.fst e2,show m'=(qR c d).2 from congrArg Prod.snd e2]
  exact qAdd_ok h1 h2 ht
theorem qSubL (e1:(l,m)=qR a b)(e2:(l',m')=qR c d)(h1:Q9 a b)(h2:Q9 c d)(ht:Tb w):CL 9 #[.agg #[S l,S m],.agg #[S l',S m']] w (Ret w λv _=>v=Qv (a*d-c*b) (b*d)):=by
  rw[show l=(qR a b).1 from congrArg Prod.fst e1,show m=(qR a b).2 from congrArg Prod.snd e1,show l'=(qR c d).1 from congrArg Prod.fst e2,show m'=(qR c d).2 from congrArg Prod.snd e2]
  exact qSub_ok h1 h2 ht
theorem qDivL (e1:(l,m)=qR a b)(e2:(l',m')=qR c d)(h1:Q9 a b)(h2:Q9 c d)(hc:0<c)(ht:Tb w):CL 164 #[.agg #[S l,S m],.agg #[S l',S m']] w (Ret w λv _=>v=Qv (a*d) (b*c)):=by
  rw[show l=(qR a b).1 from congrArg Prod.fst e1,show m=(qR a b).2 from congrArg Prod.snd e1,show l'=(qR c d).1 from congrArg Prod.fst e2,show m'=(qR c d).2 from congrArg Prod.snd e2]
  exact qDiv_ok h1 h2 hc ht
end
theorem q9l1:Q9 1 1:=⟨by decide,by decide,by decide⟩
theorem red_nat {a b:Nat}(hb:0<b):redN (a:Int) (b:Int)=((a/Nat.gcd a b:Nat):Int)∧redD (a:Int) (b:Int)=((b/Nat.gcd a b:Nat):Int):=by
  unfold redN redD
  rw[if_neg om,if_neg om]
  exact⟨rfl,rfl⟩
theorem spOfQ_ok {sO pl a b:Nat}{w:World}(hS:Sc sO)(ha:a<10^90)(hb:b<10^90)(h0:0<b)(ht:Tb w):
    CL 69 #[.agg #[.int .i64 pl,S (nS sO)],.agg #[S (qR (a:Int) (b:Int)).1,S (qR (a:Int) (b:Int)).2]] w (Ret w λv _=>v=.agg #[S (nS (ofP sO a b).1),S (nS (ofP sO a b).2)]):=by
  have hg:0<Nat.gcd a b:=Nat.gcd_pos_of_pos_right _ h0
  have e1:a/Nat.gcd a b*Nat.gcd a b=a:=Nat.div_mul_cancel (Nat.gcd_dvd_left _ _)
  have e2:b/Nat.gcd a b*Nat.gcd a b=b:=Nat.div_mul_cancel (Nat.gcd_dvd_right _ _)
  have h1:=ofP_mul (S:=sO) (n:=a/Nat.gcd a b) (d:=b/Nat.gcd a b) hg
  rw[e1,e2]at h1
  have hle:a/Nat.gcd a b<10^90:=Nat.lt_of_le_of_lt (Nat.div_le_self _ _) ha
  have hle2:b/Nat.gcd a b<10^90:=Nat.lt_of_le_of_lt (Nat.div_le_self _ _) hb
  have hp:0<b/Nat.gcd a b:=Nat.div_pos (Nat.le_of_dvd h0 (Nat.gcd_dvd_right _ _)) hg
  rw[h1]
  unfold qR
  rw[(red_nat h0).1,(red_nat h0).2]
  exact spOf_ok hS (fi_pow hle dc) (fi_pow hle2 dc) hp (fi_mul hle hS.lt dc) ht
end Go.Proofs.YtinldhphnpflaaaGreatDoor
namespace Go.Proofs.YtinldhphnpflaaaGreatDoor
set_option maxRecDepth 100000
open Go Go.Eng Go.RowKit
theorem callsDIn_of_wpS {n:Nat}{P:Program}{f:FuncId}{fn:Func}{c:Code}{args:Array Value}{u:FrameMode}{w:World}{R:Ending->FrameMode->World->Prop}(hf:P.funcs[f]?=some fn)(hb:fn.body=some c)(h:∀(c₀:Frame) (cs:List Frame),c₀.mode=u->
      c.wpS P (bodyPostS P fn c₀ cs R) {tmps:=args++Array.replicate (fn.ntmps-args.size) undef,defers:=[]} (c₀::cs) w):
    CallsDIn Fence.wide n P f args u w R:=by
  refine⟨trivial,λc₀ cs hu _=>?_⟩
  let b:Frame:={(default:Frame)with fn:=f,kind:=.deferred}
  have henter:Frame.enter P f args .deferred=
      b.at {tmps:=args++Array.replicate (fn.ntmps-args.size) undef,defers:=[]} [.code c]:=by
    simp[Frame.enter,Frame.at,hf,hb,b]
  obtain⟨e,_,_,w',hq,harr⟩:=h c₀ cs hu b [] rfl rfl
  rw[<-henter]at harr
  cases e with
  | normal=>
    obtain⟨hd,u',rfl,v,hr,hR⟩:=hq
    exact⟨.returned v,u',w',_,hR,comesIn_wide.2 (Steps.trans harr (.one step_end)),rfl,rfl,rfl,hd,fn,hf,hr⟩
  | ret=>
    obtain⟨hd,u',rfl,v,hr,hR⟩:=hq
    obtain⟨todo,hs⟩:=harr
    exact⟨.returned v,u',w',_,hR,comesIn_wide.2 hs,rfl,rfl,rfl,hd,fn,hf,hr⟩
  | panic chain=>
    obtain⟨hd,u',rfl,hR⟩:=hq
    obtain⟨todo,hs⟩:=harr
    exact⟨.panicked chain,u',w',_,hR,comesIn_wide.2 hs,rfl,rfl,rfl,hd,fn,hf⟩
  |exit id=>exact hq.elim
  |goto l=>exact hq.elim
  | outgrown=>
    obtain⟨u',hR⟩:=hq
    exact⟨.outgrown,u',w',b,hR,harr.resolve_left (by simp[b]),rfl,rfl,trivial⟩
theorem dIn {n:Nat}{P:Program}{f:FuncId}{fn:Func}{c:Code}{args:List Value}{u:FrameMode}{w:World}{R:Ending->FrameMode->World->Prop}(hf:P.funcs[f]?=some fn)(hb:fn.body=some c)(h:∀(c₀:Frame) (cs:List Frame),c₀.mode=u->c.wpS P (bodyPostS P fn c₀ cs R) (act (args.length+(fn.ntmps-args.length)) (ent args) []) (c₀::cs) w):CallsDIn Fence.wide n P f args.toArray u w R:=by
  refine callsDIn_of_wpS hf hb (λc₀ cs hu=>?_)
  rw[act_start]
  exact h c₀ cs hu
section
variable {P:Program}{r:Option Nat}{n N:Nat}{e:Nat->Value}{ds:List Deferred}{w:World}{Q:Exit->Act->World->Prop}{K:Act->World->Prop}
variable {d ty:Nat}{pos:String}{af:Array Edge}{ats:Array TypeId}{g:Option (Nat×Bool)}{v u:Value}{x y:Operand}{t t':TypeId}
theorem k_deferV {f:FuncId}{lb:List Value}(hx:ev N e x=.func (.func f) #[] lb.toArray)(hk:K (act N e ({target:=.fn (.func f) lb.toArray,args:=#[]}::ds)) w):
    Oper.wpIn (Fw none) n P ⟨none,.defer {callee:=.value x,args:=#[],argTypes:=ats},ty,pos,af,g⟩ (act N e ds) w K Q:=by
  refine⟨λf _=>Fw_fn none f,?_⟩
  rw[Fw_round,Oper.semAt_none,act_eval]
  have:(execOp (ev N e) (⟨none,.defer {callee:=.value x,args:=#[],argTypes:=ats},ty,pos,af,g⟩:Oper)).run P w=.ok (.defer {target:=.fn (.func f) lb.toArray,args:=#[]}) w:=by
    simp[execOp,resolve,Deferred.ofValue,hx]
  rw[this]
  exact hk
end
section
variable {P:Program}{N i:Nat}{e:Nat->Value}{w:World}{d id ty:Nat}{pos:String}{af:Array Edge}{ats:Array TypeId}{cs:List Frame}{v:Value}{Q:Exit->Act->List Frame->World->Prop}{ops:Array Oper}{rest:List Nat}{op:Op}{dst:Option Tmp}
theorem s_reg0 (hn:List.range ops.size=0::rest)(h0:ops[0]?=some ⟨some d,.call {callee:=.builtin .recover,args:=#[],argTypes:=ats},ty,pos,af,none⟩)(hr:recoverD cs=none)(h:wpOpsS P ops Q rest (act N (upd e d .nilIface) []) cs w):
    (Code.region id ops false).wpS P Q (act N e []) cs w:=by
  refine wpS_region ?_
  rw[hn]
  have hx:(execOp (act N e []).eval ⟨some d,.call {callee:=.builtin .recover,args:=#[],argTypes:=ats},ty,pos,af,none⟩).run P w=.ok .recover w:=by
    simp[execOp,resolve,invoke,builtin]
  simp only[wpOpsS,h0,Region.wanted,if_true,hx,hr]
  rw[act_put]
  exact h
theorem so_val (h0:ops[i]?=some ⟨some d,op,ty,pos,af,none⟩)(hx:(execOp (ev N e) (⟨some d,op,ty,pos,af,none⟩:Oper)).run P w=.ok (.value v) w)(h:wpOpsS P ops Q rest (act N (upd e d v) []) cs w):
    wpOpsS P ops Q (i::rest) (act N e []) cs w:=by
  have hx':(execOp (act N e []).eval (⟨some d,op,ty,pos,af,none⟩:Oper)).run P w=.ok (.value v) w:=by rw[act_eval];exact hx
  simp only[wpOpsS,h0,Region.wanted,if_true,hx']
  show wpOpsS P ops Q rest ((act N e []).put (some d) v) cs w
  rw[act_put]
  exact h
theorem so_nil (h:Q .normal (act N e []) cs w):wpOpsS P ops Q [] (act N e []) cs w:=h
end
theorem s_reg7 {P:Program}{N:Nat}{e:Nat->Value}{w:World}{d id ty:Nat}{pos:String}{af:Array Edge}{ats:Array TypeId}{cs:List Frame}{Q:Exit->Act->List Frame->World->Prop}{d1 ty1 d2 ty2 d3 ty3 d4 ty4 d5 ty5 d6 ty6:Nat}{pos1 pos2 pos3 pos4 pos5 pos6:String}{af1 af2 af3 af4 af5 af6:Array Edge}{op1 op2 op3 op4 op5 op6:Op}{v1 v2 v3 v4 v5 v6:Value}(hr:recoverD cs=none)(h1:(execOp (ev N (upd e d .nilIface)) (⟨some d1,op1,ty1,pos1,af1,none⟩:Oper)).run P w=.ok (.value v1) w)(h2:(execOp (ev N (upd (upd e d .nilIface) d1 v1)) (⟨some d2,op2,ty2,pos2,af2,none⟩:Oper)).run P w=.ok (.value v2) w)(h3:(execOp (ev N (upd (upd (upd e d .nilIface) d1 v1) d2 v2)) (⟨some d3,op3,ty3,pos3,af3,none⟩:Oper)).run P w=.ok (.value v3) w)(h4:(execOp (ev N (upd (upd (upd (upd e d .nilIface) d1 v1) d2 v2) d3 v3)) (⟨some d4,op4,ty4,pos4,af4,none⟩:Oper)).run P w=.ok (.value v4) w)(h5:(execOp (ev N (upd (upd (upd (upd (upd e d .nilIface) d1 v1) d2 v2) d3 v3) d4 v4)) (⟨some d5,op5,ty5,pos5,af5,none⟩:Oper)).run P w=.ok (.value v5) w)(h6:(execOp (ev N (upd (upd (upd (upd (upd (upd e d .nilIface) d1 v1) d2 v2) d3 v3) d4 v4) d5 v5)) (⟨some d6,op6,ty6,pos6,af6,none⟩:Oper)).run P w=.ok (.value v6) w)(h:Q .normal (act N (upd (upd (upd (upd (upd (upd (upd e d .nilIface) d1 v1) d2 v2) d3 v3) d4 v4) d5 v5) d6 v6) []) cs w):
    (Code.region id #[⟨some d,.call {callee:=.builtin .recover,args:=#[],argTypes:=ats},ty,pos,af,none⟩,⟨some d1,op1,ty1,pos1,af1,none⟩,⟨some d2,op2,ty2,pos2,af2,none⟩,⟨some d3,op3,ty3,pos3,af3,none⟩,⟨some d4,op4,ty4,pos4,af4,none⟩,⟨some d5,op5,ty5,pos5,af5,none⟩,⟨some d6,op6,ty6,pos6,af6,none⟩] false).wpS P Q (act N e []) cs w:=
  s_reg0 (rest:=[1,2,3,4,5,6]) rfl rfl hr (so_val rfl h1 (so_val rfl h2 (so_val rfl h3 (so_val rfl h4 (so_val rfl h5 (so_val rfl h6 (so_nil h)))))))
theorem cmpI_ret {n b1 b2:Nat}{w:World}:
    CallsDIn Fence.wide n Tryz.prog 189 #[pT b1,pT b2] .returning w (λe u' w'=>(∃v,e=.returned v)∧u'=.returning∧w'=w):=by
  refine dIn (args:=[pT b1,pT b2]) Tryz.func189 rfl (λ_ _ hu=>?_)
  refine wpS_seq ?_
  refine s_reg7 (v1:=.tuple #[.nilIface,.bool false]) (v2:=.tuple #[.nilIface,.bool false]) (v3:=.nilIface) (v4:=.bool false) (v5:=.nilIface) (v6:=.bool false) (by simp[recoverD,hu]) ?_ ?_ ?_ ?_ ?_ ?_ ?_
  · have h:(Instr.typeAssert .nilIface 20 128 true).run Tryz.prog w=.ok (.tuple #[.nilIface,.bool false]) w:=by
      unfold Instr.typeAssert
      simp[run_underlying Tryz.underlying128]
    simp only[execOp]
    exact congrArg (λr=>Result.andThen r λa w'=>Result.ok (Next.value a) w') h
  · rfl
  · rfl
  · rfl
  · rfl
  · rfl
  refine wpS_of_wp (wpIn_wide (n:=0).1 ?_)
  refine c_seq (r:=none) ?_
  refine c_reg (r:=none) ?_
  refine l_op (r:=none) (k_move (v:=.bool false) rfl ?_)
  refine l_op (r:=none) (k_move (v:=.bool false) rfl ?_)
  with_reducible refine l_not (r:=none) (d:=12) (s:=11) ?_ ?_ ?_
  exact rfl
  exact rfl
  with_reducible refine l_not (r:=none) (d:=13) (s:=11) ?_ ?_ ?_
  exact rfl
  exact rfl
  with_reducible refine l_not (r:=none) (d:=14) (s:=11) ?_ ?_ ?_
  exact rfl
  exact rfl
  refine l_op (r:=none) (k_pick (t:=false) (v:=.bool false) rfl rfl ?_)
  refine l_nil ?_
  refine n_then ?_
  refine c_false (r:=none) rfl ?_
  refine c_skip (r:=none) ?_
  exact⟨rfl,.returning,by rw[<-hu],_,res0 rfl,⟨_,rfl⟩,rfl,rfl⟩
theorem cmpR_ret {n b1 b2:Nat}{w:World}:
    CallsDIn Fence.wide n Tryz.prog 235 #[pT b1,pT b2] .returning w (λe u' w'=>(∃v,e=.returned v)∧u'=.returning∧w'=w):=by
  refine dIn (args:=[pT b1,pT b2]) Tryz.func235 rfl (λ_ _ hu=>?_)
  refine wpS_seq ?_
  refine s_reg7 (v1:=.tuple #[.nilIface,.bool false]) (v2:=.tuple #[.nilIface,.bool false]) (v3:=.nilIface) (v4:=.bool false) (v5:=.nilIface) (v6:=.bool false) (by simp[recoverD,hu]) ?_ ?_ ?_ ?_ ?_ ?_ ?_
  · have h:(Instr.typeAssert .nilIface 20 128 true).run Tryz.prog w=.ok (.tuple #[.nilIface,.bool false]) w:=by
      unfold Instr.typeAssert
      simp[run_underlying Tryz.underlying128]
    simp only[execOp]
    exact congrArg (λr=>Result.andThen r λa w'=>Result.ok (Next.value a) w') h
  · rfl
  · rfl
  · rfl
  · rfl
  · rfl
  refine wpS_of_wp (wpIn_wide (n:=0).1 ?_)
  refine c_seq (r:=none) ?_
  refine c_reg (r:=none) ?_
  refine l_op (r:=none) (k_move (v:=.bool false) rfl ?_)
  refine l_op (r:=none) (k_move (v:=.bool false) rfl ?_)
  with_reducible refine l_not (r:=none) (d:=12) (s:=11) ?_ ?_ ?_
  exact rfl
  exact rfl
  with_reducible refine l_not (r:=none) (d:=13) (s:=11) ?_ ?_ ?_
  exact rfl
  exact rfl
  with_reducible refine l_not (r:=none) (d:=14) (s:=11) ?_ ?_ ?_
  exact rfl
  exact rfl
  refine l_op (r:=none) (k_pick (t:=false) (v:=.bool false) rfl rfl ?_)
  refine l_nil ?_
  refine n_then ?_
  refine c_false (r:=none) rfl ?_
  refine c_skip (r:=none) ?_
  exact⟨rfl,.returning,by rw[<-hu],_,res0 rfl,⟨_,rfl⟩,rfl,rfl⟩
abbrev dV (g b1 b2:Nat):Deferred:={target:=.fn (.func g) [Value.pointer (some ⟨b1,0,none⟩),Value.pointer (some ⟨b2,0,none⟩)].toArray,args:=#[]}
def RetsN (g b1 b2:Nat):Prop:=∀(n:Nat) (w:World),CallsDIn Fence.wide n Tryz.prog g #[pT b1,pT b2] .returning w (λe u' w'=>(∃v,e=.returned v)∧u'=.returning∧w'=w)
theorem f_inT {P:Program}{f:FuncId}{fn:Func}{c:Code}{args:List Value}{w:World}{R:Ending->World->Prop}(hf:P.funcs[f]?=some fn)(hb:fn.body=some c)(h:c.wpIn (Fw none) 0 P (bodyPostDIn Fence.wide 0 P fn R) (act (args.length+(fn.ntmps-args.length)) (ent args) []) w):Calls P f args.toArray w R:=by
  refine callsIn_wide.1 (callsIn_of_wp_defers (n:=0) hf hb trivial ?_)
  rw[act_start]
  exact h
theorem t_retV {fn:Func}{N g b1 b2:Nat}{e:Nat->Value}{w w':World}{R:Value->World->Prop}{v:Value}(hg:Enters Tryz.prog g)(hc:RetsN g b1 b2)(hx:Ext w w')(hr:(results fn (act N e [dV g b1 b2]).tmps).run Tryz.prog w'=.ok v w')(hR:R v w'):
    bodyPostDIn Fence.wide 0 Tryz.prog fn (Ret w R) .ret (act N e [dV g b1 b2]) w':=by
  refine leavesIn_cons (f:=g) (args:=#[pT b1,pT b2]) (by simp) (by simp[Fence.wide]) ?_ (λ_ _=>trivial) ?_
  · have h:=hg #[pT b1,pT b2] w'
    simpa[invoke]using h
  · refine CallsDIn.mono (hc _ _) ?_
    rintro _ _ _ ⟨⟨v',rfl⟩,rfl,rfl⟩
    exact⟨v,hr,hx,hR⟩
end Go.Proofs.YtinldhphnpflaaaGreatDoor
namespace Go.Proofs.YtinldhphnpflaaaGreatDoor
set_option maxRecDepth 100000
open Go Go.Eng Go.RowKit
attribute [local irreducible] wpListIn Code.wpIn Oper.wpIn Exit.then Exit.inBlock Exit.noGoto
set_option maxHeartbeats 40000000
def IvR (x:R×R):Prop:=∃a b c d,x.1=qR a b∧x.2=qR c d∧Q9 a b∧Q9 c d∧a*d<=c*b
def cellsI (l:List (R×R)):List Value:=l.flatMap λx=>[S x.1.1,S x.1.2,S x.2.1,S x.2.2]
def iAt (l:List (R×R))(i:Nat):R×R:=l.getD i (([],[]),([],[]))
theorem cellsI_get:∀{l:List (R×R)} {i:Nat},i<l.length->(cellsI l)[i*4]?=some (S (iAt l i).1.1)∧(cellsI l)[i*4+1]?=some (S (iAt l i).1.2)∧(cellsI l)[i*4+2]?=some (S (iAt l i).2.1)∧(cellsI l)[i*4+3]?=some (S (iAt l i).2.2)
  |a::t,0,_=>by simp[cellsI,iAt]
  | a::t,i+1,h=>by
    have ih:=cellsI_get (l:=t) (i:=i) (by simpa using h)
    rw[show(i+1)*4=i*4+4 by omega,show i*4+4+1=i*4+1+4 by omega,show i*4+4+2=i*4+2+4 by omega,show i*4+4+3=i*4+3+4 by omega]
    simpa[cellsI,iAt]using ih
theorem rw_quad {w:World}{lo i:Nat}{A:Option Addr}{l:List (R×R)}(h:Rw w lo A (cellsI l))(hi:i<l.length):
    ∃b o,A=some ⟨b,o,none⟩∧∀j u,[S (iAt l i).1.1,S (iAt l i).1.2,S (iAt l i).2.1,S (iAt l i).2.2][j]?=some u->w.cell? ⟨b,o+i*4+j,none⟩=some u:=by
  obtain⟨h1,h2,h3,h4⟩:=cellsI_get hi
  obtain⟨b,o,hA,hc1⟩:=h.cells _ _ h1
  obtain⟨_,_,hA2,hc2⟩:=h.cells _ _ h2
  obtain⟨_,_,hA3,hc3⟩:=h.cells _ _ h3
  obtain⟨_,_,hA4,hc4⟩:=h.cells _ _ h4
  rw[hA]at hA2 hA3 hA4;cases hA2;cases hA3;cases hA4
  refine⟨b,o,hA,λj u hu=>?_⟩
  match j,hu with
  |0,hu=>simp at hu;subst hu;simpa using hc1
  |1,hu=>simp at hu;subst hu;simpa[Nat.add_assoc]using hc2
  |2,hu=>simp at hu;subst hu;simpa[Nat.add_assoc]using hc3
  |3,hu=>simp at hu;subst hu;simpa[Nat.add_assoc]using hc4
theorem iAt_mem {l:List (R×R)}{i:Nat}(h:i<l.length):iAt l i∈l:=by unfold iAt;simp[h]
theorem okL {l m:List UInt8}{a b:Int}(e:(l,m)=qR a b)(h:Q9 a b):okR (l,m)=true:=e▸h.ok
theorem encCheck_ok {w:World}:
    CL 191 #[.bool true] w (Ret w λv w'=>v=.tuple #[]):=by
 refine f_in Tryz.func191 rfl ?_;refine go ?_;exact f_end (res0 rfl) (Ext.refl _) rfl
theorem encValid_ok {x:R×R}{w:World}(hx:IvR x)(ht:Tb w):
    CL 44 #[.agg #[S (x.1.1),S (x.1.2),S (x.2.1),S (x.2.2)]] w (Ret w λv w'=>v=.bool true):=by
 obtain⟨a,b,c,d,e1,e2,q1,q2,hle⟩:=hx;refine f_in Tryz.func44 rfl ?_;refine go ?_;refine bx (λ_ aoo r8=>?_);have sc:=aoo.2;refine go ?_;refine cl en82 (cB (rValid_ok _ _ _ (ht.ext sc)) (okL e1 q1)) ?_;rintro _ _ aol rfl;have⟨r8,sc⟩:=be1 aol.2 r8 sc;refine go ?_;refine cl en82 (cB (rValid_ok _ _ _ (ht.ext sc)) (okL e2 q2)) ?_;rintro _ _ aom rfl;have⟨r8,sc⟩:=be1 aom.2 r8 sc;refine go ?_;refine cl en49 (qCmpL e1 e2 q1 q2 (ht.ext sc)) ?_;rintro _ _ aon rfl;have sc:=xt sc aon.2;refine go ?_;exact f_ret1 (t:=2) (v:=.bool (decide ((cmpI (a*d) (c*b))<=0))) rfl sc (congrArg Value.bool (decide_eq_true (cmpI_nonpos.2 hle))) rfl
theorem encNotI_ok {x:R×R}{w:World}(hx:IvR x)(ht:Tb w):
    CL 193 #[.agg #[S (x.1.1),S (x.1.2),S (x.2.1),S (x.2.2)]] w (Ret w λv w'=>v=.bool false):=by
 refine f_in Tryz.func193 rfl ?_;refine go ?_;refine bx (λ_ aom sc=>?_);have r8:=aom.2;refine go ?_;refine l_op (k_loadA (cs:=[S (x.1.1),S (x.1.2),S (x.2.1),S (x.2.2)]) (b:=w.heap.size) (o:=0) U1032 rfl sz1032 rfl (Blk.cells sc (i:=0) rfl) ?_);refine cl en1056 (encValid_ok hx (ht.ext r8)) ?_;rintro _ _ aol rfl;have r8:=xt r8 aol.2;refine go ?_;exact f_ret1 (t:=2) (v:=.bool false) rfl r8 rfl rfl
theorem encNotR_ok {x:R×R}{w:World}(hx:IvR x)(ht:Tb w):
    CL 236 #[.agg #[S (x.1.1),S (x.1.2),S (x.2.1),S (x.2.2)]] w (Ret w λv w'=>v=.bool false):=by
 refine f_in Tryz.func236 rfl ?_;refine go ?_;refine bx (λ_ aom sc=>?_);have r8:=aom.2;refine go ?_;refine l_op (k_loadA (cs:=[S (x.1.1),S (x.1.2),S (x.2.1),S (x.2.2)]) (b:=w.heap.size) (o:=0) U1032 rfl sz1032 rfl (Blk.cells sc (i:=0) rfl) ?_);refine cl en1056 (encValid_ok hx (ht.ext r8)) ?_;rintro _ _ aol rfl;have r8:=xt r8 aol.2;refine go ?_;exact f_ret1 (t:=2) (v:=.bool false) rfl r8 rfl rfl
theorem index_ok {A:Option Addr}{n cp lo g:Nat}{l:List (R×R)}{w:World}(hr:Rw w lo A (cellsI l))(hn:l.length=n)(hb:n<=1000)(hg:Enters Tryz.prog g)(hf:∀i<n,∀W,Ext w W->CL g #[.agg #[S (iAt l i).1.1,S (iAt l i).1.2,S (iAt l i).2.1,S (iAt l i).2.2]] W (Ret W λv _=>v=.bool false)):
    CL 212 #[.slice A n cp,.func (.func g) #[] #[]] w (Ret w λv w'=>v=.int .i64 (-1)):=by
 refine f_in Tryz.func212 rfl ?_;refine go ?_;have aol:=Ext.refl w;refine c_lp [(4,5),(8,18)] (λkk e W=>∃i:Nat,(n-i=kk)∧(e 8=.int .i64 i)∧(i<=n)∧(Ext w W)) (n-0) ⟨0,rfl,rfl,(Nat.zero_le _),aol⟩ ?_;rintro _ _ _ ⟨i,rfl,sc,hi,r8⟩;have aoq:=bz r8;by_cases hl:i<n;obtain⟨bk,o,hA,hcs⟩:=rw_quad (hr.ext r8) (i:=i) om;refine go ?_;refine l_op (k_indexAddr (i:=i) (oo:=o+i*4) U1116 sz1032 rfl hA rfl om rfl ?_);refine l_op (k_loadA (cs:=[S (iAt l i).1.1,S (iAt l i).1.2,S (iAt l i).2.1,S (iAt l i).2.2]) (b:=bk) (o:=o+i*4) U1032 rfl sz1032 rfl hcs ?_);refine l_op (clV (vs:=[.agg #[S (iAt l i).1.1,S (iAt l i).1.2,S (iAt l i).2.1,S (iAt l i).2.2]]) (lb:=[]) hg rfl rfl (hf i om _ r8) ?_);rintro _ _ aom rfl;have r8:=xt r8 aom.2;refine go ?_;refine l_op (k_add (a:=(i:Int)) (b:=1) (c:=((i+1:Nat):Int)) sc rfl (by unfold In64;omega) om ?_);refine go ?_;exact lend ⟨i+1,rfl,rfl,om,r8⟩;refine go ?_;exact f_ret1 (t:=4) (v:=.int .i64 ((-1))) rfl r8 rfl rfl
theorem contains_ok {A:Option Addr}{n cp lo g:Nat}{l:List (R×R)}{w:World}(hr:Rw w lo A (cellsI l))(hn:l.length=n)(hb:n<=1000)(hg:Enters Tryz.prog g)(hf:∀i<n,∀W,Ext w W->CL g #[.agg #[S (iAt l i).1.1,S (iAt l i).1.2,S (iAt l i).2.1,S (iAt l i).2.2]] W (Ret W λv _=>v=.bool false)):
    CL 192 #[.slice A n cp,.func (.func g) #[] #[]] w (Ret w λv w'=>v=.bool false):=by
 refine f_in Tryz.func192 rfl ?_;refine go ?_;refine cl en1135 (index_ok (hr.ext (Ext.refl _)) hn hb hg (λi hi W e=>hf i hi W (xt (Ext.refl _) e))) ?_;rintro _ _ r8 rfl;have sc:=r8.2;refine go ?_;exact f_ret1 (t:=4) (v:=.bool false) rfl sc rfl rfl
theorem computeI_ok {gf n cp lo:Nat}{lb:List Value}{A:Option Addr}{l:List (R×R)}{x:R×R}{w:World}(hg:Enters Tryz.prog gf)(hr:Rw w lo A (cellsI l))(hn:l.length=n)(hb:n<=1000)(hv:∀x∈l,IvR x)(hc:∀W,Ext w W->CL gf lb.toArray W (Ret W λv _=>v=.agg #[S (x.1.1),S (x.1.2),S (x.2.1),S (x.2.2)]))(ht:Tb w):
    CL 161 #[.func (.func gf) #[] lb.toArray,.slice A n cp] w (Ret w λv w'=>v=.tuple #[.agg #[S (x.1.1),S (x.1.2),S (x.2.1),S (x.2.2)],.int .i64 0]):=by
 refine f_inT Tryz.func161 rfl ?_;refine go ?_;refine al inf1032 (λaom aou sc=>?_);have r8:=aou.2;refine al inf32 (λ_ aot aol=>?_);have⟨sc,r8⟩:=be1 aot.2 sc r8;refine go ?_;refine l_op (k_makeFunc (vf:=[]) (vc:=[pT w.heap.size,pT aom.heap.size]) rfl rfl ?_);refine l_op (k_deferV (lb:=[pT w.heap.size,pT aom.heap.size]) rfl ?_);refine go ?_;refine clb en1100 (hc:=contains_ok (hr.ext r8) hn hb en1101 (λi hi W e=>encNotI_ok (hv _ (iAt_mem om)) ((ht.ext r8).ext e))) (hk:=?_);rintro _ _ aon rfl;have⟨sc,aol,r8⟩:=be2 aon.2 sc aol r8;refine go ?_;refine cl en1099 encCheck_ok ?_;rintro _ _ aoo rfl;have⟨sc,aol,r8⟩:=be2 aoo.2 sc aol r8;refine go ?_;refine l_op (clV (f:=gf) (lb:=lb) (vs:=[]) hg rfl rfl (hc _ r8) ?_);rintro _ _ aop rfl;have⟨sc,aol,r8⟩:=be2 aop.2 sc aol r8;refine SA sc (λ_ aoq aor=>?_);have⟨aol,r8,_⟩:=pl1 aoq aol r8;refine SO aol (λ_ aos aov=>?_);have⟨aor,r8,_⟩:=pl1 aos aor r8;refine go ?_;refine t_retV (b1:=w.heap.size) (b2:=aom.heap.size) (v:=.tuple #[.agg #[S (x.1.1),S (x.1.2),S (x.2.1),S (x.2.2)],.int .i64 0]) en1097 (λ_ _=>cmpI_ret) r8 (res2 (r1:=.cell 4 37) (r2:=.cell 5 33) rfl ?_ ?_) rfl;refine res_cellA (t:=4) (cs:=[S (x.1.1),S (x.1.2),S (x.2.1),S (x.2.2)]) (b:=w.heap.size) (o:=0) U1032 rfl sz1032 ?_ ?_;exact rfl;exact Blk.cells aor (i:=0) rfl;refine res_cell (t:=5) (b:=aom.heap.size) (o:=0) U32 rfl ?_ ?_;exact rfl;exact Blk.cell aov rfl
theorem computeR_ok {gf n cp lo:Nat}{lb:List Value}{A:Option Addr}{l:List (R×R)}{x:R}{w:World}(hg:Enters Tryz.prog gf)(hr:Rw w lo A (cellsI l))(hn:l.length=n)(hb:n<=1000)(hv:∀x∈l,IvR x)(hc:∀W,Ext w W->CL gf lb.toArray W (Ret W λv _=>v=.agg #[S (x.1),S (x.2)]))(ht:Tb w):
    CL 225 #[.func (.func gf) #[] lb.toArray,.slice A n cp] w (Ret w λv w'=>v=.tuple #[.agg #[S (x.1),S (x.2)],.int .i64 0]):=by
 refine f_inT Tryz.func225 rfl ?_;refine go ?_;refine al inf36 (λaom aou sc=>?_);have r8:=aou.2;refine al inf32 (λ_ aot aol=>?_);have⟨sc,r8⟩:=be1 aot.2 sc r8;refine go ?_;refine l_op (k_makeFunc (vf:=[]) (vc:=[pT w.heap.size,pT aom.heap.size]) rfl rfl ?_);refine l_op (k_deferV (lb:=[pT w.heap.size,pT aom.heap.size]) rfl ?_);refine go ?_;refine clb en1100 (hc:=contains_ok (hr.ext r8) hn hb en1131 (λi hi W e=>encNotR_ok (hv _ (iAt_mem om)) ((ht.ext r8).ext e))) (hk:=?_);rintro _ _ aon rfl;have⟨sc,aol,r8⟩:=be2 aon.2 sc aol r8;refine go ?_;refine cl en1099 encCheck_ok ?_;rintro _ _ aoo rfl;have⟨sc,aol,r8⟩:=be2 aoo.2 sc aol r8;refine go ?_;refine l_op (clV (f:=gf) (lb:=lb) (vs:=[]) hg rfl rfl (hc _ r8) ?_);rintro _ _ aop rfl;have⟨sc,aol,r8⟩:=be2 aop.2 sc aol r8;refine SA sc (λ_ aoq aor=>?_);have⟨aol,r8,_⟩:=pl1 aoq aol r8;refine SO aol (λ_ aos aov=>?_);have⟨aor,r8,_⟩:=pl1 aos aor r8;refine go ?_;refine t_retV (b1:=w.heap.size) (b2:=aom.heap.size) (v:=.tuple #[.agg #[S (x.1),S (x.2)],.int .i64 0]) en1130 (λ_ _=>cmpR_ret) r8 (res2 (r1:=.cell 4 25) (r2:=.cell 5 33) rfl ?_ ?_) rfl;refine res_cellA (t:=4) (cs:=[S (x.1),S (x.2)]) (b:=w.heap.size) (o:=0) U36 rfl sz36 ?_ ?_;exact rfl;exact Blk.cells aor (i:=0) rfl;refine res_cell (t:=5) (b:=aom.heap.size) (o:=0) U32 rfl ?_ ?_;exact rfl;exact Blk.cell aov rfl
theorem must_ok {l m:List UInt8}{w:World}:
    CL 194 #[.agg #[S l,S m],.int .i64 0] w (Ret w λv w'=>v=.agg #[S l,S m]):=by
 refine f_in Tryz.func194 rfl ?_;refine go ?_;refine bx (λaoo aoq r8=>?_);have sc:=aoq.2;refine al inf36 (λ_ aop aol=>?_);have⟨r8,sc⟩:=be1 aop.2 r8 sc;refine go ?_;refine cl en1099 encCheck_ok ?_;rintro _ _ aom rfl;have⟨r8,aol,sc⟩:=be2 aom.2 r8 aol sc;refine go ?_;refine SA aol (λ_ aon aor=>?_);have⟨r8,sc,_⟩:=pl1 aon r8 sc;refine go ?_;refine f_out (v:=.agg #[S l,S m]) (res1  rfl ?_) sc rfl;refine res_cellA (t:=4) (cs:=[S l,S m]) (b:=aoo.heap.size) (o:=0) U36 rfl sz36 ?_ ?_;exact rfl;exact Blk.cells aor (i:=0) rfl
def flI (a b t:Int):Int:=a*t/b
def clI (a b t:Int):Int:=if a*t%b=0 then a*t/b else a*t/b+1
theorem red_div {a b t:Int}(hb:0<b):redN a b*t/redD a b=a*t/b∧(redN a b*t%redD a b=0↔a*t%b=0):=by
  have h1:=rq_n (n:=a) hb
  have h2:=rq_d (n:=a) hb
  have hg:=gcd_pos (n:=a) hb
  generalize redN a b=p at *
  generalize redD a b=q at *
  generalize ((Int.gcd a b:Nat):Int)=g at *
  subst h1 h2
  rw[show p*g*t=p*t*g by grind]
  refine⟨(Int.mul_ediv_mul_of_pos_left _ _ hg).symm,?_⟩
  rw[Int.mul_comm (p*t) g,Int.mul_comm q g,Int.mul_emod_mul_of_pos _ _ hg]
  constructor
  · intro h;rw[h,Int.mul_zero]
  · intro h;rcases Int.mul_eq_zero.1 h with h|h;omega;exact h
theorem rd_fl {a b t:Int}(hb:0<b):rdI (redN a b) (redD a b) t false=flI a b t:=by
  unfold rdI flI;rw[if_neg (λe=>absurd e.1 dc),(red_div hb).1]
theorem rd_cl {a b t:Int}(hb:0<b):rdI (redN a b) (redD a b) t true=clI a b t:=by
  unfold rdI clI
  rw[(red_div hb).1]
  by_cases h:a*t%b=0
  · rw[if_pos h,if_neg (λe=>e.2 (showI_zero.2 ((red_div hb).2.2 h)))]
  · rw[if_neg h,if_pos ⟨rfl,λe=>h ((red_div hb).2.1 (showI_zero.1 e))⟩]
def tenI (pl:Nat):Int:=((10^pl:Nat):Int)
theorem ten_pos (pl:Nat):0<tenI pl:=by unfold tenI;have:=Nat.pow_pos (n:=pl) (show 0<10 by decide);omega
theorem ten_le {pl:Nat}(h:pl<=30):tenI pl<=10^30:=by
  unfold tenI
  have h1:(10:Nat)^pl<=10^30:=Nat.pow_le_pow_right dc h
  have h2:(((10:Nat)^30:Nat):Int)=(10:Int)^30:=by decide
  omega
theorem rd_bound {a b:Int}{pl:Nat}(h:Q9 a b)(hp:pl<=30):(redN a b*tenI pl).natAbs<10^199:=by
  have h1:=h.red.1
  have h2:(tenI pl).natAbs<=10^30:=by have:=ten_le hp;have:=ten_pos pl;omega
  rw[Int.natAbs_mul]
  have h3:(redN a b).natAbs*(tenI pl).natAbs<=10^90*10^30:=Nat.mul_le_mul om h2
  have h4:10^90*10^30<10^199:=by decide
  omega
theorem qDown_ok {l m:List UInt8}{a b:Int}{pl:Nat}{w:World}(e:(l,m)=qR a b)(h:Q9 a b)(hp:pl<=30)(ht:Tb w):CL 159 #[.agg #[S l,S m],.int .i64 pl] w (Ret w λv _=>v=Qv (flI a b (tenI pl)) (tenI pl)):=by
  rw[show l=(qR a b).1 from congrArg Prod.fst e,show m=(qR a b).2 from congrArg Prod.snd e]
  exact cEq (rDown_ok h.ok (fz_rn h.2.1 h.fz.1) (fz_rd h.2.1 h.fz.2) hp (rd_bound h hp) ht) (congrArg (λz=>Qv z (tenI pl)) (rd_fl h.2.1))
theorem qUp_ok {l m:List UInt8}{a b:Int}{pl:Nat}{w:World}(e:(l,m)=qR a b)(h:Q9 a b)(hp:pl<=30)(ht:Tb w):CL 160 #[.agg #[S l,S m],.int .i64 pl] w (Ret w λv _=>v=Qv (clI a b (tenI pl)) (tenI pl)):=by
  rw[show l=(qR a b).1 from congrArg Prod.fst e,show m=(qR a b).2 from congrArg Prod.snd e]
  exact cEq (rUp_ok h.ok (fz_rn h.2.1 h.fz.1) (fz_rd h.2.1 h.fz.2) hp (rd_bound h hp) ht) (congrArg (λz=>Qv z (tenI pl)) (rd_cl h.2.1))
theorem round1_ok {b1 b2 pl:Nat}{a b c d:Int}{x:R×R}{w:World}(e1:x.1=qR a b)(e2:x.2=qR c d)(q1:Q9 a b)(q2:Q9 c d)(hb1:Blk w b1 37 #[S x.1.1,S x.1.2,S x.2.1,S x.2.2])(hb2:Blk w b2 3 #[.int .i64 pl])(hp:pl<=30)(ht:Tb w):
    CL 224 #[pT b1,pT b2] w (Ret w λv w'=>v=IV (flI a b (tenI pl)) (tenI pl) (clI c d (tenI pl)) (tenI pl)):=by
 have zb1:=bt hb1;have zb2:=bt hb2;refine f_in Tryz.func224 rfl ?_;refine go ?_;refine al inf1032 (λ_ aot r8=>?_);have⟨hb1,hb2⟩:=bf2 aot.2 hb1 hb2;have sc:=aot.2;refine go ?_;refine c_an 13 ?_;refine sf ?_;refine sf_ae (V:=.tuple #[QV (flI a b (tenI pl)) (tenI pl),.int .i64 0]) (λ_ _ aol _=>?_) ?_;refine cl en1090 (qDown_ok e1 q1 hp (ht.ext (xt sc aol))) ?_;rintro _ _ aom rfl;have ao5:=aom.2;refine go ?_;exact fs ⟨ao5,rfl⟩;refine sf ?_;refine sf_ae (V:=QV (flI a b (tenI pl)) (tenI pl)) (λ_ _ _ _=>?_) ?_;refine cl en1089 must_ok ?_;rintro _ _ aon rfl;have ao6:=aon.2;refine go ?_;exact fs ⟨ao6,rfl⟩;refine sf ?_;refine sf_ae (V:=.tuple #[QV (clI c d (tenI pl)) (tenI pl),.int .i64 0]) (λ_ _ aoo _=>?_) ?_;refine cl en1091 (qUp_ok e2 q2 hp (ht.ext (xt sc aoo))) ?_;rintro _ _ aop rfl;have ao7:=aop.2;refine go ?_;exact fs ⟨ao7,rfl⟩;refine sf ?_;intro _ _ aoq _;have⟨hb1,hb2,r8,sc⟩:=be3 aoq.2 hb1 hb2 r8 sc;refine cl en1089 must_ok ?_;rintro _ _ aor rfl;have⟨hb1,hb2,r8,sc⟩:=be3 aor.2 hb1 hb2 r8 sc;refine l_op (k_build (vs:=[(0,QV (flI a b (tenI pl)) (tenI pl)),(1,QV (clI c d (tenI pl)) (tenI pl))]) (cells:=#[S ((qR (flI a b (tenI pl)) (tenI pl)).1),S ((qR (flI a b (tenI pl)) (tenI pl)).2),S ((qR (clI c d (tenI pl)) (tenI pl)).1),S ((qR (clI c d (tenI pl)) (tenI pl)).2)]) (pl:=[(0,2),(2,2)]) U1032 inf1032 (by kernel_rfl) rfl (by kernel_rfl) ?_)
 refine SA r8 (λ_ aos ao8=>?_);have⟨hb1,hb2,sc,_⟩:=pl2 aos hb1 hb2 sc;refine go ?_;refine f_out (v:=IV (flI a b (tenI pl)) (tenI pl) (clI c d (tenI pl)) (tenI pl)) (res1  rfl ?_) sc rfl;refine res_cellA (t:=2) (cs:=[S ((qR (flI a b (tenI pl)) (tenI pl)).1),S ((qR (flI a b (tenI pl)) (tenI pl)).2),S ((qR (clI c d (tenI pl)) (tenI pl)).1),S ((qR (clI c d (tenI pl)) (tenI pl)).2)]) (b:=w.heap.size) (o:=0) U1032 rfl sz1032 ?_ ?_;exact rfl;exact Blk.cells ao8 (i:=0) rfl
theorem round_ok {pl:Nat}{a b c d:Int}{x:R×R}{w:World}(e1:x.1=qR a b)(e2:x.2=qR c d)(q1:Q9 a b)(q2:Q9 c d)(hle:a*d<=c*b)(hp:pl<=30)(ht:Tb w):
    CL 208 #[.agg #[S (x.1.1),S (x.1.2),S (x.2.1),S (x.2.2)],.int .i64 pl] w (Ret w λv w'=>v=.tuple #[IV (flI a b (tenI pl)) (tenI pl) (clI c d (tenI pl)) (tenI pl),.int .i64 0]):=by
 refine f_in Tryz.func208 rfl ?_;refine go ?_;refine bx (λaor aou sc=>?_);have r8:=aou.2;refine bx (λaos aot aol=>?_);have⟨sc,r8⟩:=be1 aot.2 sc r8;refine al inf1032 (λ_ aoq aom=>?_);have⟨sc,aol,r8⟩:=be2 aoq.2 sc aol r8;refine go ?_;refine l_op (k_makeFunc (vf:=[]) (vc:=[pT w.heap.size,pT aor.heap.size]) rfl rfl ?_);refine l_op (k_loadA (cs:=[S (x.1.1),S (x.1.2),S (x.2.1),S (x.2.2)]) (b:=w.heap.size) (o:=0) U1032 rfl sz1032 rfl (Blk.cells sc (i:=0) rfl) ?_);refine BS (λ_ aon _ aow=>?_);have⟨sc,aol,aom,r8⟩:=be3 aon sc aol aom r8;have ao0:=bz aon;refine clb en1053 (hc:=computeI_ok (l:=[x]) (x:=(qR (flI a b (tenI pl)) (tenI pl),qR (clI c d (tenI pl)) (tenI pl))) en1088 (Rw.of_own aow) rfl (by simp) (λy hy=>by rw[List.mem_singleton.1 hy];exact⟨a,b,c,d,e1,e2,q1,q2,hle⟩) (λW e=>round1_ok e1 e2 q1 q2 (sc.ext e) (aol.ext e) hp ((ht.ext r8).ext e)) (ht.ext r8)) (hk:=?_);rintro _ _ aoo rfl;have⟨sc,aol,aom,r8⟩:=be3 aoo.2 sc aol aom r8;refine go ?_;refine SA aom (λ_ aop aox=>?_);have⟨sc,aol,r8,_⟩:=pl2 aop sc aol r8;refine go ?_;refine f_out (v:=.tuple #[IV (flI a b (tenI pl)) (tenI pl) (clI c d (tenI pl)) (tenI pl),.int .i64 0]) (res2 (r1:=.cell 4 37) (r2:=.tmp 5) rfl ?_ ?_) r8 rfl
 refine res_cellA (t:=4) (cs:=[S ((qR (flI a b (tenI pl)) (tenI pl)).1),S ((qR (flI a b (tenI pl)) (tenI pl)).2),S ((qR (clI c d (tenI pl)) (tenI pl)).1),S ((qR (clI c d (tenI pl)) (tenI pl)).2)]) (b:=aos.heap.size) (o:=0) U1032 rfl sz1032 ?_ ?_;exact rfl;exact Blk.cells aox (i:=0) rfl;exact res_tmp (t:=5) (by exact rfl) _
theorem width1_ok {b1:Nat}{a b c d:Int}{x:R×R}{w:World}(e1:x.1=qR a b)(e2:x.2=qR c d)(q1:Q9 a b)(q2:Q9 c d)(hb1:Blk w b1 37 #[S x.1.1,S x.1.2,S x.2.1,S x.2.2])(ht:Tb w):
    CL 226 #[pT b1] w (Ret w λv w'=>v=QV (c*b-a*d) (d*b)):=by
 have zb1:=bt hb1;refine f_in Tryz.func226 rfl ?_;refine go ?_;refine al inf36 (λ_ aoo sc=>?_);have hb1:=be aoo.2 hb1;have r8:=aoo.2;refine go ?_;refine cl en220 (qSubL e2 e1 q2 q1 (ht.ext r8)) ?_;rintro _ _ aol rfl;have⟨hb1,sc,r8⟩:=be2 aol.2 hb1 sc r8;refine go ?_;refine cl en1089 must_ok ?_;rintro _ _ aom rfl;have⟨hb1,sc,r8⟩:=be2 aom.2 hb1 sc r8;refine SA sc (λ_ aon aop=>?_);have⟨hb1,r8,_⟩:=pl1 aon hb1 r8;refine go ?_;refine f_out (v:=QV (c*b-a*d) (d*b)) (res1  rfl ?_) r8 rfl;refine res_cellA (t:=1) (cs:=[S ((qR (c*b-a*d) (d*b)).1),S ((qR (c*b-a*d) (d*b)).2)]) (b:=w.heap.size) (o:=0) U36 rfl sz36 ?_ ?_;exact rfl;exact Blk.cells aop (i:=0) rfl
theorem width_ok {a b c d:Int}{x:R×R}{w:World}(e1:x.1=qR a b)(e2:x.2=qR c d)(q1:Q9 a b)(q2:Q9 c d)(hle:a*d<=c*b)(ht:Tb w):
    CL 209 #[.agg #[S (x.1.1),S (x.1.2),S (x.2.1),S (x.2.2)]] w (Ret w λv w'=>v=.tuple #[QV (c*b-a*d) (d*b),.int .i64 0]):=by
 refine f_in Tryz.func209 rfl ?_;refine go ?_;refine bx (λaop aor sc=>?_);have r8:=aor.2;refine al inf36 (λ_ aoq aol=>?_);have⟨sc,r8⟩:=be1 aoq.2 sc r8;refine go ?_;refine l_op (k_makeFunc (vf:=[]) (vc:=[pT w.heap.size]) rfl rfl ?_);refine l_op (k_loadA (cs:=[S (x.1.1),S (x.1.2),S (x.2.1),S (x.2.2)]) (b:=w.heap.size) (o:=0) U1032 rfl sz1032 rfl (Blk.cells sc (i:=0) rfl) ?_);refine BS (λ_ aom _ aot=>?_);have⟨sc,aol,r8⟩:=be2 aom sc aol r8;have aox:=bz aom;refine clb en1092 (hc:=computeR_ok (l:=[x]) (x:=qR (c*b-a*d) (d*b)) en1093 (Rw.of_own aot) rfl (by simp) (λy hy=>by rw[List.mem_singleton.1 hy];exact⟨a,b,c,d,e1,e2,q1,q2,hle⟩) (λW e=>width1_ok e1 e2 q1 q2 (sc.ext e) ((ht.ext r8).ext e)) (ht.ext r8)) (hk:=?_);rintro _ _ aon rfl;have⟨sc,aol,r8⟩:=be2 aon.2 sc aol r8;refine go ?_;refine SA aol (λ_ aoo aou=>?_);have⟨sc,r8,_⟩:=pl1 aoo sc r8;refine go ?_;refine f_out (v:=.tuple #[QV (c*b-a*d) (d*b),.int .i64 0]) (res2 (r1:=.cell 2 25) (r2:=.tmp 3) rfl ?_ ?_) r8 rfl;refine res_cellA (t:=2) (cs:=[S ((qR (c*b-a*d) (d*b)).1),S ((qR (c*b-a*d) (d*b)).2)]) (b:=aop.heap.size) (o:=0) U36 rfl sz36 ?_ ?_;exact rfl;exact Blk.cells aou (i:=0) rfl;exact res_tmp (t:=3) (by exact rfl) _
theorem point_ok {l m:List UInt8}{a b:Int}{w:World}(e1:(l,m)=qR a b)(q1:Q9 a b)(ht:Tb w):
    CL 32 #[.agg #[S l,S m]] w (Ret w λv w'=>v=.agg #[S l,S m,S l,S m]):=by
 refine f_in Tryz.func32 rfl ?_;refine go ?_;refine bx (λaoo aoq r8=>?_);have sc:=aoq.2;refine al inf1032 (λ_ aop aol=>?_);have⟨r8,sc⟩:=be1 aop.2 r8 sc;refine go ?_;refine cl en82 (cB (rValid_ok _ _ _ (ht.ext sc)) (okL e1 q1)) ?_;rintro _ _ aom rfl;have⟨r8,aol,sc⟩:=be2 aom.2 r8 aol sc;refine go ?_;refine l_op (k_build (vs:=[(0,.agg #[S l,S m]),(1,.agg #[S l,S m])]) (cells:=#[S l,S m,S l,S m]) (pl:=[(0,2),(2,2)]) U1032 inf1032 (by kernel_rfl) rfl (by kernel_rfl) ?_);refine SA aol (λ_ aon aor=>?_);have⟨r8,sc,_⟩:=pl1 aon r8 sc;refine go ?_;refine f_out (v:=.agg #[S l,S m,S l,S m]) (res1  rfl ?_) sc rfl;refine res_cellA (t:=2) (cs:=[S l,S m,S l,S m]) (b:=aoo.heap.size) (o:=0) U1032 rfl sz1032 ?_ ?_;exact rfl;exact Blk.cells aor (i:=0) rfl
theorem showN_12 {n:Nat}(h:n<10^12):(showN n).length<=12:=by
  unfold showN;split
  · simp
  · rw[showD_length];exact(length_toB_le_iff 10 om n 12).2 h
theorem short_1 {l m:List UInt8}{a b:Int}(e:(l,m)=qR a b)(h:Q9 a b)(ha:a.natAbs<10^12):(((body l).length:Nat):Int)<=12:=by
  rw[show l=showI (redN a b)from congrArg Prod.fst e,body_showI]
  have:=showN_12 (Nat.lt_of_le_of_lt (rq_abs h.2.1) ha)
  omega
theorem short_2 {l m:List UInt8}{a b:Int}(e:(l,m)=qR a b)(h:Q9 a b)(hb:b<10^12):((m.length:Nat):Int)<=12:=by
  rw[show m=showI (redD a b)from congrArg Prod.snd e]
  have h1:=rq_pos (n:=a) h.2.1
  have h2:=rq_le (n:=a) h.2.1
  unfold showI
  rw[if_neg om]
  have:=showN_12 (n:=(redD a b).natAbs) om
  omega
def rightB (pl:Nat)(a b la lb ha hb:Int):Bool:=decide ((pl:Int)<=12)&&(decide (0<=cmpI (a*lb) (la*b))&&decide (cmpI (a*hb) (ha*b)<=0))
theorem isShort_ok {l m:List UInt8}{a b:Int}{w:World}(e:(l,m)=qR a b)(h:Q9 a b)(ha:a.natAbs<10^12)(hb:b<10^12)(ht:Tb w):
    CL 64 #[.agg #[S l,S m]] w (Ret w λv w'=>v=.bool true):=by
 have h1:=short_1 e h ha;have h2:=short_2 e h hb;refine f_in Tryz.func64 rfl ?_;refine go ?_;refine bx (λ_ aon r8=>?_);have sc:=aon.2;refine go ?_;refine cl en82 (cB (rValid_ok _ _ _ (ht.ext sc)) (okL e h)) ?_;rintro _ _ aol rfl;have⟨r8,sc⟩:=be1 aol.2 r8 sc;refine go ?_;refine cl en136 (body_ok _ _) ?_;rintro _ _ aom rfl;have⟨r8,sc⟩:=be1 aom.2 r8 sc;refine go ?_;refine l_op (k_lenL (l:=body l) U9 rfl ?_);refine go ?_;refine l_op (k_lenL (l:=m) U9 rfl ?_);refine go ?_;exact f_ret1 (t:=2) (v:=.bool (decide ((((m).length:Nat):Int)<=12))) rfl sc (congrArg Value.bool (decide_eq_true h2)) rfl
theorem isRight_ok {l m l1 m1 l2 m2 l3 m3 l4 m4:List UInt8}{fu:Value}{a b la lb ha hb:Int}{pl:Nat}{w:World}(e:(l,m)=qR a b)(h:Q9 a b)(ha12:a.natAbs<10^12)(hb12:b<10^12)(e1:(l1,m1)=qR la lb)(q1:Q9 la lb)(e2:(l2,m2)=qR ha hb)(q2:Q9 ha hb)(hu:fu.cells=#[fu])(ht:Tb w):
    CL 30 #[.agg #[S l1,S m1,S l2,S m2,S l3,S m3,S l4,S m4,fu],.agg #[S l,S m],.int .i64 pl] w (Ret w λv w'=>v=.bool (rightB pl a b la lb ha hb)):=by
 refine f_in Tryz.func30 rfl ?_;refine go ?_;refine bx (λ_ aox aom=>?_);have r8:=aox.2;refine bx (λ_ aow aol=>?_);have⟨aom,r8⟩:=be1 aow.2 aom r8;refine go ?_;by_cases aoo:0<=(pl:Int);by_cases sc:(pl:Int)<=12;by_cases aon:0<=(cmpI (a*lb) (la*b));refine go ?_;refine cl en1086 (isShort_ok e h ha12 hb12 (ht.ext r8)) ?_;rintro _ _ aoq rfl;have⟨aom,aol,r8⟩:=be2 aoq.2 aom aol r8;refine go ?_;refine cl en49 (qCmpL e e1 h q1 (ht.ext r8)) ?_;rintro _ _ aor rfl;have⟨aom,aol,r8⟩:=be2 aor.2 aom aol r8;refine go ?_;refine cl en49 (qCmpL e e2 h q2 (ht.ext r8)) ?_;rintro _ _ aos rfl;have r8:=xt r8 aos.2;refine go ?_;exact f_ret1 (t:=6) (v:=.bool (decide ((cmpI (a*hb) (ha*b))<=0))) rfl r8 (by unfold rightB;rw[decide_eq_true sc];rw[decide_eq_true aon];first|rfl|simp) rfl;refine go ?_;refine cl en1086 (isShort_ok e h ha12 hb12 (ht.ext r8)) ?_;rintro _ _ aot rfl;have⟨aom,aol,r8⟩:=be2 aot.2 aom aol r8;refine go ?_;refine cl en49 (qCmpL e e1 h q1 (ht.ext r8)) ?_;rintro _ _ aou rfl;have r8:=xt r8 aou.2;refine go ?_;exact f_ret1 (t:=6) (v:=.bool false) rfl r8 (by unfold rightB;rw[decide_eq_true sc];rw[decide_eq_false aon];first|rfl|simp) rfl;refine go ?_;refine cl en1086 (isShort_ok e h ha12 hb12 (ht.ext r8)) ?_;rintro _ _ aov rfl;have r8:=xt r8 aov.2;refine go ?_;exact f_ret1 (t:=6) (v:=.bool false) rfl r8 (by unfold rightB;rw[decide_eq_false sc];first|rfl|simp) rfl;omega
end Go.Proofs.YtinldhphnpflaaaGreatDoor
namespace Go.Proofs.YtinldhphnpflaaaGreatDoor
open Go Go.Eng Go.RowKit
theorem g36:Tryz.prog.eqGuardType Tryz.prog.depth 25=false:=by kernel_rfl
theorem st36:Tryz.prog.stoodInHeld 25=false:=by kernel_rfl
theorem part9 (w:World)(cs:Array Value)(i:Nat)(v:Value)(h:cs[i]?=some v):(part 9 cs i).run Tryz.prog w=.ok v w:=by
  unfold part
  simp[isAgg,run_underlying Tryz.underlying9,h]
theorem eq9 (w:World)(a b:List UInt8)(d:Nat):(Op.equalIn (d+1) 9 (S a) (S b)).run Tryz.prog w=.ok (decide (a=b)) w:=by
  unfold Op.equalIn
  simp[run_underlying Tryz.underlying9,S]
  have h:∀x y:ByteArray,(x==y)=(x.data==y.data):=λx y=>by cases x;cases y;rfl
  rw[h]
  exact Bool.eq_iff_iff.2 (by simp)
theorem eq36 (w:World)(a b:R):(Op.equal 25 (.agg #[S a.1,S a.2]) (.agg #[S b.1,S b.2])).run Tryz.prog w=.ok (decide (a=b)) w:=by
  unfold Op.equal Op.maxDepth
  show(Op.equalIn (9998+1+1) 25 _ _).run _ _=_
  unfold Op.equalIn
  obtain⟨a1,a2⟩:=a
  obtain⟨b1,b2⟩:=b
  have p1:=part9 w #[S a1,S a2] 0 (S a1) rfl
  have p2:=part9 w #[S a1,S a2] 1 (S a2) rfl
  have p3:=part9 w #[S b1,S b2] 0 (S b1) rfl
  have p4:=part9 w #[S b1,S b2] 1 (S b2) rfl
  have e1:=eq9 w a1 b1 9998
  have e2:=eq9 w a2 b2 9998
  simp[run_underlying Tryz.underlying25,st36,p1,p2,p3,p4,e1,e2]
  by_cases h1:a1=b1 <;>by_cases h2:a2=b2 <;>simp[h1,h2]
section
variable {r:Option Nat}{n N:Nat}{e:Nat->Value}{ds:List Deferred}{w:World}{Q:Exit->Act->World->Prop}{K:Act->World->Prop}
variable {d ty:Nat}{pos:String}{af:Array Edge}{g:Option (Nat×Bool)}{v u:Value}{x y:Operand}{t t':TypeId}
theorem guard36 {op:BinOp}(x y:Operand)(a b:Array Value):(eqGuard op 25 x y (.agg a) (.agg b)).run Tryz.prog w=.ok () w:=by
  unfold eqGuard
  cases op <;>simp[g36]
theorem k_eqlR {a b:R}{q:Bool}(hx:ev N e x=.agg #[S a.1,S a.2])(hy:ev N e y=.agg #[S b.1,S b.2])(hq:decide (a=b)=q)(hk:K (act N (upd e d (.bool q)) ds) w):
    Oper.wpIn (Fw r) n Tryz.prog ⟨some d,.binOp .eql 25 x y t',ty,pos,af,g⟩ (act N e ds) w K Q:=
  k_bin hx hy (guard36 ..) (by subst hq;simp[binOp,eq36]) hk
end
theorem g1032:Tryz.prog.eqGuardType Tryz.prog.depth 37=false:=by kernel_rfl
theorem st1032:Tryz.prog.stoodInHeld 37=false:=by kernel_rfl
theorem eq36d (w:World)(a b:R)(d:Nat):(Op.equalIn (d+1+1) 25 (.agg #[S a.1,S a.2]) (.agg #[S b.1,S b.2])).run Tryz.prog w=.ok (decide (a=b)) w:=by
  unfold Op.equalIn
  obtain⟨a1,a2⟩:=a
  obtain⟨b1,b2⟩:=b
  have p1:=part9 w #[S a1,S a2] 0 (S a1) rfl
  have p2:=part9 w #[S a1,S a2] 1 (S a2) rfl
  have p3:=part9 w #[S b1,S b2] 0 (S b1) rfl
  have p4:=part9 w #[S b1,S b2] 1 (S b2) rfl
  have e1:=eq9 w a1 b1 d
  have e2:=eq9 w a2 b2 d
  simp[run_underlying Tryz.underlying25,st36,p1,p2,p3,p4,e1,e2]
  by_cases h1:a1=b1 <;>by_cases h2:a2=b2 <;>simp[h1,h2]
abbrev Iv (x:R×R):Value:=.agg #[S x.1.1,S x.1.2,S x.2.1,S x.2.2]
section
variable {P:Program}{r:Option Nat}{n N:Nat}{e:Nat->Value}{ds:List Deferred}{w:World}{Q:Exit->Act->World->Prop}{K:Act->World->Prop}
variable {d ty:Nat}{pos:String}{af:Array Edge}{g:Option (Nat×Bool)}{v u:Value}{x y:Operand}{t t':TypeId}
theorem k_field {fs:Array Field}{f:Field}{cs:List Value}{k off ft:Nat}{D:TypeDesc}(hu:P.underlying t=some (.struct fs))(hf:fs[k]?=some f)(ho:f.offset=off)(hft:f.type=ft)(hD:P.underlying ft=some D)(hd:D.isRow=false)(hx:ev N e x=.agg cs.toArray)(hv:cs[off]?=some v)(hk:K (act N (upd e d v) ds) w):Oper.wpIn (Fw r) n P ⟨some d,.field t x k,ty,pos,af,g⟩ (act N e ds) w K Q:=by
  subst ho hft
  refine k_val (v:=v) (w':=w) rfl ?_ (by rw[act_put];exact hk)
  have hagg:(isAgg f.type).run P w=.ok false w:=by
    unfold isAgg
    rw[Sem.run_bind,run_underlying hD w]
    cases D <;>simp_all
  have hv':cs.toArray[f.offset]?=some v:=by rw[List.getElem?_toArray];exact hv
  simp[execOp,hx,Instr.field,run_underlying hu,hf,asAgg,part,hagg,hv]
end
theorem part36a (w:World)(a b c d:List UInt8):(part 25 #[S a,S b,S c,S d] 0).run Tryz.prog w=.ok (.agg #[S a,S b]) w:=by
  unfold part
  simp[isAgg,run_underlying Tryz.underlying25]
theorem part36b (w:World)(a b c d:List UInt8):(part 25 #[S a,S b,S c,S d] 2).run Tryz.prog w=.ok (.agg #[S c,S d]) w:=by
  unfold part
  simp[isAgg,run_underlying Tryz.underlying25]
theorem eq1032 (w:World)(x y:R×R):(Op.equal 37 (Iv x) (Iv y)).run Tryz.prog w=.ok (decide (x=y)) w:=by
  unfold Op.equal Op.maxDepth
  show(Op.equalIn (9997+1+1+1) 37 _ _).run _ _=_
  unfold Op.equalIn
  obtain⟨⟨a1,a2⟩,a3,a4⟩:=x
  obtain⟨⟨b1,b2⟩,b3,b4⟩:=y
  have p1:=part36a w a1 a2 a3 a4
  have p2:=part36b w a1 a2 a3 a4
  have p3:=part36a w b1 b2 b3 b4
  have p4:=part36b w b1 b2 b3 b4
  have e1:=eq36d w (a1,a2) (b1,b2) 9997
  have e2:=eq36d w (a3,a4) (b3,b4) 9997
  simp only[]at e1 e2
  simp[run_underlying Tryz.underlying37,st1032,p1,p2,p3,p4,e1,e2]
  by_cases h1:a1=b1 <;>by_cases h2:a2=b2 <;>by_cases h3:a3=b3 <;>by_cases h4:a4=b4 <;>simp[h1,h2,h3,h4]
section
variable {r:Option Nat}{n N:Nat}{e:Nat->Value}{ds:List Deferred}{w:World}{Q:Exit->Act->World->Prop}{K:Act->World->Prop}
variable {d ty:Nat}{pos:String}{af:Array Edge}{g:Option (Nat×Bool)}{v u:Value}{x y:Operand}{t t':TypeId}
theorem guard1032 {op:BinOp}(x y:Operand)(a b:Array Value):(eqGuard op 37 x y (.agg a) (.agg b)).run Tryz.prog w=.ok () w:=by
  unfold eqGuard
  cases op <;>simp[g1032]
theorem k_eqlI {a b:R×R}{q:Bool}(hx:ev N e x=Iv a)(hy:ev N e y=Iv b)(hq:decide (a=b)=q)(hk:K (act N (upd e d (.bool q)) ds) w):
    Oper.wpIn (Fw r) n Tryz.prog ⟨some d,.binOp .eql 37 x y t',ty,pos,af,g⟩ (act N e ds) w K Q:=
  k_bin hx hy (guard1032 ..) (by subst hq;simp[binOp,eq1032]) hk
end
end Go.Proofs.YtinldhphnpflaaaGreatDoor
namespace Go.Proofs.YtinldhphnpflaaaGreatDoor
set_option maxRecDepth 100000
open Go Go.Eng Go.RowKit
attribute [local irreducible] wpListIn Code.wpIn Oper.wpIn Exit.then Exit.inBlock Exit.noGoto
set_option maxHeartbeats 40000000
structure CellR (pl:Nat)(r:Int×Int)(f c:Int):Prop where
  b1:r.1.natAbs<10^90
  b2:r.2.natAbs<10^90
  le:r.1<=r.2
  hf:flI r.1 (tenI (pl+15)) (tenI pl)=f
  hc:clI r.2 (tenI (pl+15)) (tenI pl)=c
  f9:f.natAbs<10^70
  c9:c.natAbs<10^70
  fc:f<=c
  one:c<=f+1
theorem ten_q9 {a:Int}{k:Nat}(h:a.natAbs<10^90)(hk:k<=80):Q9 a (tenI k):=by
  refine⟨h,ten_pos k,?_⟩
  unfold tenI
  have h1:(10:Nat)^k<=10^80:=Nat.pow_le_pow_right dc hk
  have h2:(10:Nat)^80<10^90:=by decide
  have h3:(((10:Nat)^90:Nat):Int)=(10:Int)^90:=by norm_cast
  omega
theorem step_q {pl:Nat}:(([49],nS (10^pl)):R)=qR 1 (tenI pl):=by
  rw[qR_cop (ten_pos pl) (by simp),<-show nS 1=showI 1 from rfl,<-lit1];rfl
theorem width_le {f c T:Int}(h:c<=f+1)(hT:0<T):cmpI ((c*T-f*T)*T) (1*(T*T))<=0:=by
  rw[cmpI_nonpos,<-Int.sub_mul,Int.mul_assoc]
  exact Int.mul_le_mul_of_nonneg_right om (Int.le_of_lt (Int.mul_pos hT hT))
theorem wq9 {f c:Int}{pl:Nat}(hf:f.natAbs<10^70)(hc:c.natAbs<10^70)(hp:pl<=12):Q9 (c*tenI pl-f*tenI pl) (tenI pl*tenI pl):=by
  have h1:=ten_pos pl
  have h2:(10:Nat)^pl<=10^12:=Nat.pow_le_pow_right dc hp
  have h3:tenI pl<=1000000000000:=by unfold tenI;omega
  have h4:(c*tenI pl).natAbs<=10^70*1000000000000:=by rw[Int.natAbs_mul];exact Nat.mul_le_mul om om
  have h5:(f*tenI pl).natAbs<=10^70*1000000000000:=by rw[Int.natAbs_mul];exact Nat.mul_le_mul om om
  have h6:tenI pl*tenI pl<=1000000000000*1000000000000:=Int.mul_le_mul h3 h3 om om
  exact⟨by omega,Int.mul_pos h1 h1,by omega⟩
theorem cell_ok {l m l1 m1 l2 m2 l3 m3 l4 m4:List UInt8}{g:Nat}{lb:List Value}{a b la lb0 ha hb:Int}{pl:Nat}{w:World}(e:(l,m)=qR a b)(h:Q9 a b)(ha12:a.natAbs<10^12)(hb12:b<10^12)(e1:(l1,m1)=qR la lb0)(q1:Q9 la lb0)(e2:(l2,m2)=qR ha hb)(q2:Q9 ha hb){r:Int×Int}{f c:Int}(hrt:rightB pl a b la lb0 ha hb=true)(hp:pl<=12)(hne:¬((l,m):R)=(l3,m3))(hg:Enters Tryz.prog g)(hbd:∀W,Ext w W->CL g ([.agg #[.int .i64 ((pl+15:Nat):Int),S (nS (10^(pl+15)))],.agg #[S l,S m]].toArray++lb.toArray) W (Ret W λv _=>v=.agg #[S (showI r.1),S (showI r.2)]))(hC:CellR pl r f c)(ht:Tb w):
    CL 186 #[.agg #[S l1,S m1,S l2,S m2,S l3,S m3,S l4,S m4,.func (.func g) #[] lb.toArray],.agg #[S l,S m],.int .i64 pl] w (Ret w λv w'=>v=.tuple #[IV f (tenI pl) c (tenI pl),.int .i64 0]):=by
 have z1:=ten_q9 (k:=pl+15) hC.b1 om;have z2:=ten_q9 (k:=pl+15) hC.b2 om;have y1:=ten_q9 (k:=pl) (a:=f) (Nat.lt_of_lt_of_le hC.f9 dc) om;have y2:=ten_q9 (k:=pl) (a:=c) (Nat.lt_of_lt_of_le hC.c9 dc) om;have wq:Q9 (c*tenI pl-f*tenI pl) (tenI pl*tenI pl):=wq9 hC.f9 hC.c9 hp;have ones:=ten_q9 (k:=pl) (a:=1) dc om;refine f_in Tryz.func186 rfl ?_;refine go ?_;refine bx (λapr ap2 r8=>?_);have ao1:=ap2.2;refine bx (λapu apx sc=>?_);have⟨r8,ao1⟩:=be1 apx.2 r8 ao1;refine al inf1032 (λ_ apv aol=>?_);have⟨r8,sc,ao1⟩:=be2 apv.2 r8 sc ao1;refine go ?_;refine l_op (k_loadA (cs:=[S l1,S m1,S l2,S m2,S l3,S m3,S l4,S m4,.func (.func g) #[] lb.toArray]) (b:=w.heap.size) (o:=0) U1052 rfl sz1052 rfl (Blk.cells r8 (i:=0) rfl) ?_);refine go ?_;refine cl en1042 (cB (isRight_ok e h ha12 hb12 e1 q1 e2 q2 rfl (ht.ext ao1)) hrt) ?_;rintro _ aps apt rfl;have⟨r8,sc,aol,ao1⟩:=be3 apt.2 r8 sc aol ao1;refine go ?_;refine l_op (k_eqlR (a:=(l,m)) (b:=(l3,m3)) (q:=decide ((l,m)=(l3,m3))) rfl rfl rfl ?_);refine go ?_;refine BS2 (λap3 apm _ aom=>?_);have⟨r8,sc,aol,ao1⟩:=be3 apm r8 sc aol ao1;have aqg:=bz apm;refine go ?_
 refine c_lp [(7,7),(11,22),(44,111)] (λkk e W=>(0=kk)∧(e 44=.int .i64 0)∧(ap3.heap.size<=W.heap.size)∧(Ext w W)∧(Blk W (w.heap.size) 62 #[S l1,S m1,S l2,S m2,S l3,S m3,S l4,S m4,.func (.func g) #[] lb.toArray])∧(Blk W (apr.heap.size) 25 #[S l,S m])∧(Blk W (apu.heap.size) 37 #[S ([]),S ([]),S ([]),S ([])])∧(World.ownsRow W (aps.heap.size) 3 1 (.slice (some ⟨aps.heap.size,0,none⟩) 2 2) 2 [.int .i64 15,.int .i64 40])) 0 ⟨rfl,rfl,(Nat.le_refl _),ao1,r8,sc,aol,aom⟩ ?_;rintro _ _ _ ⟨rfl,apy,aqk,aoo,r8,sc,aol,aom⟩;have aql:=bz aoo;refine go ?_;obtain⟨_,oo,hA,hcl⟩:=(Rw.of_own aom).cells 0 _ rfl;refine l_op (k_indexAddr (i:=0) (oo:=oo+0) U24 sz3 rfl hA apy dc rfl ?_);refine l_op (k_load (v:=.int .i64 15) U3 rfl rfl hcl ?_);refine go ?_;refine l_op (k_add (a:=(pl:Int)) (b:=15) (c:=((pl+15:Nat):Int)) rfl rfl (by unfold In64;omega) om ?_);refine clb en1035 (hc:=spAt_ok om (ht.ext aoo)) (hk:=?_);rintro _ _ apn rfl;have⟨r8,sc,aol,aoo⟩:=be3 apn.2 r8 sc aol aoo;refine al inf1054 (λ_ apo ap4=>?_);have⟨r8,sc,aol,aoo⟩:=be3 apo.2 r8 sc aol aoo;refine SA ap4 (λ_ apj aon=>?_);have⟨r8,sc,aol,aoo,_⟩:=pl3 apj r8 sc aol aoo;refine go ?_;refine l_op (clV (f:=g) (lb:=lb) (vs:=[.agg #[.int .i64 ((((pl+15):Nat):Int)),S (nS (10^(pl+15)))],.agg #[S l,S m]]) hg rfl rfl (cArr (hbd _ aoo)) ?_);rintro _ _ apk rfl
 have⟨r8,sc,aol,aon,aoo⟩:=be4 apk.2 r8 sc aol aon aoo;refine al inf1056 (λ_ apl ap5=>?_);have⟨r8,sc,aol,aon,aoo⟩:=be4 apl.2 r8 sc aol aon aoo;refine SA ap5 (λ_ apf aop=>?_);have⟨r8,sc,aol,aon,aoo,_⟩:=pl4 apf r8 sc aol aon aoo;refine go ?_;refine cl en1046 (rMakeZ_ok rfl rfl z1.fz.1 z1.fz.2 (Int.ne_of_gt z1.2.1) (ht.ext aoo)) ?_;rintro _ _ apg rfl;have⟨r8,sc,aol,aon,aop,aoo⟩:=be5 apg.2 r8 sc aol aon aop aoo;refine go ?_;refine al inf36 (λ_ aph ap6=>?_);have⟨r8,sc,aol,aon,aop,aoo⟩:=be5 aph.2 r8 sc aol aon aop aoo;refine SA ap6 (λ_ apc aoq=>?_);have⟨r8,sc,aol,aon,aop,aoo,_⟩:=pl5 apc r8 sc aol aon aop aoo;refine go ?_;refine cl en1046 (rMakeZ_ok rfl rfl z2.fz.1 z2.fz.2 (Int.ne_of_gt z2.2.1) (ht.ext aoo)) ?_;rintro _ _ apd rfl;have⟨r8,sc,aol,aon,aop⟩:=bf5 apd.2 r8 sc aol aon aop;have⟨aoq,aoo⟩:=be1 apd.2 aoq aoo;refine go ?_;refine al inf36 (λ_ ape ap7=>?_);have⟨r8,sc,aol,aon,aop⟩:=bf5 ape.2 r8 sc aol aon aop;have⟨aoq,aoo⟩:=be1 ape.2 aoq aoo;refine SA ap7 (λ_ ao9 aor=>?_);have⟨r8,sc,aol,aon,aop⟩:=pf5 ao9 r8 sc aol aon aop;have⟨aoq,aoo,_⟩:=pl1 ao9 aoq aoo;refine go ?_;refine l_op (k_build (vs:=[(0,QV r.1 (tenI (pl+15))),(1,QV r.2 (tenI (pl+15)))]) (cells:=#[S ((qR r.1 (tenI (pl+15))).1),S ((qR r.1 (tenI (pl+15))).2),S ((qR r.2 (tenI (pl+15))).1),S ((qR r.2 (tenI (pl+15))).2)]) (pl:=[(0,2),(2,2)]) U1032 inf1032 (by kernel_rfl) rfl (by kernel_rfl) ?_);refine go ?_
 refine clb en1048 (hc:=cEq (Y:=.tuple #[IV f (tenI pl) c (tenI pl),.int .i64 0]) (round_ok (x:=(qR r.1 (tenI (pl+15)),qR r.2 (tenI (pl+15)))) rfl rfl z1 z2 (Int.mul_le_mul_of_nonneg_right hC.le (Int.le_of_lt z1.2.1)) om (ht.ext aoo)) (by rw[hC.hf,hC.hc])) (hk:=?_);rintro _ apw apa rfl;have⟨r8,sc,aol,aon,aop⟩:=bf5 apa.2 r8 sc aol aon aop;have⟨aoq,aor,aoo⟩:=be2 apa.2 aoq aor aoo;refine go ?_;refine al inf1032 (λ_ apb ap8=>?_);have⟨r8,sc,aol,aon,aop⟩:=bf5 apb.2 r8 sc aol aon aop;have⟨aoq,aor,aoo⟩:=be2 apb.2 aoq aor aoo;refine SA ap8 (λ_ ao2 aos=>?_);have⟨r8,sc,aol,aon,aop⟩:=pf5 ao2 r8 sc aol aon aop;have⟨aoq,aor,aoo,_⟩:=pl2 ao2 aoq aor aoo;refine go ?_;refine l_op (k_loadA (cs:=[S ((qR f (tenI pl)).1),S ((qR f (tenI pl)).2),S ((qR c (tenI pl)).1),S ((qR c (tenI pl)).2)]) (b:=apw.heap.size) (o:=0) U1032 rfl sz1032 rfl (Blk.cells aos (i:=0) rfl) ?_);refine cl en1049 (width_ok (x:=(qR f (tenI pl),qR c (tenI pl))) rfl rfl y1 y2 (Int.mul_le_mul_of_nonneg_right hC.fc (Int.le_of_lt y1.2.1)) (ht.ext aoo)) ?_;rintro _ _ ao3 rfl;have⟨r8,sc,aol,aon,aop⟩:=bf5 ao3.2 r8 sc aol aon aop;have⟨aoq,aor,aos,aoo⟩:=be3 ao3.2 aoq aor aos aoo;refine go ?_;refine al inf36 (λ_ ao4 ap9=>?_);have⟨r8,sc,aol,aon,aop⟩:=bf5 ao4.2 r8 sc aol aon aop;have⟨aoq,aor,aos,aoo⟩:=be3 ao4.2 aoq aor aos aoo;refine SA ap9 (λ_ aou aot=>?_);have⟨r8,sc,aol,aon,aop⟩:=pf5 aou r8 sc aol aon aop;have⟨aoq,aor,aos,aoo,_⟩:=pl3 aou aoq aor aos aoo
 refine go ?_;refine c_an 5 ?_;refine sf ?_;refine sf_ae (V:=.agg #[.int .i64 ((((pl):Nat):Int)),S (nS (10^pl))]) (λ_ _ aov _=>?_) ?_;refine clb en1035 (hc:=spAt_ok om (ht.ext (xt aoo aov))) (hk:=?_);rintro _ _ aow rfl;have aqa:=aow.2;refine go ?_;exact fs ⟨aqa,rfl⟩;refine sf_ap (λ_ _ _ _=>by refine l_op (k_field (cs:=[.int .i64 ((((pl):Nat):Int)),S (nS (10^pl))]) (v:=S (nS (10^pl))) U1054 rfl rfl rfl U9 rfl rfl rfl ?_);refine go ?_;exact finp) ?_;refine sf_ae (V:=.agg #[S ([49]),S (nS (10^pl))]) (λ_ _ _ _=>?_) ?_;refine cl en1026 spRatio_ok ?_;rintro _ _ aox rfl;have aqb:=aox.2;refine go ?_;exact fs ⟨aqb,rfl⟩;refine sf ?_;intro _ _ aoy _;have⟨r8,sc,aol,aon,aop⟩:=bf5 aoy.2 r8 sc aol aon aop;have⟨aoq,aor,aos,aot,aoo⟩:=be4 aoy.2 aoq aor aos aot aoo;refine cl en49 (qCmpL rfl step_q wq ones (ht.ext aoo)) ?_;rintro _ _ aoz rfl;have⟨r8,sc,aol,aon,aop⟩:=bf5 aoz.2 r8 sc aol aon aop;have⟨aoq,aor,aos,aot,aoo⟩:=be4 aoz.2 aoq aor aos aot aoo;refine go ?_;refine c_true (congrArg Value.bool (decide_eq_true (width_le hC.one (ten_pos pl)))) ?_;refine go ?_;refine l_op (k_loadA (cs:=[S ((qR f (tenI pl)).1),S ((qR f (tenI pl)).2),S ((qR c (tenI pl)).1),S ((qR c (tenI pl)).2)]) (b:=apw.heap.size) (o:=0) U1032 rfl sz1032 rfl (Blk.cells aos (i:=0) rfl) ?_);refine SA aol (λ_ ao0 aqc=>?_);have⟨r8,sc,aon,aop,aoq⟩:=pf5 ao0 r8 sc aon aop aoq
 have⟨aor,aos,aot,aoo,_⟩:=pl3 ao0 aor aos aot aoo;refine go ?_;refine f_out (v:=.tuple #[IV f (tenI pl) c (tenI pl),.int .i64 0]) (res2 (r1:=.cell 6 37) (r2:=.tmp 7) rfl ?_ ?_) aoo rfl;refine res_cellA (t:=6) (cs:=[S ((qR f (tenI pl)).1),S ((qR f (tenI pl)).2),S ((qR c (tenI pl)).1),S ((qR c (tenI pl)).2)]) (b:=apu.heap.size) (o:=0) U1032 rfl sz1032 ?_ ?_;exact rfl;exact Blk.cells aqc (i:=0) rfl;exact res_tmp (t:=7) (by exact rfl) _
theorem cell_at {l m l1 m1 l2 m2 l3 m3 l4 m4:List UInt8}{g:Nat}{lb:List Value}{a b la lb0 ha hb:Int}{pl:Nat}{w:World}(e:(l,m)=qR a b)(h:Q9 a b)(ha12:a.natAbs<10^12)(hb12:b<10^12)(e1:(l1,m1)=qR la lb0)(q1:Q9 la lb0)(e2:(l2,m2)=qR ha hb)(q2:Q9 ha hb){va vb:Int}(e4:(l4,m4)=qR va vb)(q4:Q9 va vb)(hrt:rightB pl a b la lb0 ha hb=true)(hp:pl<=12)(heq:((l,m):R)=(l3,m3))(ht:Tb w):
    CL 186 #[.agg #[S l1,S m1,S l2,S m2,S l3,S m3,S l4,S m4,.func (.func g) #[] lb.toArray],.agg #[S l,S m],.int .i64 pl] w (Ret w λv w'=>v=.tuple #[IV (flI va vb (tenI pl)) (tenI pl) (clI va vb (tenI pl)) (tenI pl),.int .i64 0]):=by
 refine f_in Tryz.func186 rfl ?_;refine go ?_;refine bx (λ_ aoz sc=>?_);have r8:=aoz.2;refine bx (λaow aox aol=>?_);have⟨sc,r8⟩:=be1 aox.2 sc r8;refine al inf1032 (λ_ aot aom=>?_);have⟨sc,aol,r8⟩:=be2 aot.2 sc aol r8;refine go ?_;refine l_op (k_loadA (cs:=[S l1,S m1,S l2,S m2,S l3,S m3,S l4,S m4,.func (.func g) #[] lb.toArray]) (b:=w.heap.size) (o:=0) U1052 rfl sz1052 rfl (Blk.cells sc (i:=0) rfl) ?_);refine go ?_;refine cl en1042 (cB (isRight_ok e h ha12 hb12 e1 q1 e2 q2 rfl (ht.ext r8)) hrt) ?_;rintro _ _ aop rfl;have⟨sc,aol,aom,r8⟩:=be3 aop.2 sc aol aom r8;refine go ?_;refine l_op (k_eqlR (a:=(l,m)) (b:=(l3,m3)) (q:=decide ((l,m)=(l3,m3))) rfl rfl rfl ?_);refine go ?_;refine cl en1019 (point_ok e4 q4 (ht.ext r8)) ?_;rintro _ _ aoq rfl;have⟨sc,aol,aom,r8⟩:=be3 aoq.2 sc aol aom r8;refine go ?_;refine clb en1048 (hc:=round_ok (x:=((l4,m4),(l4,m4))) e4 e4 q4 q4 (Int.le_refl _) om (ht.ext r8)) (hk:=?_);rintro _ aoy aor rfl;have⟨sc,aol,aom,r8⟩:=be3 aor.2 sc aol aom r8;refine go ?_;refine al inf1032 (λ_ aos ao0=>?_);have⟨sc,aol,aom,r8⟩:=be3 aos.2 sc aol aom r8;refine SA ao0 (λ_ aon aou=>?_);have⟨sc,aol,aom,r8,_⟩:=pl3 aon sc aol aom r8;refine go ?_
 refine l_op (k_loadA (cs:=[S ((qR (flI va vb (tenI pl)) (tenI pl)).1),S ((qR (flI va vb (tenI pl)) (tenI pl)).2),S ((qR (clI va vb (tenI pl)) (tenI pl)).1),S ((qR (clI va vb (tenI pl)) (tenI pl)).2)]) (b:=aoy.heap.size) (o:=0) U1032 rfl sz1032 rfl (Blk.cells aou (i:=0) rfl) ?_);refine SA aom (λ_ aoo ao1=>?_);have⟨sc,aol,aou,r8,_⟩:=pl3 aoo sc aol aou r8;refine go ?_;refine f_out (v:=.tuple #[IV (flI va vb (tenI pl)) (tenI pl) (clI va vb (tenI pl)) (tenI pl),.int .i64 0]) (res2 (r1:=.cell 6 37) (r2:=.tmp 7) rfl ?_ ?_) r8 rfl;refine res_cellA (t:=6) (cs:=[S ((qR (flI va vb (tenI pl)) (tenI pl)).1),S ((qR (flI va vb (tenI pl)) (tenI pl)).2),S ((qR (clI va vb (tenI pl)) (tenI pl)).1),S ((qR (clI va vb (tenI pl)) (tenI pl)).2)]) (b:=aow.heap.size) (o:=0) U1032 rfl sz1032 ?_ ?_;exact rfl;exact Blk.cells ao1 (i:=0) rfl;exact res_tmp (t:=7) (by exact rfl) _
theorem qn13:(([45]++nS (10^13),[49]):R)=qR (-10000000000000) 1:=by decide +kernel
theorem qp13:((nS (10^13),[49]):R)=qR 10000000000000 1:=by decide +kernel
theorem qn8:(([45,56],[49]):R)=qR (-8) 1:=by decide +kernel
theorem qp8:(([56],[49]):R)=qR 8 1:=by decide +kernel
theorem q9n13:Q9 (-10000000000000) 1:=⟨by decide,by decide,by decide⟩
theorem q9p13:Q9 10000000000000 1:=⟨by decide,by decide,by decide⟩
theorem q9n8:Q9 (-8) 1:=⟨by decide,by decide,by decide⟩
theorem q9p8:Q9 8 1:=⟨by decide,by decide,by decide⟩
set_option maxRecDepth 100000 in
theorem Normal_ok {l m y1 y2 y3 y4:List UInt8}{er:Int}{pl:Nat}{w:World}{a b:Int}(e:(l,m)=qR a b)(h:Q9 a b)(ha12:a.natAbs<10^12)(hb12:b<10^12)(hrt:rightB pl a b (-10000000000000) 1 10000000000000 1=true)(h8:0<cmpI (a*1) (-8*b))(h9:cmpI (a*1) (8*b)<0)(hc:∀W,Ext w W->CL 186 #[.agg #[S ([45]++nS (10^13)),S [49],S (nS (10^13)),S [49],S [48],S [49],S [49],S [50],.func (.func 68) #[] #[]],.agg #[S l,S m],.int .i64 pl] W (Ret W λv _=>v=.tuple #[.agg #[S (y1),S (y2),S (y3),S (y4)],.int .i64 (er)]))(ht:Tb w):
    CL 155 #[.agg #[S l,S m],.int .i64 pl] w (Ret w λv w'=>v=.tuple #[.agg #[S y1,S y2,S y3,S y4],.int .i64 er]):=by
 refine f_in Tryz.func155 rfl ?_;refine go ?_;refine bx (λaph apj r8=>?_);have aom:=apj.2;refine al inf1032 (λ_ api sc=>?_);have r8:=be api.2 r8;have aom:=xt aom api.2;refine go ?_;refine clb en1035 (hc:=spAt_ok (pl:=13) dc (ht.ext aom)) (hk:=?_);rintro _ _ aoy rfl;have r8:=be aoy.2 r8;have sc:=be aoy.2 sc;have aom:=xt aom aoy.2;refine l_op (k_field (cs:=[.int .i64 (((13:Nat):Int)),S (nS (10^13))]) (v:=S (nS (10^13))) U1054 rfl rfl rfl U9 rfl rfl rfl ?_);refine l_op (k_addS (a:=[45]) (b:=nS (10^13)) rfl rfl (by decide +kernel) ?_);refine cl en1026 spRatio_ok ?_;rintro _ _ aoz rfl;have r8:=be aoz.2 r8;have sc:=be aoz.2 sc;have aom:=xt aom aoz.2;refine clb en1035 (hc:=spAt_ok (pl:=13) dc (ht.ext aom)) (hk:=?_);rintro _ _ ao0 rfl;have r8:=be ao0.2 r8;have sc:=be ao0.2 sc;have aom:=xt aom ao0.2;refine l_op (k_field (cs:=[.int .i64 (((13:Nat):Int)),S (nS (10^13))]) (v:=S (nS (10^13))) U1054 rfl rfl rfl U9 rfl rfl rfl ?_);refine cl en1026 spRatio_ok ?_;rintro _ _ ao1 rfl;have r8:=be ao1.2 r8;have sc:=be ao1.2 sc;have aom:=xt aom ao1.2;refine cl en1026 spRatio_ok ?_;rintro _ _ ao2 rfl;have r8:=be ao2.2 r8;have sc:=be ao2.2 sc;have aom:=xt aom ao2.2;refine cl en1026 spRatio_ok ?_;rintro _ ao3 ao4 rfl
 have r8:=be ao4.2 r8;have sc:=be ao4.2 sc;have aom:=xt aom ao4.2;refine l_op (k_build (vs:=[(0,.agg #[S (([45])++(nS (10^13))),S ([49])]),(1,.agg #[S (nS (10^13)),S ([49])]),(2,.agg #[S ([48]),S ([49])]),(3,.agg #[S ([49]),S ([50])]),(4,.func (.func 68) #[] #[])]) (cells:=#[S (([45])++(nS (10^13))),S ([49]),S (nS (10^13)),S ([49]),S ([48]),S ([49]),S ([49]),S ([50]),.func (.func 68) #[] #[]]) (pl:=[(0,2),(2,2),(4,2),(6,2),(8,1)]) U1052 inf1052 (by kernel_rfl) rfl (by kernel_rfl) ?_);refine al inf1052 (λ_ ao5 apk=>?_);have r8:=be ao5.2 r8;have sc:=be ao5.2 sc;have aom:=xt aom ao5.2;refine SA apk (λ_ aon aol=>?_);have r8:=pb aon r8;have sc:=pb aon sc;have aom:=plw aon aom;have ap5:=psz aon;refine go ?_;refine c_an 13 ?_;refine sf_ap (λ_ _ ao6 _=>by have aol:=be ao6 aol;refine l_op (k_loadA (cs:=[S (([45])++(nS (10^13))),S ([49]),S (nS (10^13)),S ([49]),S ([48]),S ([49]),S ([49]),S ([50]),.func (.func 68) #[] #[]]) (b:=ao3.heap.size) (o:=0) U1052 rfl sz1052 rfl (Blk.cells aol (i:=0) rfl) ?_);refine go ?_;exact finp) ?_
 refine sf ?_;refine sf_ae (V:=.bool true) (λ_ _ aoo _=>?_) ?_;refine cl en1042 (cB (isRight_ok e h ha12 hb12 qn13 q9n13 qp13 q9p13 rfl (ht.ext (xt aom aoo))) hrt) ?_;rintro _ _ aop rfl;have apl:=aop.2;refine go ?_;exact fs ⟨apl,rfl⟩;refine sf ?_;refine sf_ae (V:=.agg #[S ([45,56]),S ([49])]) (λ_ _ _ _=>?_) ?_;refine go ?_;refine cl en1026 spRatio_ok ?_;rintro _ _ aoq rfl;have apm:=aoq.2;refine go ?_;exact fs ⟨apm,rfl⟩;refine sf_ae (V:=.int .i64 (cmpI (a*1) (-8*b))) (λ_ _ aor _=>?_) ?_;refine go ?_;refine cl en49 (qCmpL e qn8 h q9n8 (ht.ext (xt aom aor))) ?_;rintro _ _ aos rfl;have apn:=aos.2;refine go ?_;exact fs ⟨apn,rfl⟩;refine sf ?_;refine sf_ae (V:=.agg #[S ([56]),S ([49])]) (λ_ _ _ _=>?_) ?_;refine go ?_;refine cl en1026 spRatio_ok ?_;rintro _ _ aot rfl;have apo:=aot.2;refine go ?_;exact fs ⟨apo,rfl⟩;refine sf ?_;intro _ _ aou _;have r8:=be aou.2 r8;have sc:=be aou.2 sc;have aol:=be aou.2 aol;have aom:=xt aom aou.2;with_reducible refine l_drop rfl ?_
 refine go ?_;refine cl en49 (qCmpL e qp8 h q9p8 (ht.ext aom)) ?_;rintro _ _ aov rfl;have r8:=be aov.2 r8;have sc:=be aov.2 sc;have aol:=be aov.2 aol;have aom:=xt aom aov.2;refine go ?_;refine l_op (k_loadA (cs:=[S (([45])++(nS (10^13))),S ([49]),S (nS (10^13)),S ([49]),S ([48]),S ([49]),S ([49]),S ([50]),.func (.func 68) #[] #[]]) (b:=ao3.heap.size) (o:=0) U1052 rfl sz1052 rfl (Blk.cells aol (i:=0) rfl) ?_);refine go ?_;refine cl en1033 ((hc _ aom)) ?_;rintro _ _ aow rfl;have r8:=be aow.2 r8;have sc:=be aow.2 sc;have aol:=be aow.2 aol;have aom:=xt aom aow.2;refine go ?_;refine SA sc (λ_ aox apq=>?_);have r8:=pb aox r8;have aol:=pb aox aol;have aom:=plw aox aom;have arr:=psz aox;refine go ?_;refine f_out (v:=.tuple #[.agg #[S y1,S y2,S y3,S y4],.int .i64 er]) (res2 (r1:=.cell 4 37) (r2:=.tmp 5) rfl ?_ ?_) aom rfl;refine res_cellA (t:=4) (cs:=[S y1,S y2,S y3,S y4]) (b:=aph.heap.size) (o:=0) U1032 rfl sz1032 ?_ ?_;exact rfl;exact Blk.cells apq (i:=0) rfl;exact res_tmp (t:=5) (by exact rfl) _
end Go.Proofs.YtinldhphnpflaaaGreatDoor
