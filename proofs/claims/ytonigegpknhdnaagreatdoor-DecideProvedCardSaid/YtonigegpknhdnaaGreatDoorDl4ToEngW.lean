/- Part of the proof of a statement about decisions. -/
import Derived.Test.YtonigegpknhdnaaGreatDoorRef4ToMapI
import Derived.Test.YtonigegpknhdnaaGreatDoorEngPToEngH
import Derived.Test.YtonigegpknhdnaaGreatDoorDcAToDpB
import Derived.Test.YtonigegpknhdnaaGreatDoorRatQToSp15
import Derived.Test.YtonigegpknhdnaaGreatDoorDpAToRef1
import Derived.Test.YtonigegpknhdnaaGreatDoorSp16ToRi1
import Derived.DeepKeys
set_option linter.all false
namespace Go.Proofs.YtonigegpknhdnaaGreatDoor
set_option maxRecDepth 100000
open Go Go.Eng Go.RowKit
attribute [local irreducible] wpListIn Code.wpIn Oper.wpIn Exit.then Exit.inBlock Exit.noGoto
set_option maxHeartbeats 40000000
theorem snd_t {q t:Bool}(h:q=true) : Value.bool (!t)=Value.bool (q && !t):=by subst h; rfl
theorem snd_f {q t:Bool}(h:q=false) : Value.bool false=Value.bool (q && !t):=by subst h; rfl
theorem s1_ok {w:World} :
    Calls Tryz.prog 32 #[] w (Ret w fun v w'=>v=.bool false):=by
 refine f_in Tryz.func32 rfl ?_;refine go ?_;exact f_ret1 (t:=0) (v:=.bool false) rfl (Ext.refl _) rfl rfl
theorem sound_ok {kd la lb ha hb ga gb ra rb va vb sa sb ka kb ua ub : Int} {pl : Nat} {ins q0 bT : Bool} {w : World} {vd : Int} {f0 : Nat} {tv : Value} {lb0 : List Value} (hF : ∀ W, Tb W → Calls Tryz.prog 29 #[.agg #[.int .i64 (kd), S ((qR la lb).1), S ((qR la lb).2), S ((qR ha hb).1), S ((qR ha hb).2), S ((qR ga gb).1), S ((qR ga gb).2), S ((qR ra rb).1), S ((qR ra rb).2)], .agg #[S ((qR va vb).1), S ((qR va vb).2)], .agg #[S ((qR sa sb).1), S ((qR sa sb).2)], .int .i64 pl] W (Ret W fun v _ => v = .tuple #[.agg #[.bool (ins), S ((qR ka kb).1), S ((qR ka kb).2), S ((qR ua ub).1), S ((qR ua ub).2), S ((qR ra rb).1), S ((qR ra rb).2)], .bool true])) (hg : getI vd [(1, .func (.func 30) #[.agg #[.bool (ins), S ((qR ka kb).1), S ((qR ka kb).2), S ((qR ua ub).1), S ((qR ua ub).2), S ((qR ra rb).1), S ((qR ra rb).2)]] #[]), (2, .func (.func 31) #[.agg #[.bool (ins), S ((qR ka kb).1), S ((qR ka kb).2), S ((qR ua ub).1), S ((qR ua ub).2), S ((qR ra rb).1), S ((qR ra rb).2)]] #[]), (3, .func (.func 32) #[] #[])] = (if q0 then some tv else none)) (hz : q0 = false → tv = .nilFunc) (hT : q0 = true → tv = .func (.func f0) lb0.toArray #[] ∧ Enters Tryz.prog f0 ∧ ∀ W, Tb W → Calls Tryz.prog f0 lb0.toArray W (Ret W fun v _ => v = .bool bT)) (ht : Tb w) :
    Calls Tryz.prog 12 #[.agg #[.int .i64 kd,S (qR la lb).1,S (qR la lb).2,S (qR ha hb).1,S (qR ha hb).2,S (qR ga gb).1,S (qR ga gb).2,S (qR ra rb).1,S (qR ra rb).2],.int .i64 vd,.agg #[S (qR va vb).1,S (qR va vb).2],.agg #[S (qR sa sb).1,S (qR sa sb).2],.int .i64 pl] w (Ret w fun v w'=>v=.bool (q0 && !bT)):=by
 refine f_in Tryz.func12 rfl ?_;refine go ?_;refine bx (fun _ ao3 sc=>?_);have r8:=ao3.2;refine bx (fun _ ao1 aol=>?_);have ⟨sc,r8⟩:=be1 ao1.2 sc r8;refine bx (fun _ aox aom=>?_);have ⟨sc,aol,r8⟩:=be2 aox.2 sc aol r8;refine go ?_;refine l_op (k_loadA (cs:=[.int .i64 kd,S (qR la lb).1,S (qR la lb).2,S (qR ha hb).1,S (qR ha hb).2,S (qR ga gb).1,S (qR ga gb).2,S (qR ra rb).1,S (qR ra rb).2]) (b:=w.heap.size) (o:=0) U2027 rfl sz2027 rfl (Blk.cells sc (i:=0) rfl) ?_);refine go ?_;refine cl en2029 ((hF _ (ht.ext r8))) ?_;rintro _ aoy aov rfl;have ⟨sc,aol,aom,r8⟩:=be3 aov.2 sc aol aom r8;refine go ?_;refine al inf2059 (fun _ aow ao5=>?_);have ⟨sc,aol,aom,r8⟩:=be3 aow.2 sc aol aom r8;refine l_op (k_storeA (b:=aoy.heap.size) (o:=0) (vs:=[.bool ins,S (qR ka kb).1,S (qR ka kb).2,S (qR ua ub).1,S (qR ua ub).2,S (qR ra rb).1,S (qR ra rb).2]) sz2059 rfl rfl (by simp [Value.oneCell',S]) ao5 (Nat.le_of_ble_eq_true rfl) (fun aoz aou aoo=>?_));have ⟨sc,aol,aom,r8,_⟩:=pl3 aou sc aol aom r8;refine go ?_;have apd:=bt sc;have ape:=bt aol;have apf:=bt aom;have apg:=bt aoo;refine l_op (k_makeMapI (fun _ aoq _ ao6=>?_));have ⟨sc,aol,aom,aoo,r8⟩:=be4 aoq sc aol aom aoo r8;have apj:=bz aoq
 refine l_op (k_loadA (cs:=[.bool ins,S (qR ka kb).1,S (qR ka kb).2,S (qR ua ub).1,S (qR ua ub).2,S (qR ra rb).1,S (qR ra rb).2]) (b:=aoy.heap.size) (o:=0) U2059 rfl sz2059 rfl (Blk.cells aoo (i:=0) rfl) ?_);refine l_op (k_makeFunc (vf:=[.agg #[.bool ins,S (qR ka kb).1,S (qR ka kb).2,S (qR ua ub).1,S (qR ua ub).2,S (qR ra rb).1,S (qR ra rb).2]]) (vc:=[]) rfl rfl ?_);refine l_op (k_insertI (k:=1) (v:=.func (.func 30) #[.agg #[.bool ins,S (qR ka kb).1,S (qR ka kb).2,S (qR ua ub).1,S (qR ua ub).2,S (qR ra rb).1,S (qR ra rb).2]] #[]) rfl rfl rfl ao6 rfl (fun _ aor ao7=>?_));have ⟨sc,aol,aom,aoo,r8,_⟩:=pl4 aor sc aol aom aoo r8;refine l_op (k_loadA (cs:=[.bool ins,S (qR ka kb).1,S (qR ka kb).2,S (qR ua ub).1,S (qR ua ub).2,S (qR ra rb).1,S (qR ra rb).2]) (b:=aoy.heap.size) (o:=0) U2059 rfl sz2059 rfl (Blk.cells aoo (i:=0) rfl) ?_);refine l_op (k_makeFunc (vf:=[.agg #[.bool ins,S (qR ka kb).1,S (qR ka kb).2,S (qR ua ub).1,S (qR ua ub).2,S (qR ra rb).1,S (qR ra rb).2]]) (vc:=[]) rfl rfl ?_);refine l_op (k_insertI (k:=2) (v:=.func (.func 31) #[.agg #[.bool ins,S (qR ka kb).1,S (qR ka kb).2,S (qR ua ub).1,S (qR ua ub).2,S (qR ra rb).1,S (qR ra rb).2]] #[]) rfl rfl rfl ao7 rfl (fun _ aos ao8=>?_));have ⟨sc,aol,aom,aoo,r8,_⟩:=pl4 aos sc aol aom aoo r8
 refine l_op (k_insertI (k:=3) (v:=.func (.func 32) #[] #[]) rfl rfl rfl ao8 rfl (fun _ aot ao0=>?_));have ⟨sc,aol,aom,aoo,r8,_⟩:=pl4 aot sc aol aom aoo r8;refine l_op (k_move (v:=.map (some aoz.heap.size)) rfl ?_);refine l_op (k_assign (v:=.map (some aoz.heap.size)) rfl ?_);refine go ?_;refine l_op (k_move (v:=.map (some aoz.heap.size)) rfl ?_);refine go ?_;refine l_op (k_lookupI (v:=tv) (q:=q0) rfl rfl ao0 hg hz ?_);refine go ?_;refine l_op (k_assign (v:=tv) rfl ?_);refine go ?_;rcases Bool.eq_false_or_eq_true q0 with aon | aon;refine go ?_;refine l_op (k_move (v:=tv) rfl ?_);refine go ?_;refine l_op (k_callB (f:=f0) (lb:=lb0) (hT aon).2.1 (hT aon).1 ((hT aon).2.2 _ (ht.ext r8)) ?_);rintro _ _ aop rfl;have r8:=xt r8 aop;have apt:=bz aop;refine go ?_;exact f_ret1 (t:=10) (v:=.bool (!bT)) rfl r8 (snd_t aon) rfl;refine go ?_
 exact f_ret1 (t:=10) (v:=.bool false) rfl r8 (snd_f aon) rfl
end Go.Proofs.YtonigegpknhdnaaGreatDoor
namespace Go.Proofs.YtonigegpknhdnaaGreatDoor
open Go Go.Eng Go.RowKit
abbrev QV (a b:Int) : Value:=.agg #[S (qR a b).1,S (qR a b).2]
abbrev IV (a b c d:Int) : Value:=.agg #[S (qR a b).1,S (qR a b).2,S (qR c d).1,S (qR c d).2]
abbrev RulV (kd:Nat)(la lb ha hb ga gb ra rb:Int) : Value:=.agg #[.int .i64 ((kd:Nat) : Int),S (qR la lb).1,S (qR la lb).2,S (qR ha hb).1,S (qR ha hb).2,S (qR ga gb).1,S (qR ga gb).2,S (qR ra rb).1,S (qR ra rb).2]
abbrev CasV (kd:Nat)(la lb ha hb ga gb ra rb va vb sa sb:Int) : Value:=.agg #[.int .i64 ((kd:Nat) : Int),S (qR la lb).1,S (qR la lb).2,S (qR ha hb).1,S (qR ha hb).2,S (qR ga gb).1,S (qR ga gb).2,S (qR ra rb).1,S (qR ra rb).2,S (qR va vb).1,S (qR va vb).2,S (qR sa sb).1,S (qR sa sb).2]
abbrev FndV (ins:Bool) (k u T ra rb:Int) : Value:=.agg #[.bool ins,S (qR k T).1,S (qR k T).2,S (qR u T).1,S (qR u T).2,S (qR ra rb).1,S (qR ra rb).2]
def Sz (a b:Int) : Prop:=a.natAbs<10 ^ 12∧0<b∧b<10 ^ 12
theorem Sz.q9 {a b:Int}(h:Sz a b) : Q9 a b:=q9_12 h.1 h.2.1 h.2.2
def AccN (kd:Nat)(la lb ha hb ga gb xa xb ya yb:Int) : Prop:=
  (kd=1∧xa=la∧xb=lb∧ya=ha∧yb=hb) ∨ (kd=2∧xa=la*gb+ga*lb∧xb=lb*gb∧ya=ha*gb - ga*hb∧yb=hb*gb) ∨ (kd=3∧xa=la*gb - ga*lb∧xb=lb*gb∧ya=ha*gb+ga*hb∧yb=hb*gb)
structure Rl (kd:Nat) (la lb ha hb ga gb ra rb xa xb ya yb:Int) : Prop where
  k1:1≤kd
  k3:kd≤3
  l:Sz la lb
  h:Sz ha hb
  g:Sz ga gb
  r:Sz ra rb
  g0:0≤ga
  g1:kd=1→ga=0
  r0:0≤ra
  r1:ra≤rb
  lh:la*hb<ha*lb
  acc:AccN kd la lb ha hb ga gb xa xb ya yb
theorem q9_add {a b c d:Int}(h1:Sz a b)(h2:Sz c d) : Q9 (a*d+c*b) (b*d):=by
  obtain ⟨x,y,z⟩:=q9_sub (a:=a) (b:=b) (c:=-c) (d:=d) h1.1 h1.2.1 h1.2.2 (by rw [Int.natAbs_neg]; exact h2.1) h2.2.1 h2.2.2
  rw [Int.neg_mul,Int.sub_neg] at x
  exact ⟨x,y,z⟩
theorem q9_sb {a b c d:Int}(h1:Sz a b)(h2:Sz c d) : Q9 (a*d - c*b) (b*d):=q9_sub h1.1 h1.2.1 h1.2.2 h2.1 h2.2.1 h2.2.2
section
variable {kd : Nat} {la lb ha hb ga gb ra rb xa xb ya yb va vb sa sb : Int} {pl : Nat}
theorem Rl.qx (c:Rl kd la lb ha hb ga gb ra rb xa xb ya yb) : Q9 xa xb∧Q9 ya yb:=by
  rcases c.acc with ⟨_,rfl,rfl,rfl,rfl⟩ | ⟨_,rfl,rfl,rfl,rfl⟩ | ⟨_,rfl,rfl,rfl,rfl⟩
  · exact ⟨c.l.q9,c.h.q9⟩
  · exact ⟨q9_add c.l c.g,q9_sb c.h c.g⟩
  · exact ⟨q9_sb c.l c.g,q9_add c.h c.g⟩
theorem Rl.accC (c : Rl kd la lb ha hb ga gb ra rb xa xb ya yb) {w : World} (ht : Tb w) : Calls Tryz.prog 45 #[RulV kd la lb ha hb ga gb ra rb] w (Ret w fun v _ => v = .tuple #[IV xa xb ya yb, .bool (decide (xa * yb ≤ ya * xb))]) := by
  obtain ⟨q1,q2⟩:=c.qx
  have key : Calls Tryz.prog 45 #[RulV kd la lb ha hb ga gb ra rb] w (Ret w fun v _ => v = .tuple #[IV xa xb ya yb, .bool (decide (cmpI (xa * yb) (ya * xb) ≤ 0))]) := by
    rcases c.acc with ⟨rfl,rfl,rfl,rfl,rfl⟩ | ⟨rfl,rfl,rfl,rfl,rfl⟩ | ⟨rfl,rfl,rfl,rfl,rfl⟩
    · exact acc_ok (f1:=137) (f2:=137) dc rfl en2137 en2137 (fun W _=>keep_ok) (fun W _=>keep_ok) q1 q2 ht
    · exact acc_ok (f1:=13) (f2:=16) dc rfl en217 en220 (fun W hW=>qAddX c.l.q9 c.g.q9 hW) (fun W hW=>qSubX c.h.q9 c.g.q9 hW) q1 q2 ht
    · exact acc_ok (f1:=16) (f2:=13) dc rfl en220 en217 (fun W hW=>qSubX c.l.q9 c.g.q9 hW) (fun W hW=>qAddX c.h.q9 c.g.q9 hW) q1 q2 ht
  have e:decide (cmpI (xa*yb) (ya*xb)≤0)=decide (xa*yb≤ya*xb):=by simp only [cmpI_nonpos]
  rw [e] at key
  exact key
theorem Rl.valid (c : Rl kd la lb ha hb ga gb ra rb xa xb ya yb) {w : World} (ht : Tb w) : Calls Tryz.prog 24 #[RulV kd la lb ha hb ga gb ra rb] w (Ret w fun v _ => v = .bool (decide (xa * yb ≤ ya * xb))) := by
  have r0:=c.r0
  have r1:=c.r1
  have g0:=c.g0
  exact valid_ok c.k1 c.k3 c.l.q9 c.h.q9 c.g.q9 c.r.q9 c.l.1 c.l.2.2 c.h.1 c.h.2.2 c.g.1 c.g.2.2 c.r.1 c.r.2.2 ((neg_q c.g.2.1).trans (decide_eq_false om)) ((neg_q c.r.2.1).trans (decide_eq_false om))
    (fun h=>congrArg Prod.fst (zero_q c.g.2.1 (c.g1 h))) (cmpI_nonpos.2 om) (cmpI_lt0 c.lh) (fun W hW=>c.accC hW) ht
theorem Rl.accept (c : Rl kd la lb ha hb ga gb ra rb xa xb ya yb) (hv : xa * yb ≤ ya * xb) {w : World} (ht : Tb w) : Calls Tryz.prog 20 #[RulV kd la lb ha hb ga gb ra rb] w (Ret w fun v _ => v = .tuple #[IV xa xb ya yb, .int .i64 0]) :=
  acceptT_ok (fun W hW=>cB (c.valid hW) (decide_eq_true hv)) (fun W hW=>c.accC hW) ht
theorem Rl.acceptF (c : Rl kd la lb ha hb ga gb ra rb xa xb ya yb) (hv : ¬ xa * yb ≤ ya * xb) {w : World} (ht : Tb w) : Calls Tryz.prog 20 #[RulV kd la lb ha hb ga gb ra rb] w (Ret w fun v _ => v = .tuple #[.agg #[S [], S [], S [], S []], .int .i64 160]) :=
  acceptF_ok (xa:=0) (xb:=0) (ya:=0) (yb:=0) (qv:=false) (fun W hW=>cB (c.valid hW) (decide_eq_false hv)) ht
def insB (xa xb ya yb va vb:Int) : Bool:=decide (xa*vb≤va*xb) && decide (va*yb≤ya*vb)
theorem contains_in {a b c d m n : Int} {w : World} (q1 : Q9 a b) (q2 : Q9 c d) (q : Q9 m n) (hV : a * d ≤ c * b) (ht : Tb w) : Calls Tryz.prog 21 #[IV a b c d, QV m n] w (Ret w fun v _ => v = .bool (insB a b c d m n)) := by
  have h:=encContainsG_ok q1 q2 q (cmpI_nonpos.2 hV) ht
  simp only [cmpI_nonpos] at h
  exact h
def rejB (ins:Bool) (k T ra rb:Int) : Bool:=!ins || decide (ra*T<k*rb)
def acpB (ins:Bool) (u T ra rb:Int) : Bool:=ins && decide (u*rb≤ra*T)
theorem cmpI_p {x y:Int} : (0<cmpI x y) ↔ y<x:=⟨fun h=>by rcases Int.lt_or_le y x with k | k; exact k; have:=(cmpI_nonpos (x:=x) (y:=y)).2 k; omega,cmpI_gt0⟩
theorem rej_ok {ins : Bool} {k u T : Int} {w : World} (q1 : Q9 k T) (q2 : Q9 u T) (q : Q9 ra rb) (ht : Tb w) : Calls Tryz.prog 30 #[FndV ins k u T ra rb] w (Ret w fun v _ => v = .bool (rejB ins k T ra rb)) := by
  cases ins with
  | true =>
    have h:=rejectedT_ok q1 q2 q ht
    simp only [cmpI_p] at h
    exact h
  | false=>exact rejectedF_ok q1 q2 q ht
theorem acp_ok {ins : Bool} {k u T : Int} {w : World} (q1 : Q9 k T) (q2 : Q9 u T) (q : Q9 ra rb) (ht : Tb w) : Calls Tryz.prog 31 #[FndV ins k u T ra rb] w (Ret w fun v _ => v = .bool (acpB ins u T ra rb)) := by
  cases ins with
  | true =>
    have h:=acceptedT_ok q1 q2 q ht
    simp only [cmpI_nonpos] at h
    exact h
  | false=>exact acceptedF_ok q1 q2 q ht
def OutC (pl:Nat)(va vb sa sb la lb ha hb k u:Int) : Prop:=k.natAbs<10 ^ 70∧u.natAbs<10 ^ 70∧∀ W,Tb W→Calls Tryz.prog 59 #[QV va vb,QV sa sb,QV la lb,QV ha hb,.int .i64 ((pl:Nat) : Int)] W (Ret W fun v _=>v=.tuple #[IV k (tenI pl) u (tenI pl),.int .i64 0])
def sndB (v:Int)(rj ac:Bool) : Bool:=if v=1 then !rj else if v=2 then !ac else decide (v=3)
theorem find_c (c:Rl kd la lb ha hb ga gb ra rb xa xb ya yb)(hv:xa*yb≤ya*xb)(v:Sz va vb){k u:Int}(p12:pl≤12)(o:OutC pl va vb sa sb la lb ha hb k u){w:World}(ht:Tb w) :
    Calls Tryz.prog 29 #[RulV kd la lb ha hb ga gb ra rb,QV va vb,QV sa sb,.int .i64 ((pl:Nat) : Int)] w (Ret w fun v _=>v=.tuple #[FndV (insB xa xb ya yb va vb) k u (tenI pl) ra rb,.bool true]):=
  find_ok (fun W hW=>c.accept hv hW) o.2.2 (fun W hW=>contains_in c.qx.1 c.qx.2 v.q9 hv hW) ht
theorem decide_c (c:Rl kd la lb ha hb ga gb ra rb xa xb ya yb)(hv:xa*yb≤ya*xb)(v:Sz va vb){k u:Int}(p12:pl≤12)(o:OutC pl va vb sa sb la lb ha hb k u){w:World}(ht:Tb w) :
    Calls Tryz.prog 18 #[RulV kd la lb ha hb ga gb ra rb,QV va vb,QV sa sb,.int .i64 ((pl:Nat) : Int)] w (Ret w fun x _=>x=.tuple #[.int .i64 (vdct (rejB (insB xa xb ya yb va vb) k (tenI pl) ra rb) (acpB (insB xa xb ya yb va vb) u (tenI pl) ra rb)),IV k (tenI pl) u (tenI pl),.int .i64 0]):=
  decide_ok (fun W hW=>find_c c hv v p12 o hW) (fun W hW=>rej_ok (q9_cell o.1 p12) (q9_cell o.2.1 p12) c.r.q9 hW) (fun W hW=>acp_ok (q9_cell o.1 p12) (q9_cell o.2.1 p12) c.r.q9 hW) ht
theorem snd3_ok {w:World} : Calls Tryz.prog 32 #[] w (Ret w fun v _=>v=.bool false):=s1_ok
theorem sound_c (c:Rl kd la lb ha hb ga gb ra rb xa xb ya yb)(hv:xa*yb≤ya*xb)(v:Sz va vb){k u x:Int}(p12:pl≤12)(o:OutC pl va vb sa sb la lb ha hb k u){w:World}(ht:Tb w) :
    Calls Tryz.prog 12 #[RulV kd la lb ha hb ga gb ra rb,.int .i64 x,QV va vb,QV sa sb,.int .i64 ((pl:Nat) : Int)] w (Ret w fun y _=>y=.bool (sndB x (rejB (insB xa xb ya yb va vb) k (tenI pl) ra rb) (acpB (insB xa xb ya yb va vb) u (tenI pl) ra rb))):=by
  have hf : ∀ W,Tb W→_:=fun W hW=>find_c c hv v p12 o hW
  unfold sndB
  by_cases h1:x=1
  · subst h1
    exact sound_ok (q0:=true) (lb0:=[FndV (insB xa xb ya yb va vb) k u (tenI pl) ra rb]) hf rfl (fun h=>by cases h) (fun _=>⟨rfl,en2030,fun W hW=>rej_ok (q9_cell o.1 p12) (q9_cell o.2.1 p12) c.r.q9 hW⟩) ht
  by_cases h2:x=2
  · subst h2
    exact sound_ok (q0:=true) (lb0:=[FndV (insB xa xb ya yb va vb) k u (tenI pl) ra rb]) hf rfl (fun h=>by cases h) (fun _=>⟨rfl,en2031,fun W hW=>acp_ok (q9_cell o.1 p12) (q9_cell o.2.1 p12) c.r.q9 hW⟩) ht
  by_cases h3:x=3
  · subst h3
    exact sound_ok (q0:=true) (lb0:=[]) hf rfl (fun h=>by cases h) (fun _=>⟨rfl,en2032,fun W hW=>snd3_ok⟩) ht
  · rw [if_neg h1, if_neg h2, decide_eq_false h3]
    exact sound_ok (q0:=false) (bT:=false) (f0:=0) (lb0:=[]) (tv:=.nilFunc) hf (by simp [getI,h1,h2,h3]) (fun _=>rfl) (fun h=>by cases h) ht
end
def OutN (n1 d1 n2 d2:Int)(pl:Nat)(k u:Int) : Prop:=∀ va vb sa sb la lb ha hb:Int,Sz va vb→Sz sa sb→0<sa→Sz la lb→Sz ha hb→la*hb<ha*lb→(la*vb - va*lb)*sb*d1=n1*(lb*vb*sa)→(va*hb - ha*vb)*sb*d2=n2*(vb*hb*sa)→OutC pl va vb sa sb la lb ha hb k u
theorem outN_of {n1 d1 n2 d2 f1 c1 f2 c2:Int}{pl:Nat}(p1:1≤pl)(p12:pl≤12)(z1:Sz n1 d1)(z2:Sz n2 d2)(h1:Sh pl n1 d1 f1 c1)(h2:Sh pl n2 d2 f2 c2) : OutN n1 d1 n2 d2 pl (min (f1+f2) (tenI pl)) (min (c1+c2) (tenI pl)):=by
  intro _ _ sa _ _ _ _ _ v s s0 l h lh e1 e2
  have hT:=ten_12 p12
  have hT0:=ten_pos pl
  have b1:0≤f1∧f1≤c1∧c1≤tenI pl:=by obtain ⟨_,_,_,_,a,b,c⟩:=h1; exact ⟨b,a,c⟩
  have b2:0≤f2∧f2≤c2∧c2≤tenI pl:=by obtain ⟨_,_,_,_,a,b,c⟩:=h2; exact ⟨b,a,c⟩
  have sw:sa<10 ^ 12:=by have:=s.1; omega
  exact ⟨by omega,by omega,fun W hW=>outside_sh p1 p12 v.1 v.2.1 v.2.2 s0 sw s.2.1 s.2.2 l.1 l.2.1 l.2.2 h.1 h.2.1 h.2.2 lh e1 e2 z1.1 z1.2.1 z1.2.2 z2.1 z2.2.1 z2.2.2 h1 h2 hW⟩
theorem mulR_q {a b c d:Int}(h1:Q9 a b)(h2:Q9 c d) : mulR (qR a b) (qR c d)=some (qR (a*c) (b*d)):=by
  unfold mulR
  rw [h1.ok,h2.ok,qR_val.1,qR_val.2,qR_val.1,qR_val.2]
  have r1:=h1.red
  have r2:=h2.red
  have m1:=abs_mul r1.1 r2.1
  have m3:=abs_mul (a:=redD a b) (b:=redD c d) (by have:=r1.2; omega) (by have:=r2.2; omega)
  have hp:=Int.mul_pos r1.2.1 r2.2.1
  simp only [Bool.and_self,if_true]
  refine both_q (fz_180 m1) (fz_180 m3) ?_
  rw [makeR_q om]
  congr 1
  refine qR_congr hp (Int.mul_pos h1.2.1 h2.2.1) ?_
  have e1:=rq_cross (n:=a) h1.2.1
  have e2:=rq_cross (n:=c) h2.2.1
  generalize redN a b=p at *
  generalize redD a b=q at *
  generalize redN c d=r at *
  generalize redD c d=s at *
  grind
end Go.Proofs.YtonigegpknhdnaaGreatDoor
namespace Go.Proofs.YtonigegpknhdnaaGreatDoor
open Go Go.Eng Go.RowKit
attribute [local irreducible] wpListIn Code.wpIn Oper.wpIn Exit.then Exit.inBlock Exit.noGoto
set_option maxHeartbeats 40000000
theorem krDl5 {p : Prop} (h : p:=by kernel_rfl) : p:=h
theorem erDl5 {w:World}:Ext w w:=Ext.refl _
set_option maxRecDepth 100000 in
theorem sane16_ok {ka1 kb1 ua1 ub1 ka2 kb2 ua2 ub2 ka3 kb3 ua3 ub3 ka4 kb4 ua4 ub4 ka5 kb5 ua5 ub5 ka6 kb6 ua6 ub6 : Int} {w : World} (hD1 : ∀ W, Tb W → Calls Tryz.prog 18 #[.agg #[.int .i64 (1), S ((qR (-2) 1).1), S ((qR (-2) 1).2), S ((qR 2 1).1), S ((qR 2 1).2), S ((qR 0 1).1), S ((qR 0 1).2), S ((qR 1 20).1), S ((qR 1 20).2)], .agg #[S ((qR 0 1).1), S ((qR 0 1).2)], .agg #[S ((qR 1 1).1), S ((qR 1 1).2)], .int .i64 (4)] W (Ret W fun v _ => v = .tuple #[.int .i64 1, .agg #[S ((qR ka1 kb1).1), S ((qR ka1 kb1).2), S ((qR ua1 ub1).1), S ((qR ua1 ub1).2)], .int .i64 0])) (hD2 : ∀ W, Tb W → Calls Tryz.prog 18 #[.agg #[.int .i64 (1), S ((qR (-2) 1).1), S ((qR (-2) 1).2), S ((qR 2 1).1), S ((qR 2 1).2), S ((qR 0 1).1), S ((qR 0 1).2), S ((qR 1 20).1), S ((qR 1 20).2)], .agg #[S ((qR 1 2).1), S ((qR 1 2).2)], .agg #[S ((qR 1 1).1), S ((qR 1 1).2)], .int .i64 (4)] W (Ret W fun v _ => v = .tuple #[.int .i64 2, .agg #[S ((qR ka2 kb2).1), S ((qR ka2 kb2).2), S ((qR ua2 ub2).1), S ((qR ua2 ub2).2)], .int .i64 0])) (hD3 : ∀ W, Tb W → Calls Tryz.prog 18 #[.agg #[.int .i64 (1), S ((qR (-2) 1).1), S ((qR (-2) 1).2), S ((qR 2 1).1), S ((qR 2 1).2), S ((qR 0 1).1), S ((qR 0 1).2), S ((qR 1 20).1), S ((qR 1 20).2)], .agg #[S ((qR 5 2).1), S ((qR 5 2).2)], .agg #[S ((qR 1 1).1), S ((qR 1 1).2)], .int .i64 (4)] W (Ret W fun v _ => v = .tuple #[.int .i64 2, .agg #[S ((qR ka3 kb3).1), S ((qR ka3 kb3).2), S ((qR ua3 ub3).1), S ((qR ua3 ub3).2)], .int .i64 0])) (hD4 : ∀ W, Tb W → Calls Tryz.prog 18 #[.agg #[.int .i64 (2), S ((qR (-2) 1).1), S ((qR (-2) 1).2), S ((qR 2 1).1), S ((qR 2 1).2), S ((qR 1 1).1), S ((qR 1 1).2), S ((qR 1 20).1), S ((qR 1 20).2)], .agg #[S ((qR 3 2).1), S ((qR 3 2).2)], .agg #[S ((qR 1 1).1), S ((qR 1 1).2)], .int .i64 (4)] W (Ret W fun v _ => v = .tuple #[.int .i64 2, .agg #[S ((qR ka4 kb4).1), S ((qR ka4 kb4).2), S ((qR ua4 ub4).1), S ((qR ua4 ub4).2)], .int .i64 0])) (hD5 : ∀ W, Tb W → Calls Tryz.prog 18 #[.agg #[.int .i64 (1), S ((qR (-2) 1).1), S ((qR (-2) 1).2), S ((qR 2 1).1), S ((qR 2 1).2), S ((qR 0 1).1), S ((qR 0 1).2), S ((qR 455 10000).1), S ((qR 455 10000).2)], .agg #[S ((qR 0 1).1), S ((qR 0 1).2)], .agg #[S ((qR 1 1).1), S ((qR 1 1).2)], .int .i64 (3)] W (Ret W fun v _ => v = .tuple #[.int .i64 3, .agg #[S ((qR ka5 kb5).1), S ((qR ka5 kb5).2), S ((qR ua5 ub5).1), S ((qR ua5 ub5).2)], .int .i64 0])) (hD6 : ∀ W, Tb W → Calls Tryz.prog 18 #[.agg #[.int .i64 (1), S ((qR (-2) 1).1), S ((qR (-2) 1).2), S ((qR 2 1).1), S ((qR 2 1).2), S ((qR 0 1).1), S ((qR 0 1).2), S ((qR 455 10000).1), S ((qR 455 10000).2)], .agg #[S ((qR 0 1).1), S ((qR 0 1).2)], .agg #[S ((qR 1 1).1), S ((qR 1 1).2)], .int .i64 (8)] W (Ret W fun v _ => v = .tuple #[.int .i64 2, .agg #[S ((qR ka6 kb6).1), S ((qR ka6 kb6).2), S ((qR ua6 ub6).1), S ((qR ua6 ub6).2)], .int .i64 0])) (hA1 : ∀ W, Tb W → Calls Tryz.prog 20 #[.agg #[.int .i64 (3), S ((qR (-2) 1).1), S ((qR (-2) 1).2), S ((qR 2 1).1), S ((qR 2 1).2), S ((qR 1 2).1), S ((qR 1 2).2), S ((qR 1 20).1), S ((qR 1 20).2)]] W (Ret W fun v _ => v = .tuple #[.agg #[S ((qR (-5) 2).1), S ((qR (-5) 2).2), S ((qR 5 2).1), S ((qR 5 2).2)], .int .i64 0])) (hA2 : ∀ W, Tb W → Calls Tryz.prog 20 #[.agg #[.int .i64 (2), S ((qR (-2) 1).1), S ((qR (-2) 1).2), S ((qR 2 1).1), S ((qR 2 1).2), S ((qR 3 1).1), S ((qR 3 1).2), S ((qR 1 20).1), S ((qR 1 20).2)]] W (Ret W fun v _ => v = .tuple #[.agg #[S ([]), S ([]), S ([]), S ([])], .int .i64 160])) (hC : ∀ W, Tb W → Calls Tryz.prog 21 #[.agg #[S ((qR ka1 kb1).1), S ((qR ka1 kb1).2), S ((qR ua1 ub1).1), S ((qR ua1 ub1).2)], .agg #[S ((qR 455003 10000000).1), S ((qR 455003 10000000).2)]] W (Ret W fun v _ => v = .bool true)) (hV1 : ∀ W, Tb W → Calls Tryz.prog 24 #[.agg #[.int .i64 (1), S ((qR (-2) 1).1), S ((qR (-2) 1).2), S ((qR 2 1).1), S ((qR 2 1).2), S ((qR 0 1).1), S ((qR 0 1).2), S ((qR 1 20).1), S ((qR 1 20).2)]] W (Ret W fun v _ => v = .bool true)) (hV2 : ∀ W, Tb W → Calls Tryz.prog 24 #[.agg #[.int .i64 (0), S ([]), S ([]), S ([]), S ([]), S ([]), S ([]), S ([]), S ([])]] W (Ret W fun v _ => v = .bool false)) (hS1 : ∀ W, Tb W → Calls Tryz.prog 12 #[.agg #[.int .i64 (1), S ((qR (-2) 1).1), S ((qR (-2) 1).2), S ((qR 2 1).1), S ((qR 2 1).2), S ((qR 0 1).1), S ((qR 0 1).2), S ((qR 1 20).1), S ((qR 1 20).2)], .int .i64 (1), .agg #[S ((qR 0 1).1), S ((qR 0 1).2)], .agg #[S ((qR 1 1).1), S ((qR 1 1).2)], .int .i64 (4)] W (Ret W fun v _ => v = .bool true)) (hS2 : ∀ W, Tb W → Calls Tryz.prog 12 #[.agg #[.int .i64 (1), S ((qR (-2) 1).1), S ((qR (-2) 1).2), S ((qR 2 1).1), S ((qR 2 1).2), S ((qR 0 1).1), S ((qR 0 1).2), S ((qR 1 20).1), S ((qR 1 20).2)], .int .i64 (2), .agg #[S ((qR 0 1).1), S ((qR 0 1).2)], .agg #[S ((qR 1 1).1), S ((qR 1 1).2)], .int .i64 (4)] W (Ret W fun v _ => v = .bool false)) (ht : Tb w) :
    Calls Tryz.prog 8 #[] w (Ret w fun v w'=>v=.bool true):=by
 refine f_in Tryz.func8 rfl ?_;refine go ?_;refine clb en2014 (hc:=l16of_ok dc dc) (hk:=?_);rintro _ _ axz rfl;have sc:=axz.2;refine clb en2014 (hc:=l16of_ok dc dc) (hk:=?_);rintro _ _ ax0 rfl;have sc:=xt sc ax0.2;refine cl en2023 (l16rule_ok (kd:=1) (ga:=0) (gb:=1) (ra:=1) (rb:=20)) ?_;rintro _ apa ax1 rfl;have sc:=xt sc ax1.2;refine al inf2027 (fun _ ax2 ax3=>?_);have sc:=xt sc ax2.2;refine l_op (k_storeA (b:=apa.heap.size) (o:=0) (vs:=[.int .i64 1,S ((qR (-2) 1).1),S ((qR (-2) 1).2),S (qR 2 1).1,S (qR 2 1).2,S (qR 0 1).1,S (qR 0 1).2,S (qR 1 20).1,S (qR 1 20).2]) sz2027 rfl rfl (by simp [Value.oneCell',S]) ax3 (Nat.le_of_ble_eq_true rfl) (fun _ asf aou=>?_));have sc:=plw asf sc;have bbh:=psz asf;refine go ?_;refine clb en2014 (hc:=l16of_ok dc dc) (hk:=?_);rintro _ _ asg rfl;have aou:=be asg.2 aou;have sc:=xt sc asg.2;refine clb en2014 (hc:=l16of_ok dc dc) (hk:=?_);rintro _ _ ash rfl;have aou:=be ash.2 aou;have sc:=xt sc ash.2;refine cl en2023 (l16rule_ok (kd:=2) (ga:=1) (gb:=1) (ra:=1) (rb:=20)) ?_;rintro _ ap7 asi rfl;have aou:=be asi.2 aou;have sc:=xt sc asi.2;refine al inf2027 (fun _ asj ax4=>?_);have aou:=be asj.2 aou;have sc:=xt sc asj.2;refine l_op (k_storeA (b:=ap7.heap.size) (o:=0) (vs:=[.int .i64 2,S ((qR (-2) 1).1),S ((qR (-2) 1).2),S (qR 2 1).1,S (qR 2 1).2,S (qR 1 1).1,S (qR 1 1).2,S (qR 1 20).1,S (qR 1 20).2]) sz2027 rfl rfl (by simp [Value.oneCell',S]) ax4 (Nat.le_of_ble_eq_true rfl) (fun _ ap8 ao1=>?_))
 have aou:=pb ap8 aou;have sc:=plw ap8 sc;have bbp:=psz ap8;refine go ?_;refine clb en2014 (hc:=l16of_ok dc dc) (hk:=?_);rintro _ _ ap9 rfl;have aou:=be ap9.2 aou;have ao1:=be ap9.2 ao1;have sc:=xt sc ap9.2;refine clb en2014 (hc:=l16of_ok dc dc) (hk:=?_);rintro _ _ aqa rfl;have aou:=be aqa.2 aou;have ao1:=be aqa.2 ao1;have sc:=xt sc aqa.2;refine cl en2023 (l16rule_ok (kd:=1) (ga:=0) (gb:=1) (ra:=455) (rb:=10000)) ?_;rintro _ apu aqb rfl;have aou:=be aqb.2 aou;have ao1:=be aqb.2 ao1;have sc:=xt sc aqb.2;refine al inf2027 (fun _ aqc ax5=>?_);have aou:=be aqc.2 aou;have ao1:=be aqc.2 ao1;have sc:=xt sc aqc.2;refine l_op (k_storeA (b:=apu.heap.size) (o:=0) (vs:=[.int .i64 1,S ((qR (-2) 1).1),S ((qR (-2) 1).2),S (qR 2 1).1,S (qR 2 1).2,S (qR 0 1).1,S (qR 0 1).2,S (qR 455 10000).1,S (qR 455 10000).2]) sz2027 rfl rfl (by simp [Value.oneCell',S]) ax5 (Nat.le_of_ble_eq_true rfl) (fun ax6 apw ax7=>?_));have aou:=pb apw aou;have ao1:=pb apw ao1;have sc:=plw apw sc;have bbw:=psz apw;refine go ?_;refine c_dv hmix 11 [4,5,36,37,38,39,40,41,42,43] [some (37,.agg #[.int .i64 1,S ((qR (-2) 1).1),S ((qR (-2) 1).2),S (qR 2 1).1,S (qR 2 1).2,S (qR 0 1).1,S (qR 0 1).2,S (qR 1 20).1,S (qR 1 20).2]),some (38,.agg #[S (qR 0 1).1,S (qR 0 1).2]),some (39,.agg #[S (qR 1 1).1,S (qR 1 1).2]),some (40,.tuple #[.int .i64 1,.agg #[S (qR ka1 kb1).1,S (qR ka1 kb1).2,S (qR ua1 ub1).1,S (qR ua1 ub1).2],.int .i64 0]),some (36,.tuple #[.int .i64 1,.agg #[S (qR ka1 kb1).1,S (qR ka1 kb1).2,S (qR ua1 ub1).1,S (qR ua1 ub1).2],.int .i64 0]),some (41,.int .i64 1),some (42,.agg #[S (qR ka1 kb1).1,S (qR ka1 kb1).2,S (qR ua1 ub1).1,S (qR ua1 ub1).2]),some (43,.int .i64 0),none,some (4,.int .i64 1),none] (XA ax6 8 10 5 44 #[S ([]),S ([]),S ([]),S ([])] #[S (qR ka1 kb1).1,S (qR ka1 kb1).2,S (qR ua1 ub1).1,S (qR ua1 ub1).2]) XA.start krDl5 krDl5 krDl5 ?_ ?_
 refine ⟨fun bbx _ _ ax8 _ ask _ _ _=>?_,?_⟩;obtain ⟨bbx,rfl⟩:=ovE ax8;have ax9:=(be ask.1 aou);refine l_op (k_loadA (cs:=[.int .i64 1,S ((qR (-2) 1).1),S ((qR (-2) 1).2),S (qR 2 1).1,S (qR 2 1).2,S (qR 0 1).1,S (qR 0 1).2,S (qR 1 20).1,S (qR 1 20).2]) (b:=apa.heap.size) (o:=0) U2027 rfl sz2027 rfl (Blk.cells ax9 (i:=0) rfl) ?_);refine go ?_;exact dvA rfl ask erDl5;refine ⟨fun bb4 _ _ bb7 _ asl _ _ _=>?_,?_⟩;obtain ⟨bb4,rfl⟩:=ovE bb7;refine clb en2014 (hc:=l16of_ok dc dc) (hk:=?_);rintro _ _ aso rfl;refine go ?_;exact dvA rfl asl aso.2;refine ⟨fun bce _ _ bch _ asp _ _ _=>?_,?_⟩;obtain ⟨bce,rfl⟩:=ovE bch;refine clb en2014 (hc:=l16of_ok dc dc) (hk:=?_);rintro _ _ asr rfl;refine go ?_;exact dvA rfl asp asr.2;refine ⟨fun aqd _ _ bcq aqe ass _ _ _=>?_,?_⟩;obtain ⟨aqd,rfl⟩:=ovE bcq;have aya:=zpv (aqe 0 _ _ rfl rfl);have ayb:=zpv (aqe 1 _ _ rfl rfl);have ayc:=zpv (aqe 2 _ _ rfl rfl);have aqf:=xt sc ass.1;refine cl en2018 ((hD1 _ (ht.ext aqf))) ?_ (cons_eq aya (cons_eq ayb (cons_eq ayc (cons_eq rfl rfl))));rintro _ _ ast rfl;refine go ?_;exact dvA rfl ass ast.2;refine ⟨fun ayd _ _ bcy aye ayf _ _ _=>?_,?_⟩;obtain ⟨ayd,rfl⟩:=ovE bcy;have ayg:=zpv (aye 3 _ _ rfl rfl);refine go ?_;exact dvA rfl ayf erDl5;refine ⟨fun ayh _ _ bc4 ayi ayj _ _ _=>?_,?_⟩;obtain ⟨ayh,rfl⟩:=ovE bc4
 have ayk:=zpv (ayi 4 _ _ rfl rfl);refine go ?_;exact dvA rfl ayj erDl5;refine ⟨fun ayl _ _ bda aym ayn _ _ _=>?_,?_⟩;obtain ⟨ayl,rfl⟩:=ovE bda;have ayo:=zpv (aym 4 _ _ rfl rfl);refine go ?_;exact dvA rfl ayn erDl5;refine ⟨fun ayp _ _ bdg ayq ayr _ _ _=>?_,?_⟩;obtain ⟨ayp,rfl⟩:=ovE bdg;have ays:=zpv (ayq 4 _ _ rfl rfl);refine go ?_;exact dvA rfl ayr erDl5;refine ⟨fun bdk _ _ bdn _ asu ayt ayu _=>?_,?_⟩;obtain ⟨bdk,rfl⟩:=ovE bdn;have aqg:=xt sc asu.1;have bdq:=bz aqg;refine al inf1032 (fun _ asv ayv=>?_);refine go ?_;exact dvAa rfl asu (unl ayt (i:=8) (j:=10) rfl ayu) asv.2 ayv;refine ⟨fun ayw _ _ bdu ayx ayy _ _ _=>?_,?_⟩;obtain ⟨ayw,rfl⟩:=ovE bdu;have ayz:=zpv (ayx 5 _ _ rfl rfl);refine go ?_;exact dvA rfl ayy erDl5;refine ⟨fun ay0 _ _ bd0 ay1 aqh _ ay2 ay3=>?_,?_⟩;obtain ⟨ay0,rfl⟩:=ovE bd0;have ay4:=zpv (ay1 6 _ _ rfl rfl);have aqi:=xt sc aqh.1;have bd5:=bz aqi;obtain ⟨_,apx,ay6,ay7⟩:=XA.opn aqh (ay3 8 rfl) ay2;have apx:=zpv apx;have bd6:=bz sc;refine SA ay7 (fun _ aqj ay8=>?_);have bd8:=psz aqj;refine go ?_;exact dvAs (.inr rfl) aqh apx ay6 aqj ay8;exact trivial;intro asw ay9 _ asx aqk asy aps;obtain ⟨asw,rfl⟩:=ovE aqk;have aql:=(be aps.1 aou);have bea:=bt aql;have asz:=(be aps.1 ao1);have beb:=bt asz;have as0:=(be aps.1 ax7);have bec:=bt as0;have apj:=xt sc aps.1
 have bed:=bz apj;have bee:=bz aps.1;obtain ⟨as1,aqm,_,as2⟩:=XA.fin aps (asx 8 rfl) (.inl (asx 10 rfl));have aqm:=zpv aqm;have beg:=bt as2;have aza:=zpv (asy 7 _ _ rfl rfl);refine go ?_;refine c_dv hmix 11 [7,8,44,45,46,47,48,49,50,51] [some (45,.agg #[.int .i64 1,S ((qR (-2) 1).1),S ((qR (-2) 1).2),S (qR 2 1).1,S (qR 2 1).2,S (qR 0 1).1,S (qR 0 1).2,S (qR 1 20).1,S (qR 1 20).2]),some (46,.agg #[S (qR 1 2).1,S (qR 1 2).2]),some (47,.agg #[S (qR 1 1).1,S (qR 1 1).2]),some (48,.tuple #[.int .i64 2,.agg #[S (qR ka2 kb2).1,S (qR ka2 kb2).2,S (qR ua2 ub2).1,S (qR ua2 ub2).2],.int .i64 0]),some (44,.tuple #[.int .i64 2,.agg #[S (qR ka2 kb2).1,S (qR ka2 kb2).2,S (qR ua2 ub2).1,S (qR ua2 ub2).2],.int .i64 0]),some (49,.int .i64 2),some (50,.agg #[S (qR ka2 kb2).1,S (qR ka2 kb2).2,S (qR ua2 ub2).1,S (qR ua2 ub2).2]),some (51,.int .i64 0),none,some (7,.int .i64 2),none] (XA ay9 8 10 8 44 #[S ([]),S ([]),S ([]),S ([])] #[S (qR ka2 kb2).1,S (qR ka2 kb2).2,S (qR ua2 ub2).1,S (qR ua2 ub2).2]) XA.start krDl5 krDl5 krDl5 ?_ ?_;refine ⟨fun beh _ _ azb _ as4 _ _ _=>?_,?_⟩;obtain ⟨beh,rfl⟩:=ovE azb;have azc:=(be as4.1 aql);refine l_op (k_loadA (cs:=[.int .i64 1,S ((qR (-2) 1).1),S ((qR (-2) 1).2),S (qR 2 1).1,S (qR 2 1).2,S (qR 0 1).1,S (qR 0 1).2,S (qR 1 20).1,S (qR 1 20).2]) (b:=apa.heap.size) (o:=0) U2027 rfl sz2027 rfl (Blk.cells azc (i:=0) rfl) ?_)
 refine go ?_;exact dvA rfl as4 erDl5;refine ⟨fun beo _ _ bes _ as5 _ _ _=>?_,?_⟩;obtain ⟨beo,rfl⟩:=ovE bes;refine clb en2014 (hc:=l16of_ok dc dc) (hk:=?_);rintro _ _ as7 rfl;refine go ?_;exact dvA rfl as5 as7.2;refine ⟨fun bez _ _ be3 _ as8 _ _ _=>?_,?_⟩;obtain ⟨bez,rfl⟩:=ovE be3;refine clb en2014 (hc:=l16of_ok dc dc) (hk:=?_);rintro _ _ ata rfl;refine go ?_;exact dvA rfl as8 ata.2;refine ⟨fun aqn _ _ bfc aqo atb _ _ _=>?_,?_⟩;obtain ⟨aqn,rfl⟩:=ovE bfc;have azd:=zpv (aqo 0 _ _ rfl rfl);have aze:=zpv (aqo 1 _ _ rfl rfl);have azf:=zpv (aqo 2 _ _ rfl rfl);have aqp:=xt apj atb.1;refine cl en2018 ((hD2 _ (ht.ext aqp))) ?_ (cons_eq azd (cons_eq aze (cons_eq azf (cons_eq rfl rfl))));rintro _ _ atc rfl;refine go ?_;exact dvA rfl atb atc.2;refine ⟨fun azg _ _ bfk azh azi _ _ _=>?_,?_⟩;obtain ⟨azg,rfl⟩:=ovE bfk;have azj:=zpv (azh 3 _ _ rfl rfl);refine go ?_;exact dvA rfl azi erDl5;refine ⟨fun azk _ _ bfq azl azm _ _ _=>?_,?_⟩;obtain ⟨azk,rfl⟩:=ovE bfq;have azn:=zpv (azl 4 _ _ rfl rfl);refine go ?_;exact dvA rfl azm erDl5;refine ⟨fun azo _ _ bfw azp azq _ _ _=>?_,?_⟩;obtain ⟨azo,rfl⟩:=ovE bfw;have azr:=zpv (azp 4 _ _ rfl rfl);refine go ?_;exact dvA rfl azq erDl5;refine ⟨fun azs _ _ bf2 azt azu _ _ _=>?_,?_⟩;obtain ⟨azs,rfl⟩:=ovE bf2;have azv:=zpv (azt 4 _ _ rfl rfl);refine go ?_
 exact dvA rfl azu erDl5;refine ⟨fun bf6 _ _ bf9 _ atd azw azx _=>?_,?_⟩;obtain ⟨bf6,rfl⟩:=ovE bf9;have aqq:=xt apj atd.1;have bgc:=bz aqq;refine al inf1032 (fun _ ate azy=>?_);refine go ?_;exact dvAa rfl atd (unl azw (i:=8) (j:=10) rfl azx) ate.2 azy;refine ⟨fun azz _ _ bgg az0 az1 _ _ _=>?_,?_⟩;obtain ⟨azz,rfl⟩:=ovE bgg;have az2:=zpv (az0 5 _ _ rfl rfl);refine go ?_;exact dvA rfl az1 erDl5;refine ⟨fun az3 _ _ bgm az4 aqr _ az5 az6=>?_,?_⟩;obtain ⟨az3,rfl⟩:=ovE bgm;have az7:=zpv (az4 6 _ _ rfl rfl);have aqs:=xt apj aqr.1;have bgo:=bz aqs;obtain ⟨_,apy,az9,a0a⟩:=XA.opn aqr (az6 8 rfl) az5;have apy:=zpv apy;have bgp:=bz apj;refine SA a0a (fun _ aqt a0b=>?_);have bgr:=psz aqt;refine go ?_;exact dvAs (.inr rfl) aqr apy az9 aqt a0b;exact trivial;intro atf a0c _ atg apt ath apr;obtain ⟨atf,rfl⟩:=ovE apt;have aqu:=(be apr.1 aql);have bgt:=bt aqu;have ati:=(be apr.1 asz);have bgu:=bt ati;have atj:=(be apr.1 as0);have bgv:=bt atj;have atk:=(be apr.1 as2);have bgw:=bt atk;have apk:=xt apj apr.1;have bgx:=bz apk;have bgy:=bz apr.1;obtain ⟨_,atl,_,atm⟩:=XA.fin apr (atg 8 rfl) (.inl (atg 10 rfl));have atl:=zpv atl;have bg1:=bt atm;have a0d:=zpv (ath 7 _ _ rfl rfl);refine go ?_;refine c_dv hmix 11 [10,11,52,53,54,55,56,57,58,59] [some (53,.agg #[.int .i64 1,S ((qR (-2) 1).1),S ((qR (-2) 1).2),S (qR 2 1).1,S (qR 2 1).2,S (qR 0 1).1,S (qR 0 1).2,S (qR 1 20).1,S (qR 1 20).2]),some (54,.agg #[S (qR 5 2).1,S (qR 5 2).2]),some (55,.agg #[S (qR 1 1).1,S (qR 1 1).2]),some (56,.tuple #[.int .i64 2,.agg #[S (qR ka3 kb3).1,S (qR ka3 kb3).2,S (qR ua3 ub3).1,S (qR ua3 ub3).2],.int .i64 0]),some (52,.tuple #[.int .i64 2,.agg #[S (qR ka3 kb3).1,S (qR ka3 kb3).2,S (qR ua3 ub3).1,S (qR ua3 ub3).2],.int .i64 0]),some (57,.int .i64 2),some (58,.agg #[S (qR ka3 kb3).1,S (qR ka3 kb3).2,S (qR ua3 ub3).1,S (qR ua3 ub3).2]),some (59,.int .i64 0),none,some (10,.int .i64 2),none] (XA a0c 8 10 11 44 #[S ([]),S ([]),S ([]),S ([])] #[S (qR ka3 kb3).1,S (qR ka3 kb3).2,S (qR ua3 ub3).1,S (qR ua3 ub3).2]) XA.start krDl5 krDl5 krDl5 ?_ ?_
 refine ⟨fun bg2 _ _ a0e _ ato _ _ _=>?_,?_⟩;obtain ⟨bg2,rfl⟩:=ovE a0e;have a0f:=(be ato.1 aqu);refine l_op (k_loadA (cs:=[.int .i64 1,S ((qR (-2) 1).1),S ((qR (-2) 1).2),S (qR 2 1).1,S (qR 2 1).2,S (qR 0 1).1,S (qR 0 1).2,S (qR 1 20).1,S (qR 1 20).2]) (b:=apa.heap.size) (o:=0) U2027 rfl sz2027 rfl (Blk.cells a0f (i:=0) rfl) ?_);refine go ?_;exact dvA rfl ato erDl5;refine ⟨fun bg9 _ _ bhc _ atp _ _ _=>?_,?_⟩;obtain ⟨bg9,rfl⟩:=ovE bhc;refine clb en2014 (hc:=l16of_ok dc dc) (hk:=?_);rintro _ _ atr rfl;refine go ?_;exact dvA rfl atp atr.2;refine ⟨fun bhj _ _ bhm _ att _ _ _=>?_,?_⟩;obtain ⟨bhj,rfl⟩:=ovE bhm;refine clb en2014 (hc:=l16of_ok dc dc) (hk:=?_);rintro _ _ atv rfl;refine go ?_;exact dvA rfl att atv.2;refine ⟨fun aqv _ _ bhv aqw atw _ _ _=>?_,?_⟩;obtain ⟨aqv,rfl⟩:=ovE bhv;have a0g:=zpv (aqw 0 _ _ rfl rfl);have a0h:=zpv (aqw 1 _ _ rfl rfl);have a0i:=zpv (aqw 2 _ _ rfl rfl);have aqx:=xt apk atw.1;refine cl en2018 ((hD3 _ (ht.ext aqx))) ?_ (cons_eq a0g (cons_eq a0h (cons_eq a0i (cons_eq rfl rfl))));rintro _ _ atx rfl;refine go ?_;exact dvA rfl atw atx.2;refine ⟨fun a0j _ _ bh3 a0k a0l _ _ _=>?_,?_⟩;obtain ⟨a0j,rfl⟩:=ovE bh3;have a0m:=zpv (a0k 3 _ _ rfl rfl);refine go ?_;exact dvA rfl a0l erDl5;refine ⟨fun a0n _ _ bh9 a0o a0p _ _ _=>?_,?_⟩;obtain ⟨a0n,rfl⟩:=ovE bh9
 have a0q:=zpv (a0o 4 _ _ rfl rfl);refine go ?_;exact dvA rfl a0p erDl5;refine ⟨fun a0r _ _ bifq a0s a0t _ _ _=>?_,?_⟩;obtain ⟨a0r,rfl⟩:=ovE bifq;have a0u:=zpv (a0s 4 _ _ rfl rfl);refine go ?_;exact dvA rfl a0t erDl5;refine ⟨fun a0v _ _ bil a0w a0x _ _ _=>?_,?_⟩;obtain ⟨a0v,rfl⟩:=ovE bil;have a0y:=zpv (a0w 4 _ _ rfl rfl);refine go ?_;exact dvA rfl a0x erDl5;refine ⟨fun bip _ _ bis _ aty a0z a00 _=>?_,?_⟩;obtain ⟨bip,rfl⟩:=ovE bis;have aqy:=xt apk aty.1;have biv:=bz aqy;refine al inf1032 (fun _ atz a01=>?_);refine go ?_;exact dvAa rfl aty (unl a0z (i:=8) (j:=10) rfl a00) atz.2 a01;refine ⟨fun a02 _ _ biz a03 a04 _ _ _=>?_,?_⟩;obtain ⟨a02,rfl⟩:=ovE biz;have a05:=zpv (a03 5 _ _ rfl rfl);refine go ?_;exact dvA rfl a04 erDl5;refine ⟨fun a06 _ _ bi5 a07 aqz _ a08 a09=>?_,?_⟩;obtain ⟨a06,rfl⟩:=ovE bi5;have a1a:=zpv (a07 6 _ _ rfl rfl);have aq0:=xt apk aqz.1;have bi7:=bz aq0;obtain ⟨_,apz,a1c,a1d⟩:=XA.opn aqz (a09 8 rfl) a08;have apz:=zpv apz;have bi8:=bz apk;refine SA a1d (fun _ aq1 a1e=>?_);have bja:=psz aq1;refine go ?_;exact dvAs (.inr rfl) aqz apz a1c aq1 a1e;exact trivial;intro at0 a1f _ at1 apl at2 apm;obtain ⟨at0,rfl⟩:=ovE apl;have at3:=(be apm.1 aqu);have bjc:=bt at3;have aq2:=(be apm.1 ati);have bjd:=bt aq2;have at4:=(be apm.1 atj);have bje:=bt at4;have at5:=(be apm.1 atk)
 have bjf:=bt at5;have at6:=(be apm.1 atm);have bjg:=bt at6;have apn:=xt apk apm.1;have bjh:=bz apn;have bji:=bz apm.1;obtain ⟨_,at7,_,at8⟩:=XA.fin apm (at1 8 rfl) (.inl (at1 10 rfl));have at7:=zpv at7;have bjl:=bt at8;have a1g:=zpv (at2 7 _ _ rfl rfl);refine go ?_;refine c_dv hmix 11 [13,14,60,61,62,63,64,65,66,67] [some (61,.agg #[.int .i64 2,S ((qR (-2) 1).1),S ((qR (-2) 1).2),S (qR 2 1).1,S (qR 2 1).2,S (qR 1 1).1,S (qR 1 1).2,S (qR 1 20).1,S (qR 1 20).2]),some (62,.agg #[S (qR 3 2).1,S (qR 3 2).2]),some (63,.agg #[S (qR 1 1).1,S (qR 1 1).2]),some (64,.tuple #[.int .i64 2,.agg #[S (qR ka4 kb4).1,S (qR ka4 kb4).2,S (qR ua4 ub4).1,S (qR ua4 ub4).2],.int .i64 0]),some (60,.tuple #[.int .i64 2,.agg #[S (qR ka4 kb4).1,S (qR ka4 kb4).2,S (qR ua4 ub4).1,S (qR ua4 ub4).2],.int .i64 0]),some (65,.int .i64 2),some (66,.agg #[S (qR ka4 kb4).1,S (qR ka4 kb4).2,S (qR ua4 ub4).1,S (qR ua4 ub4).2]),some (67,.int .i64 0),none,some (13,.int .i64 2),none] (XA a1f 8 10 14 44 #[S ([]),S ([]),S ([]),S ([])] #[S (qR ka4 kb4).1,S (qR ka4 kb4).2,S (qR ua4 ub4).1,S (qR ua4 ub4).2]) XA.start krDl5 krDl5 krDl5 ?_ ?_;refine ⟨fun bjm _ _ a1i _ at9 _ _ _=>?_,?_⟩;obtain ⟨bjm,rfl⟩:=ovE a1i;have a1j:=(be at9.1 aq2);refine l_op (k_loadA (cs:=[.int .i64 2,S ((qR (-2) 1).1),S ((qR (-2) 1).2),S (qR 2 1).1,S (qR 2 1).2,S (qR 1 1).1,S (qR 1 1).2,S (qR 1 20).1,S (qR 1 20).2]) (b:=ap7.heap.size) (o:=0) U2027 rfl sz2027 rfl (Blk.cells a1j (i:=0) rfl) ?_)
 refine go ?_;exact dvA rfl at9 erDl5;refine ⟨fun bjt _ _ bjw _ aua _ _ _=>?_,?_⟩;obtain ⟨bjt,rfl⟩:=ovE bjw;refine clb en2014 (hc:=l16of_ok dc dc) (hk:=?_);rintro _ _ auc rfl;refine go ?_;exact dvA rfl aua auc.2;refine ⟨fun bj3 _ _ bj6 _ aud _ _ _=>?_,?_⟩;obtain ⟨bj3,rfl⟩:=ovE bj6;refine clb en2014 (hc:=l16of_ok dc dc) (hk:=?_);rintro _ _ auf rfl;refine go ?_;exact dvA rfl aud auf.2;refine ⟨fun aq3 _ _ bkf aq4 aug _ _ _=>?_,?_⟩;obtain ⟨aq3,rfl⟩:=ovE bkf;have a1k:=zpv (aq4 0 _ _ rfl rfl);have a1l:=zpv (aq4 1 _ _ rfl rfl);have a1m:=zpv (aq4 2 _ _ rfl rfl);have aq5:=xt apn aug.1;refine cl en2018 ((hD4 _ (ht.ext aq5))) ?_ (cons_eq a1k (cons_eq a1l (cons_eq a1m (cons_eq rfl rfl))));rintro _ _ auh rfl;refine go ?_;exact dvA rfl aug auh.2;refine ⟨fun a1n _ _ bkn a1o a1p _ _ _=>?_,?_⟩;obtain ⟨a1n,rfl⟩:=ovE bkn;have a1q:=zpv (a1o 3 _ _ rfl rfl);refine go ?_;exact dvA rfl a1p erDl5;refine ⟨fun a1r _ _ bkt a1s a1t _ _ _=>?_,?_⟩;obtain ⟨a1r,rfl⟩:=ovE bkt;have a1u:=zpv (a1s 4 _ _ rfl rfl);refine go ?_;exact dvA rfl a1t erDl5;refine ⟨fun a1v _ _ bkz a1w a1x _ _ _=>?_,?_⟩;obtain ⟨a1v,rfl⟩:=ovE bkz;have a1y:=zpv (a1w 4 _ _ rfl rfl);refine go ?_;exact dvA rfl a1x erDl5;refine ⟨fun a1z _ _ blb a11 a12 _ _ _=>?_,?_⟩;obtain ⟨a1z,rfl⟩:=ovE blb;have a13:=zpv (a11 4 _ _ rfl rfl);refine go ?_
 exact dvA rfl a12 erDl5;refine ⟨fun blg _ _ blj _ aui a14 a15 _=>?_,?_⟩;obtain ⟨blg,rfl⟩:=ovE blj;have aq6:=xt apn aui.1;have bln:=bz aq6;refine al inf1032 (fun _ auj a16=>?_);refine go ?_;exact dvAa rfl aui (unl a14 (i:=8) (j:=10) rfl a15) auj.2 a16;refine ⟨fun a17 _ _ blr a18 a19 _ _ _=>?_,?_⟩;obtain ⟨a17,rfl⟩:=ovE blr;have a2a:=zpv (a18 5 _ _ rfl rfl);refine go ?_;exact dvA rfl a19 erDl5;refine ⟨fun a2b _ _ bly a2c aq7 _ a2d a2e=>?_,?_⟩;obtain ⟨a2b,rfl⟩:=ovE bly;have a2f:=zpv (a2c 6 _ _ rfl rfl);have aq8:=xt apn aq7.1;have bl0:=bz aq8;obtain ⟨_,ap0,a2h,a2i⟩:=XA.opn aq7 (a2e 8 rfl) a2d;have ap0:=zpv ap0;have bl1:=bz apn;refine SA a2i (fun _ aq9 a2j=>?_);have bl3:=psz aq9;refine go ?_;exact dvAs (.inr rfl) aq7 ap0 a2h aq9 a2j;exact trivial;intro auk a2k _ aul aph aum api;obtain ⟨auk,rfl⟩:=ovE aph;have aun:=(be api.1 at3);have bl5:=bt aun;have auo:=(be api.1 aq2);have bl6:=bt auo;have ara:=(be api.1 at4);have bl7:=bt ara;have aup:=(be api.1 at5);have bl8:=bt aup;have auq:=(be api.1 at6);have bl9:=bt auq;have aur:=(be api.1 at8);have bma:=bt aur;have apo:=xt apn api.1;have bmb:=bz apo;have bmc:=bz api.1;obtain ⟨_,aus,_,aut⟩:=XA.fin api (aul 8 rfl) (.inl (aul 10 rfl));have aus:=zpv aus;have bmf:=bt aut;have a2l:=zpv (aum 7 _ _ rfl rfl)
 refine go ?_;refine c_dv hmix 11 [16,17,68,69,70,71,72,73,74,75] [some (69,.agg #[.int .i64 1,S ((qR (-2) 1).1),S ((qR (-2) 1).2),S (qR 2 1).1,S (qR 2 1).2,S (qR 0 1).1,S (qR 0 1).2,S (qR 455 10000).1,S (qR 455 10000).2]),some (70,.agg #[S (qR 0 1).1,S (qR 0 1).2]),some (71,.agg #[S (qR 1 1).1,S (qR 1 1).2]),some (72,.tuple #[.int .i64 3,.agg #[S (qR ka5 kb5).1,S (qR ka5 kb5).2,S (qR ua5 ub5).1,S (qR ua5 ub5).2],.int .i64 0]),some (68,.tuple #[.int .i64 3,.agg #[S (qR ka5 kb5).1,S (qR ka5 kb5).2,S (qR ua5 ub5).1,S (qR ua5 ub5).2],.int .i64 0]),some (73,.int .i64 3),some (74,.agg #[S (qR ka5 kb5).1,S (qR ka5 kb5).2,S (qR ua5 ub5).1,S (qR ua5 ub5).2]),some (75,.int .i64 0),none,some (16,.int .i64 3),none] (XA a2k 8 10 17 44 #[S ([]),S ([]),S ([]),S ([])] #[S (qR ka5 kb5).1,S (qR ka5 kb5).2,S (qR ua5 ub5).1,S (qR ua5 ub5).2]) XA.start krDl5 krDl5 krDl5 ?_ ?_;refine ⟨fun bmg _ _ a2m _ auv _ _ _=>?_,?_⟩;obtain ⟨bmg,rfl⟩:=ovE a2m;have a2n:=(be auv.1 ara);refine l_op (k_loadA (cs:=[.int .i64 1,S ((qR (-2) 1).1),S ((qR (-2) 1).2),S (qR 2 1).1,S (qR 2 1).2,S (qR 0 1).1,S (qR 0 1).2,S (qR 455 10000).1,S (qR 455 10000).2]) (b:=apu.heap.size) (o:=0) U2027 rfl sz2027 rfl (Blk.cells a2n (i:=0) rfl) ?_);refine go ?_;exact dvA rfl auv erDl5;refine ⟨fun bmn _ _ bmq _ auw _ _ _=>?_,?_⟩
 obtain ⟨bmn,rfl⟩:=ovE bmq;refine clb en2014 (hc:=l16of_ok dc dc) (hk:=?_);rintro _ _ auy rfl;refine go ?_;exact dvA rfl auw auy.2;refine ⟨fun bmx _ _ bm0 _ auz _ _ _=>?_,?_⟩;obtain ⟨bmx,rfl⟩:=ovE bm0;refine clb en2014 (hc:=l16of_ok dc dc) (hk:=?_);rintro _ _ au1 rfl;refine go ?_;exact dvA rfl auz au1.2;refine ⟨fun arb _ _ bm9 arc au2 _ _ _=>?_,?_⟩;obtain ⟨arb,rfl⟩:=ovE bm9;have a2o:=zpv (arc 0 _ _ rfl rfl);have a2p:=zpv (arc 1 _ _ rfl rfl);have a2q:=zpv (arc 2 _ _ rfl rfl);have ard:=xt apo au2.1;refine cl en2018 ((hD5 _ (ht.ext ard))) ?_ (cons_eq a2o (cons_eq a2p (cons_eq a2q (cons_eq rfl rfl))));rintro _ _ au3 rfl;refine go ?_;exact dvA rfl au2 au3.2;refine ⟨fun a2r _ _ bni a2s a2t _ _ _=>?_,?_⟩;obtain ⟨a2r,rfl⟩:=ovE bni;have a2u:=zpv (a2s 3 _ _ rfl rfl);refine go ?_;exact dvA rfl a2t erDl5;refine ⟨fun a2v _ _ bno a2w a2x _ _ _=>?_,?_⟩;obtain ⟨a2v,rfl⟩:=ovE bno;have a2y:=zpv (a2w 4 _ _ rfl rfl);refine go ?_;exact dvA rfl a2x erDl5;refine ⟨fun a2z _ _ bnu a22 a23 _ _ _=>?_,?_⟩;obtain ⟨a2z,rfl⟩:=ovE bnu;have a24:=zpv (a22 4 _ _ rfl rfl);refine go ?_;exact dvA rfl a23 erDl5;refine ⟨fun a25 _ _ bn0 a26 a27 _ _ _=>?_,?_⟩;obtain ⟨a25,rfl⟩:=ovE bn0;have a28:=zpv (a26 4 _ _ rfl rfl);refine go ?_;exact dvA rfl a27 erDl5;refine ⟨fun bn5 _ _ bn8 _ au4 a29 a3a _=>?_,?_⟩;obtain ⟨bn5,rfl⟩:=ovE bn8
 have arf:=xt apo au4.1;have bob:=bz arf;refine al inf1032 (fun _ au5 a3b=>?_);refine go ?_;exact dvAa rfl au4 (unl a29 (i:=8) (j:=10) rfl a3a) au5.2 a3b;refine ⟨fun a3c _ _ bof a3d a3e _ _ _=>?_,?_⟩;obtain ⟨a3c,rfl⟩:=ovE bof;have a3f:=zpv (a3d 5 _ _ rfl rfl);refine go ?_;exact dvA rfl a3e erDl5;refine ⟨fun a3g _ _ bol a3h arh _ a3i a3j=>?_,?_⟩;obtain ⟨a3g,rfl⟩:=ovE bol;have a3k:=zpv (a3h 6 _ _ rfl rfl);have ari:=xt apo arh.1;have bon:=bz ari;obtain ⟨_,ap1,a3m,a3n⟩:=XA.opn arh (a3j 8 rfl) a3i;have ap1:=zpv ap1;have boo:=bz apo;refine SA a3n (fun _ arj a3o=>?_);have boq:=psz arj;refine go ?_;exact dvAs (.inr rfl) arh ap1 a3m arj a3o;exact trivial;intro au6 a3p _ au7 ao2 au8 apb;obtain ⟨au6,rfl⟩:=ovE ao2;have au9:=(be apb.1 aun);have bos:=bt au9;have ava:=(be apb.1 auo);have bot:=bt ava;have ark:=(be apb.1 ara);have bou:=bt ark;have avb:=(be apb.1 aup);have bov:=bt avb;have avc:=(be apb.1 auq);have bow:=bt avc;have avd:=(be apb.1 aur);have boy:=bt avd;have ave:=(be apb.1 aut);have boz:=bt ave;have apq:=xt apo apb.1;have bo0:=bz apq;have bo1:=bz apb.1;obtain ⟨_,avf,_,avg⟩:=XA.fin apb (au7 8 rfl) (.inl (au7 10 rfl));have avf:=zpv avf;have bo4:=bt avg;have a3q:=zpv (au8 7 _ _ rfl rfl);refine go ?_;refine c_dv hmix 11 [19,20,76,77,78,79,80,81,82,83] [some (77,.agg #[.int .i64 1,S ((qR (-2) 1).1),S ((qR (-2) 1).2),S (qR 2 1).1,S (qR 2 1).2,S (qR 0 1).1,S (qR 0 1).2,S (qR 455 10000).1,S (qR 455 10000).2]),some (78,.agg #[S (qR 0 1).1,S (qR 0 1).2]),some (79,.agg #[S (qR 1 1).1,S (qR 1 1).2]),some (80,.tuple #[.int .i64 2,.agg #[S (qR ka6 kb6).1,S (qR ka6 kb6).2,S (qR ua6 ub6).1,S (qR ua6 ub6).2],.int .i64 0]),some (76,.tuple #[.int .i64 2,.agg #[S (qR ka6 kb6).1,S (qR ka6 kb6).2,S (qR ua6 ub6).1,S (qR ua6 ub6).2],.int .i64 0]),some (81,.int .i64 2),some (82,.agg #[S (qR ka6 kb6).1,S (qR ka6 kb6).2,S (qR ua6 ub6).1,S (qR ua6 ub6).2]),some (83,.int .i64 0),none,some (19,.int .i64 2),none] (XA a3p 8 10 20 44 #[S ([]),S ([]),S ([]),S ([])] #[S (qR ka6 kb6).1,S (qR ka6 kb6).2,S (qR ua6 ub6).1,S (qR ua6 ub6).2]) XA.start krDl5 krDl5 krDl5 ?_ ?_
 refine ⟨fun bo5 _ _ a3s _ avh _ _ _=>?_,?_⟩;obtain ⟨bo5,rfl⟩:=ovE a3s;have a3t:=(be avh.1 ark);refine l_op (k_loadA (cs:=[.int .i64 1,S ((qR (-2) 1).1),S ((qR (-2) 1).2),S (qR 2 1).1,S (qR 2 1).2,S (qR 0 1).1,S (qR 0 1).2,S (qR 455 10000).1,S (qR 455 10000).2]) (b:=apu.heap.size) (o:=0) U2027 rfl sz2027 rfl (Blk.cells a3t (i:=0) rfl) ?_);refine go ?_;exact dvA rfl avh erDl5;refine ⟨fun bpc _ _ bpf _ avi _ _ _=>?_,?_⟩;obtain ⟨bpc,rfl⟩:=ovE bpf;refine clb en2014 (hc:=l16of_ok dc dc) (hk:=?_);rintro _ _ avk rfl;refine go ?_;exact dvA rfl avi avk.2;refine ⟨fun bpm _ _ bpp _ avl _ _ _=>?_,?_⟩;obtain ⟨bpm,rfl⟩:=ovE bpp;refine clb en2014 (hc:=l16of_ok dc dc) (hk:=?_);rintro _ _ avn rfl;refine go ?_;exact dvA rfl avl avn.2;refine ⟨fun arl _ _ bpz arm avo _ _ _=>?_,?_⟩;obtain ⟨arl,rfl⟩:=ovE bpz;have a3u:=zpv (arm 0 _ _ rfl rfl);have a3v:=zpv (arm 1 _ _ rfl rfl);have a3w:=zpv (arm 2 _ _ rfl rfl);have arn:=xt apq avo.1;refine cl en2018 ((hD6 _ (ht.ext arn))) ?_ (cons_eq a3u (cons_eq a3v (cons_eq a3w (cons_eq rfl rfl))));rintro _ _ avp rfl;refine go ?_;exact dvA rfl avo avp.2;refine ⟨fun a3x _ _ bp7 a3y a3z _ _ _=>?_,?_⟩;obtain ⟨a3x,rfl⟩:=ovE bp7;have a30:=zpv (a3y 3 _ _ rfl rfl);refine go ?_;exact dvA rfl a3z erDl5;refine ⟨fun a31 _ _ bqd a32 a33 _ _ _=>?_,?_⟩
 obtain ⟨a31,rfl⟩:=ovE bqd;have a34:=zpv (a32 4 _ _ rfl rfl);refine go ?_;exact dvA rfl a33 erDl5;refine ⟨fun a35 _ _ bqj a36 a38 _ _ _=>?_,?_⟩;obtain ⟨a35,rfl⟩:=ovE bqj;have a39:=zpv (a36 4 _ _ rfl rfl);refine go ?_;exact dvA rfl a38 erDl5;refine ⟨fun a4a _ _ bqp a4b a4c _ _ _=>?_,?_⟩;obtain ⟨a4a,rfl⟩:=ovE bqp;have a4d:=zpv (a4b 4 _ _ rfl rfl);refine go ?_;exact dvA rfl a4c erDl5;refine ⟨fun bqt _ _ bqw _ avq a4e a4f _=>?_,?_⟩;obtain ⟨bqt,rfl⟩:=ovE bqw;have aro:=xt apq avq.1;have bqz:=bz aro;refine al inf1032 (fun _ avr a4g=>?_);refine go ?_;exact dvAa rfl avq (unl a4e (i:=8) (j:=10) rfl a4f) avr.2 a4g;refine ⟨fun a4h _ _ bq3 a4i a4j _ _ _=>?_,?_⟩;obtain ⟨a4h,rfl⟩:=ovE bq3;have a4k:=zpv (a4i 5 _ _ rfl rfl);refine go ?_;exact dvA rfl a4j erDl5;refine ⟨fun a4l _ _ bq9 a4m arp _ a4n a4o=>?_,?_⟩;obtain ⟨a4l,rfl⟩:=ovE bq9;have a4p:=zpv (a4m 6 _ _ rfl rfl);have arq:=xt apq arp.1;have brb:=bz arq;obtain ⟨_,ap2,a4r,a4s⟩:=XA.opn arp (a4o 8 rfl) a4n;have ap2:=zpv ap2;have brc:=bz apq;refine SA a4s (fun _ arr a4t=>?_);have bre:=psz arr;refine go ?_;exact dvAs (.inr rfl) arp ap2 a4r arr a4t;exact trivial;intro aov _ _ avs aoy avt ao3;obtain ⟨aov,rfl⟩:=ovE aoy;have aol:=(be ao3.1 au9);have brh:=bt aol;have aon:=(be ao3.1 ava);have bri:=bt aon;have aoo:=(be ao3.1 ark)
 have brj:=bt aoo;have aom:=(be ao3.1 avb);have brk:=bt aom;have aop:=(be ao3.1 avc);have brl:=bt aop;have aoq:=(be ao3.1 avd);have brm:=bt aoq;have aor:=(be ao3.1 ave);have brn:=bt aor;have aos:=(be ao3.1 avg);have bro:=bt aos;have r8:=xt apq ao3.1;have brp:=bz r8;have brq:=bz ao3.1;obtain ⟨_,avu,_,aot⟩:=XA.fin ao3 (avs 8 rfl) (.inl (avs 10 rfl));have avu:=zpv avu;have brt:=bt aot;have a4u:=zpv (avt 7 _ _ rfl rfl);refine go ?_;refine clb en2014 (hc:=l16of_ok dc dc) (hk:=?_);rintro _ _ apc rfl;have aol:=be apc.2 aol;have aon:=be apc.2 aon;have aoo:=be apc.2 aoo;have aom:=be apc.2 aom;have aop:=be apc.2 aop;have aoq:=be apc.2 aoq;have aor:=be apc.2 aor;have aos:=be apc.2 aos;have aot:=be apc.2 aot;have r8:=xt r8 apc.2;refine clb en2014 (hc:=l16of_ok dc dc) (hk:=?_);rintro _ _ apd rfl;have aol:=be apd.2 aol;have aon:=be apd.2 aon;have aoo:=be apd.2 aoo;have aom:=be apd.2 aom;have aop:=be apd.2 aop;have aoq:=be apd.2 aoq;have aor:=be apd.2 aor;have aos:=be apd.2 aos;have aot:=be apd.2 aot;have r8:=xt r8 apd.2;refine cl en2023 (l16rule_ok (kd:=3) (ga:=1) (gb:=2) (ra:=1) (rb:=20)) ?_;rintro _ _ ape rfl;have aol:=be ape.2 aol;have aon:=be ape.2 aon
 have aoo:=be ape.2 aoo;have aom:=be ape.2 aom;have aop:=be ape.2 aop;have aoq:=be ape.2 aoq;have aor:=be ape.2 aor;have aos:=be ape.2 aos;have aot:=be ape.2 aot;have r8:=xt r8 ape.2;refine cl en2020 ((hA1 _ (ht.ext r8))) ?_;rintro _ avv apf rfl;have aol:=be apf.2 aol;have aon:=be apf.2 aon;have aoo:=be apf.2 aoo;have aom:=be apf.2 aom;have aop:=be apf.2 aop;have aoq:=be apf.2 aoq;have aor:=be apf.2 aor;have aos:=be apf.2 aos;have aot:=be apf.2 aot;have r8:=xt r8 apf.2;refine go ?_;refine al inf1032 (fun _ apg a4v=>?_);have aol:=be apg.2 aol;have aon:=be apg.2 aon;have aoo:=be apg.2 aoo;have aom:=be apg.2 aom;have aop:=be apg.2 aop;have aoq:=be apg.2 aoq;have aor:=be apg.2 aor;have aos:=be apg.2 aos;have aot:=be apg.2 aot;have r8:=xt r8 apg.2;refine SA a4v (fun _ ao4 aow=>?_);have aol:=pb ao4 aol;have aon:=pb ao4 aon;have aoo:=pb ao4 aoo;have aom:=pb ao4 aom;have aop:=pb ao4 aop;have aoq:=pb ao4 aoq;have aor:=pb ao4 aor;have aos:=pb ao4 aos;have aot:=pb ao4 aot;have r8:=plw ao4 r8;have br3:=psz ao4;refine go ?_;refine clb en2014 (hc:=l16of_ok dc dc) (hk:=?_);rintro _ _ ao5 rfl
 have aol:=be ao5.2 aol;have aon:=be ao5.2 aon;have aoo:=be ao5.2 aoo;have aom:=be ao5.2 aom;have aop:=be ao5.2 aop;have aoq:=be ao5.2 aoq;have aor:=be ao5.2 aor;have aos:=be ao5.2 aos;have aot:=be ao5.2 aot;have aow:=be ao5.2 aow;have r8:=xt r8 ao5.2;refine clb en2014 (hc:=l16of_ok dc dc) (hk:=?_);rintro _ _ ao6 rfl;have aol:=be ao6.2 aol;have aon:=be ao6.2 aon;have aoo:=be ao6.2 aoo;have aom:=be ao6.2 aom;have aop:=be ao6.2 aop;have aoq:=be ao6.2 aoq;have aor:=be ao6.2 aor;have aos:=be ao6.2 aos;have aot:=be ao6.2 aot;have aow:=be ao6.2 aow;have r8:=xt r8 ao6.2;refine cl en2023 (l16rule_ok (kd:=2) (ga:=3) (gb:=1) (ra:=1) (rb:=20)) ?_;rintro _ _ ao7 rfl;have aol:=be ao7.2 aol;have aon:=be ao7.2 aon;have aoo:=be ao7.2 aoo;have aom:=be ao7.2 aom;have aop:=be ao7.2 aop;have aoq:=be ao7.2 aoq;have aor:=be ao7.2 aor;have aos:=be ao7.2 aos;have aot:=be ao7.2 aot;have aow:=be ao7.2 aow;have r8:=xt r8 ao7.2;refine cl en2020 ((hA2 _ (ht.ext r8))) ?_;rintro _ _ ao8 rfl;have aol:=be ao8.2 aol;have aon:=be ao8.2 aon;have aoo:=be ao8.2 aoo;have aom:=be ao8.2 aom;have aop:=be ao8.2 aop;have aoq:=be ao8.2 aoq;have aor:=be ao8.2 aor;have aos:=be ao8.2 aos;have aot:=be ao8.2 aot
 have aow:=be ao8.2 aow;have r8:=xt r8 ao8.2;refine go ?_;refine al inf1032 (fun _ ao9 a4x=>?_);have aol:=be ao9.2 aol;have aon:=be ao9.2 aon;have aoo:=be ao9.2 aoo;have aom:=be ao9.2 aom;have aop:=be ao9.2 aop;have aoq:=be ao9.2 aoq;have aor:=be ao9.2 aor;have aos:=be ao9.2 aos;have aot:=be ao9.2 aot;have aow:=be ao9.2 aow;have r8:=xt r8 ao9.2;refine SA a4x (fun avw aoz a4y=>?_);have aol:=pb aoz aol;have aon:=pb aoz aon;have aoo:=pb aoz aoo;have aom:=pb aoz aom;have aop:=pb aoz aop;have aoq:=pb aoz aoq;have aor:=pb aoz aor;have aos:=pb aoz aos;have aot:=pb aoz aot;have aow:=pb aoz aow;have r8:=plw aoz r8;have bsc:=psz aoz;refine go ?_;have a44:=zpv (asy 9 _ _ rfl rfl);have a45:=aqm;have a47:=zpv (ath 9 _ _ rfl rfl);have a48:=zpv (at2 9 _ _ rfl rfl);have a49:=zpv (aum 9 _ _ rfl rfl);have a5a:=zpv (au8 9 _ _ rfl rfl);have a5b:=zpv (avt 9 _ _ rfl rfl);refine c_dv hmix 56 [128,129,130,131,132,133,134,135,136,137,138,139,140,141,142,143,144,145,146,147,148,149,150,151,152,153,154,155,156,157,158,159,160,161,162,163,164,165,166,167,168,169,170,171,172,173,174,175,176,177,178,179,180,181,182,183] [some (128,.bool true),some (129,.bool true),some (130,.int .i64 1),some (131,.bool true),some (132,.bool true),some (133,.bool true),some (134,.agg #[S (qR ka1 kb1).1,S (qR ka1 kb1).2,S (qR ua1 ub1).1,S (qR ua1 ub1).2]),some (135,.agg #[S (qR 455003 10000000).1,S (qR 455003 10000000).2]),some (136,.bool true),some (137,.bool true),some (138,.bool true),some (139,.int .i64 2),some (140,.bool true),some (141,.bool true),some (142,.bool true),some (143,.int .i64 2),some (144,.bool true),some (145,.bool true),some (146,.bool true),some (147,.int .i64 2),some (148,.bool true),some (149,.bool true),some (150,.bool true),some (151,.int .i64 3),some (152,.bool true),some (153,.bool true),some (154,.bool true),some (155,.int .i64 2),some (156,.bool true),some (157,.bool true),some (158,.bool true),some (159,.agg #[S ((qR (-5) 2).1),S ((qR (-5) 2).2),S (qR 5 2).1,S (qR 5 2).2]),some (160,.agg #[S ((qR (-5) 2).1),S ((qR (-5) 2).2)]),some (161,.agg #[S (qR 5 2).1,S (qR 5 2).2]),some (162,.agg #[S ((qR (-5) 2).1),S ((qR (-5) 2).2),S (qR 5 2).1,S (qR 5 2).2]),some (163,.bool true),some (164,.bool true),some (165,.bool true),some (166,.agg #[.int .i64 1,S ((qR (-2) 1).1),S ((qR (-2) 1).2),S (qR 2 1).1,S (qR 2 1).2,S (qR 0 1).1,S (qR 0 1).2,S (qR 1 20).1,S (qR 1 20).2]),some (167,.bool true),some (168,.bool true),some (169,.bool true),some (170,.agg #[.int .i64 0,S ([]),S ([]),S ([]),S ([]),S ([]),S ([]),S ([]),S ([])]),some (171,.bool false),some (172,.bool true),some (173,.bool true),some (174,.bool true),some (175,.agg #[.int .i64 1,S ((qR (-2) 1).1),S ((qR (-2) 1).2),S (qR 2 1).1,S (qR 2 1).2,S (qR 0 1).1,S (qR 0 1).2,S (qR 1 20).1,S (qR 1 20).2]),some (176,.agg #[S (qR 0 1).1,S (qR 0 1).2]),some (177,.agg #[S (qR 1 1).1,S (qR 1 1).2]),some (178,.bool true),some (179,.bool true),some (180,.bool true),some (181,.agg #[.int .i64 1,S ((qR (-2) 1).1),S ((qR (-2) 1).2),S (qR 2 1).1,S (qR 2 1).2,S (qR 0 1).1,S (qR 0 1).2,S (qR 1 20).1,S (qR 1 20).2]),some (182,.agg #[S (qR 0 1).1,S (qR 0 1).2]),some (183,.agg #[S (qR 1 1).1,S (qR 1 1).2])] (XE avw) (Ext.drew avw) krDl5 krDl5 krDl5 ?_ ?_
 refine ⟨fun bsd _ _ a5c _ a5d _ _ _=>?_,?_⟩;obtain ⟨bsd,rfl⟩:=ovE a5c;refine go ?_;exact dvE rfl a5d erDl5;refine ⟨fun a5e _ _ bsm a5f a5g _ _ _=>?_,?_⟩;obtain ⟨a5e,rfl⟩:=ovE bsm;have a5h:=zpv (a5f 0 _ _ rfl rfl);refine go ?_;exact dvE rfl a5g erDl5;refine ⟨fun a5i _ _ a5j a5k a5l _ _ _=>?_,?_⟩;obtain ⟨a5i,rfl⟩:=ovE a5j;have a5m:=zpv (a5k 1 _ _ rfl rfl);refine go ?_;exact dvE rfl a5l erDl5;refine ⟨fun avx _ _ bsx avy a5n _ _ _=>?_,?_⟩;obtain ⟨avx,rfl⟩:=ovE bsx;have a5o:=zpv (avy 1 _ _ rfl rfl);have a5p:=zpv (avy 2 _ _ rfl rfl);refine go ?_;exact dvE rfl a5n erDl5;refine ⟨fun avz _ _ bs3 av0 a5q _ _ _=>?_,?_⟩;obtain ⟨avz,rfl⟩:=ovE bs3;have a5r:=zpv (av0 1 _ _ rfl rfl);have a5s:=zpv (av0 3 _ _ rfl rfl);refine go ?_;exact dvE rfl a5q erDl5;refine ⟨fun a5t _ _ bs9 a5u a5v _ _ _=>?_,?_⟩;obtain ⟨a5t,rfl⟩:=ovE bs9;have a5w:=zpv (a5u 4 _ _ rfl rfl);refine go ?_;exact dvE rfl a5v erDl5;refine ⟨fun a5x _ _ a5y a5z av1 _ _ _=>?_,?_⟩;obtain ⟨a5x,rfl⟩:=ovE a5y;have a50:=zpv (a5z 5 _ _ rfl rfl);have a52:=(be av1 aom);refine go ?_;(try refine l_op (k_loadA (cs:=[S (qR ka1 kb1).1,S (qR ka1 kb1).2,S (qR ua1 ub1).1,S (qR ua1 ub1).2]) (b:=as1) (o:=0) U1032 rfl sz1032 a45 (Blk.cells a52 (i:=0) rfl) ?_));refine go ?_;exact dvE rfl av1 erDl5;refine ⟨fun a54 _ _ btk a55 av2 _ _ _=>?_,?_⟩
 obtain ⟨a54,rfl⟩:=ovE btk;have a56:=zpv (a55 5 _ _ rfl rfl);refine go ?_;refine clb en2014 (hc:=l16of_ok dc dc) (hk:=?_);rintro _ _ av4 rfl;refine go ?_;exact dvE rfl av2 av4.2;refine ⟨fun art _ _ btt aru av5 _ _ _=>?_,?_⟩;obtain ⟨art,rfl⟩:=ovE btt;have a57:=zpv (aru 5 _ _ rfl rfl);have a58:=zpv (aru 6 _ _ rfl rfl);have a59:=zpv (aru 7 _ _ rfl rfl);have arv:=xt r8 av5;refine go ?_;refine cl en1057 ((hC _ (ht.ext arv))) ?_ (cons_eq a58 (cons_eq a59 rfl));rintro _ _ av6 rfl;refine go ?_;exact dvE rfl av5 av6.2;refine ⟨fun av7 _ _ bt1 av8 a6a _ _ _=>?_,?_⟩;obtain ⟨av7,rfl⟩:=ovE bt1;have a6b:=zpv (av8 5 _ _ rfl rfl);have a6c:=zpv (av8 8 _ _ rfl rfl);refine go ?_;exact dvE rfl a6a erDl5;refine ⟨fun a6d _ _ bt7 a6e a6f _ _ _=>?_,?_⟩;obtain ⟨a6d,rfl⟩:=ovE bt7;have a6g:=zpv (a6e 9 _ _ rfl rfl);refine go ?_;exact dvE rfl a6f erDl5;refine ⟨fun a6h _ _ a6i a6j a6k _ _ _=>?_,?_⟩;obtain ⟨a6h,rfl⟩:=ovE a6i;have a6l:=zpv (a6j 10 _ _ rfl rfl);refine go ?_;exact dvE rfl a6k erDl5;refine ⟨fun av9 _ _ bui awa a6m _ _ _=>?_,?_⟩;obtain ⟨av9,rfl⟩:=ovE bui;have a6n:=zpv (awa 10 _ _ rfl rfl);have a6o:=zpv (awa 11 _ _ rfl rfl);refine go ?_;exact dvE rfl a6m erDl5;refine ⟨fun awb _ _ buo awc a6p _ _ _=>?_,?_⟩;obtain ⟨awb,rfl⟩:=ovE buo;have a6q:=zpv (awc 10 _ _ rfl rfl);have a6r:=zpv (awc 12 _ _ rfl rfl);refine go ?_
 exact dvE rfl a6p erDl5;refine ⟨fun a6s _ _ buv a6t a6u _ _ _=>?_,?_⟩;obtain ⟨a6s,rfl⟩:=ovE buv;have a6v:=zpv (a6t 13 _ _ rfl rfl);refine go ?_;exact dvE rfl a6u erDl5;refine ⟨fun a6w _ _ a6x a6y a6z _ _ _=>?_,?_⟩;obtain ⟨a6w,rfl⟩:=ovE a6x;have a60:=zpv (a6y 14 _ _ rfl rfl);refine go ?_;exact dvE rfl a6z erDl5;refine ⟨fun awd _ _ bu6 awe a61 _ _ _=>?_,?_⟩;obtain ⟨awd,rfl⟩:=ovE bu6;have a62:=zpv (awe 14 _ _ rfl rfl);have a63:=zpv (awe 15 _ _ rfl rfl);refine go ?_;exact dvE rfl a61 erDl5;refine ⟨fun awf _ _ bvc awg a64 _ _ _=>?_,?_⟩;obtain ⟨awf,rfl⟩:=ovE bvc;have a65:=zpv (awg 14 _ _ rfl rfl);have a66:=zpv (awg 16 _ _ rfl rfl);refine go ?_;exact dvE rfl a64 erDl5;refine ⟨fun a67 _ _ bvi a68 a69 _ _ _=>?_,?_⟩;obtain ⟨a67,rfl⟩:=ovE bvi;have a7a:=zpv (a68 17 _ _ rfl rfl);refine go ?_;exact dvE rfl a69 erDl5;refine ⟨fun a7b _ _ a7c a7d a7e _ _ _=>?_,?_⟩;obtain ⟨a7b,rfl⟩:=ovE a7c;have a7f:=zpv (a7d 18 _ _ rfl rfl);refine go ?_;exact dvE rfl a7e erDl5;refine ⟨fun awh _ _ bvt awi a7g _ _ _=>?_,?_⟩;obtain ⟨awh,rfl⟩:=ovE bvt;have a7h:=zpv (awi 18 _ _ rfl rfl);have a7i:=zpv (awi 19 _ _ rfl rfl);refine go ?_;exact dvE rfl a7g erDl5;refine ⟨fun awj _ _ bvz awk a7j _ _ _=>?_,?_⟩;obtain ⟨awj,rfl⟩:=ovE bvz;have a7k:=zpv (awk 18 _ _ rfl rfl);have a7l:=zpv (awk 20 _ _ rfl rfl);refine go ?_;exact dvE rfl a7j erDl5
 refine ⟨fun a7m _ _ bv5 a7n a7o _ _ _=>?_,?_⟩;obtain ⟨a7m,rfl⟩:=ovE bv5;have a7p:=zpv (a7n 21 _ _ rfl rfl);refine go ?_;exact dvE rfl a7o erDl5;refine ⟨fun a7q _ _ a7r a7s a7t _ _ _=>?_,?_⟩;obtain ⟨a7q,rfl⟩:=ovE a7r;have a7u:=zpv (a7s 22 _ _ rfl rfl);refine go ?_;exact dvE rfl a7t erDl5;refine ⟨fun awl _ _ bwg awm a7v _ _ _=>?_,?_⟩;obtain ⟨awl,rfl⟩:=ovE bwg;have a7w:=zpv (awm 22 _ _ rfl rfl);have a7x:=zpv (awm 23 _ _ rfl rfl);refine go ?_;exact dvE rfl a7v erDl5;refine ⟨fun awn _ _ bwm awo a7y _ _ _=>?_,?_⟩;obtain ⟨awn,rfl⟩:=ovE bwm;have a7z:=zpv (awo 22 _ _ rfl rfl);have a71:=zpv (awo 24 _ _ rfl rfl);refine go ?_;exact dvE rfl a7y erDl5;refine ⟨fun a73 _ _ bws a74 a77 _ _ _=>?_,?_⟩;obtain ⟨a73,rfl⟩:=ovE bws;have a78:=zpv (a74 25 _ _ rfl rfl);refine go ?_;exact dvE rfl a77 erDl5;refine ⟨fun a79 _ _ a8a a8b a8c _ _ _=>?_,?_⟩;obtain ⟨a79,rfl⟩:=ovE a8a;have a8d:=zpv (a8b 26 _ _ rfl rfl);refine go ?_;exact dvE rfl a8c erDl5;refine ⟨fun awp _ _ bw3 awq a8e _ _ _=>?_,?_⟩;obtain ⟨awp,rfl⟩:=ovE bw3;have a8f:=zpv (awq 26 _ _ rfl rfl);have a8g:=zpv (awq 27 _ _ rfl rfl);refine go ?_;exact dvE rfl a8e erDl5;refine ⟨fun awr _ _ bw9 aws a8h _ _ _=>?_,?_⟩;obtain ⟨awr,rfl⟩:=ovE bw9;have a8i:=zpv (aws 26 _ _ rfl rfl);have a8j:=zpv (aws 28 _ _ rfl rfl);refine go ?_;exact dvE rfl a8h erDl5;refine ⟨fun a8k _ _ bxf a8l a8m _ _ _=>?_,?_⟩
 obtain ⟨a8k,rfl⟩:=ovE bxf;have a8n:=zpv (a8l 29 _ _ rfl rfl);refine go ?_;exact dvE rfl a8m erDl5;refine ⟨fun a8o _ _ a8p a8q awt _ _ _=>?_,?_⟩;obtain ⟨a8o,rfl⟩:=ovE a8p;have a8r:=zpv (a8q 30 _ _ rfl rfl);have a8s:=(be awt aow);refine go ?_;(try refine l_op (k_loadA (cs:=[S ((qR (-5) 2).1),S ((qR (-5) 2).2),S (qR 5 2).1,S (qR 5 2).2]) (b:=avv.heap.size) (o:=0) U1032 rfl sz1032 rfl (Blk.cells a8s (i:=0) rfl) ?_));refine go ?_;exact dvE rfl awt erDl5;refine ⟨fun a8t _ _ bxq a8u awu _ _ _=>?_,?_⟩;obtain ⟨a8t,rfl⟩:=ovE bxq;have a8v:=zpv (a8u 30 _ _ rfl rfl);refine go ?_;refine clb en2014 (hc:=l16of_ok dc dc) (hk:=?_);rintro _ _ aww rfl;refine go ?_;exact dvE rfl awu aww.2;refine ⟨fun a8w _ _ bxy a8x awx _ _ _=>?_,?_⟩;obtain ⟨a8w,rfl⟩:=ovE bxy;have a8y:=zpv (a8x 30 _ _ rfl rfl);refine go ?_;refine clb en2014 (hc:=l16of_ok dc dc) (hk:=?_);rintro _ _ awz rfl;refine go ?_;exact dvE rfl awx awz.2;refine ⟨fun arw _ _ bx6 arx a8z _ _ _=>?_,?_⟩;obtain ⟨arw,rfl⟩:=ovE bx6;have a80:=zpv (arx 30 _ _ rfl rfl);have a81:=zpv (arx 32 _ _ rfl rfl);have a82:=zpv (arx 33 _ _ rfl rfl);refine go ?_;refine l_op (k_build (vs:=[(0,.agg #[S ((qR (-5) 2).1),S ((qR (-5) 2).2)]),(1,.agg #[S (qR 5 2).1,S (qR 5 2).2])]) (cells:=#[S ((qR (-5) 2).1),S ((qR (-5) 2).2),S (qR 5 2).1,S (qR 5 2).2]) (pl:=[(0,2),(2,2)]) U1032 inf1032 krDl5 (cons_eqp a81 (cons_eqp a82 rfl)) krDl5 ?_)
 refine go ?_;exact dvE rfl a8z erDl5;refine ⟨fun ary _ _ byc arz a83 _ _ _=>?_,?_⟩;obtain ⟨ary,rfl⟩:=ovE byc;have a84:=zpv (arz 30 _ _ rfl rfl);have a86:=zpv (arz 31 _ _ rfl rfl);have a87:=zpv (arz 34 _ _ rfl rfl);refine go ?_;refine l_op (k_eqlI (a:=(qR (-5) 2,qR 5 2)) (b:=(qR (-5) 2,qR 5 2)) (q:=true) a86 a87 (decide_eq_true rfl) ?_);refine go ?_;exact dvE rfl a83 erDl5;refine ⟨fun aw0 _ _ byi aw1 a88 _ _ _=>?_,?_⟩;obtain ⟨aw0,rfl⟩:=ovE byi;have a89:=zpv (aw1 30 _ _ rfl rfl);have a9a:=zpv (aw1 35 _ _ rfl rfl);refine go ?_;exact dvE rfl a88 erDl5;refine ⟨fun a9b _ _ byo a9c a9d _ _ _=>?_,?_⟩;obtain ⟨a9b,rfl⟩:=ovE byo;have a9e:=zpv (a9c 36 _ _ rfl rfl);refine go ?_;exact dvE rfl a9d erDl5;refine ⟨fun a9f _ _ a9g a9h aw2 _ _ _=>?_,?_⟩;obtain ⟨a9f,rfl⟩:=ovE a9g;have a9i:=zpv (a9h 37 _ _ rfl rfl);have a9j:=(be aw2 aol);refine go ?_;refine l_op (k_loadA (cs:=[.int .i64 1,S ((qR (-2) 1).1),S ((qR (-2) 1).2),S (qR 2 1).1,S (qR 2 1).2,S (qR 0 1).1,S (qR 0 1).2,S (qR 1 20).1,S (qR 1 20).2]) (b:=apa.heap.size) (o:=0) U2027 rfl sz2027 rfl (Blk.cells a9j (i:=0) rfl) ?_);refine go ?_;exact dvE rfl aw2 erDl5;refine ⟨fun aw3 _ _ by0 aw4 aw5 _ _ _=>?_,?_⟩;obtain ⟨aw3,rfl⟩:=ovE by0;have a9k:=zpv (aw4 37 _ _ rfl rfl);have a9l:=zpv (aw4 38 _ _ rfl rfl);have ar0:=xt r8 aw5;refine go ?_;refine cl en2024 ((hV1 _ (ht.ext ar0))) ?_ (cons_eq a9l rfl)
 rintro _ _ aw6 rfl;refine go ?_;exact dvE rfl aw5 aw6.2;refine ⟨fun aw7 _ _ by8 aw8 a9m _ _ _=>?_,?_⟩;obtain ⟨aw7,rfl⟩:=ovE by8;have a9n:=zpv (aw8 37 _ _ rfl rfl);have a9o:=zpv (aw8 39 _ _ rfl rfl);refine go ?_;exact dvE rfl a9m erDl5;refine ⟨fun a9p _ _ bze a9q a9r _ _ _=>?_,?_⟩;obtain ⟨a9p,rfl⟩:=ovE bze;have a9s:=zpv (a9q 40 _ _ rfl rfl);refine go ?_;exact dvE rfl a9r erDl5;refine ⟨fun a9t _ _ bzk a9u a9v _ _ _=>?_,?_⟩;obtain ⟨a9t,rfl⟩:=ovE bzk;have a9w:=zpv (a9u 41 _ _ rfl rfl);refine go ?_;refine l_op (k_build (vs:=[]) (cells:=#[.int .i64 0,S ([]),S ([]),S ([]),S ([]),S ([]),S ([]),S ([]),S ([])]) (pl:=[(0,1),(1,2),(3,2),(5,2),(7,2)]) U2027 inf2027 krDl5 rfl krDl5 ?_);refine go ?_;exact dvE rfl a9v erDl5;refine ⟨fun aw9 _ _ bzq axa axb _ _ _=>?_,?_⟩;obtain ⟨aw9,rfl⟩:=ovE bzq;have a9x:=zpv (axa 41 _ _ rfl rfl);have a9y:=zpv (axa 42 _ _ rfl rfl);have ar1:=xt r8 axb;refine go ?_;refine cl en2024 ((hV2 _ (ht.ext ar1))) ?_ (cons_eq a9y rfl);rintro _ _ axc rfl;refine go ?_;exact dvE rfl axb axc.2;refine ⟨fun axd _ _ bzy axe a9z _ _ _=>?_,?_⟩;obtain ⟨axd,rfl⟩:=ovE bzy;have a90:=zpv (axe 41 _ _ rfl rfl);have a91:=zpv (axe 43 _ _ rfl rfl);refine go ?_;exact dvE rfl a9z erDl5;refine ⟨fun axf _ _ bz5 axg a92 _ _ _=>?_,?_⟩;obtain ⟨axf,rfl⟩:=ovE bz5;have a93:=zpv (axg 41 _ _ rfl rfl)
 have a94:=zpv (axg 44 _ _ rfl rfl);refine go ?_;exact dvE rfl a92 erDl5;refine ⟨fun a95 _ _ b0b a96 a97 _ _ _=>?_,?_⟩;obtain ⟨a95,rfl⟩:=ovE b0b;have a98:=zpv (a96 45 _ _ rfl rfl);refine go ?_;exact dvE rfl a97 erDl5;refine ⟨fun a99 _ _ baa bab axh _ _ _=>?_,?_⟩;obtain ⟨a99,rfl⟩:=ovE baa;have bac:=zpv (bab 46 _ _ rfl rfl);have bae:=(be axh aol);refine go ?_;refine l_op (k_loadA (cs:=[.int .i64 1,S ((qR (-2) 1).1),S ((qR (-2) 1).2),S (qR 2 1).1,S (qR 2 1).2,S (qR 0 1).1,S (qR 0 1).2,S (qR 1 20).1,S (qR 1 20).2]) (b:=apa.heap.size) (o:=0) U2027 rfl sz2027 rfl (Blk.cells bae (i:=0) rfl) ?_);refine go ?_;exact dvE rfl axh erDl5;refine ⟨fun baf _ _ b0m bag axi _ _ _=>?_,?_⟩;obtain ⟨baf,rfl⟩:=ovE b0m;have bah:=zpv (bag 46 _ _ rfl rfl);refine go ?_;refine clb en2014 (hc:=l16of_ok dc dc) (hk:=?_);rintro _ _ axk rfl;refine go ?_;exact dvE rfl axi axk.2;refine ⟨fun bai _ _ b0u baj axl _ _ _=>?_,?_⟩;obtain ⟨bai,rfl⟩:=ovE b0u;have bak:=zpv (baj 46 _ _ rfl rfl);refine go ?_;refine clb en2014 (hc:=l16of_ok dc dc) (hk:=?_);rintro _ _ axn rfl;refine go ?_;exact dvE rfl axl axn.2;refine ⟨fun ap3 _ _ b02 ap4 axo _ _ _=>?_,?_⟩;obtain ⟨ap3,rfl⟩:=ovE b02;have bal:=zpv (ap4 46 _ _ rfl rfl);have bam:=zpv (ap4 47 _ _ rfl rfl);have ban:=zpv (ap4 48 _ _ rfl rfl);have bao:=zpv (ap4 49 _ _ rfl rfl)
 have ar2:=xt r8 axo;refine go ?_;refine cl en2012 ((hS1 _ (ht.ext ar2))) ?_ (cons_eq bam (cons_eq rfl (cons_eq ban (cons_eq bao (cons_eq rfl rfl)))));rintro _ _ axp rfl;refine go ?_;exact dvE rfl axo axp.2;refine ⟨fun axq _ _ b1a axr bap _ _ _=>?_,?_⟩;obtain ⟨axq,rfl⟩:=ovE b1a;have baq:=zpv (axr 46 _ _ rfl rfl);have bar:=zpv (axr 50 _ _ rfl rfl);refine go ?_;exact dvE rfl bap erDl5;refine ⟨fun bas _ _ b1g bat bau _ _ _=>?_,?_⟩;obtain ⟨bas,rfl⟩:=ovE b1g;have bav:=zpv (bat 51 _ _ rfl rfl);refine go ?_;exact dvE rfl bau erDl5;refine ⟨fun baw _ _ bax bay axs _ _ _=>?_,?_⟩;obtain ⟨baw,rfl⟩:=ovE bax;have baz:=zpv (bay 52 _ _ rfl rfl);have ba0:=(be axs aol);refine go ?_;refine l_op (k_loadA (cs:=[.int .i64 1,S ((qR (-2) 1).1),S ((qR (-2) 1).2),S (qR 2 1).1,S (qR 2 1).2,S (qR 0 1).1,S (qR 0 1).2,S (qR 1 20).1,S (qR 1 20).2]) (b:=apa.heap.size) (o:=0) U2027 rfl sz2027 rfl (Blk.cells ba0 (i:=0) rfl) ?_);refine go ?_;exact dvE rfl axs erDl5;refine ⟨fun ba1 _ _ b1r ba2 axt _ _ _=>?_,?_⟩;obtain ⟨ba1,rfl⟩:=ovE b1r;have ba3:=zpv (ba2 52 _ _ rfl rfl);refine go ?_;refine clb en2014 (hc:=l16of_ok dc dc) (hk:=?_);rintro _ _ axv rfl;refine go ?_;exact dvE rfl axt axv.2;refine ⟨fun ba4 _ _ b1z ba5 axw _ _ _=>?_,?_⟩;obtain ⟨ba4,rfl⟩:=ovE b1z;have ba6:=zpv (ba5 52 _ _ rfl rfl);refine go ?_;refine clb en2014 (hc:=l16of_ok dc dc) (hk:=?_)
 rintro _ _ axy rfl;refine go ?_;exact dvE rfl axw axy.2;exact trivial;intro ap5 _ _ _ b19 ap6 aox;obtain ⟨ap5,rfl⟩:=ovE b19;have ar3:=(be aox aol);have b2a:=bt ar3;have ar4:=(be aox aon);have b2b:=bt ar4;have ar5:=(be aox aoo);have b2c:=bt ar5;have ar6:=(be aox aom);have b2d:=bt ar6;have ar7:=(be aox aop);have b2e:=bt ar7;have ar8:=(be aox aoq);have b2f:=bt ar8;have ar9:=(be aox aor);have b2g:=bt ar9;have asa:=(be aox aos);have b2h:=bt asa;have asb:=(be aox aot);have b2i:=bt asb;have asc:=(be aox aow);have b2j:=bt asc;have asd:=(be aox a4y);have b2k:=bt asd;have apv:=xt r8 aox;have b2l:=bz apv;have b2m:=bz aox;with_reducible refine l_drop rfl ?_
 have ase:=zpv (ap6 52 _ _ rfl rfl);refine go ?_;have ba7:=zpv (ap6 53 _ _ rfl rfl);have ba8:=zpv (ap6 54 _ _ rfl rfl);have ba9:=zpv (ap6 55 _ _ rfl rfl);refine cl en2012 ((hS2 _ (ht.ext apv))) ?_ (cons_eq ba7 (cons_eq rfl (cons_eq ba8 (cons_eq ba9 (cons_eq rfl rfl)))));rintro _ _ ao0 rfl;have apv:=xt apv ao0.2;refine go ?_;exact f_ret1 (t:=0) (v:=.bool true) rfl apv rfl rfl
set_option maxRecDepth 100000 in
theorem validZ_ok {w:World} :
    Calls Tryz.prog 24 #[.agg #[.int .i64 0,S ([]),S ([]),S ([]),S ([]),S ([]),S ([]),S ([]),S ([])]] w (Ret w fun v w'=>v=.bool false):=by
 refine f_in Tryz.func24 rfl ?_;refine go ?_;refine bx (fun _ r8 _=>?_);have aol:=r8.2;refine go ?_;refine l_op (k_fieldAddr (b:=w.heap.size) (o:=0) (off:=0) (oo:=0) U2027 rfl rfl sz3 rfl rfl ?_);refine go ?_;exact f_ret1 (t:=2) (v:=.bool false) rfl aol rfl rfl
end Go.Proofs.YtonigegpknhdnaaGreatDoor
namespace Go.Proofs.YtonigegpknhdnaaGreatDoor
open Go Go.Eng Go.RowKit
theorem vdct_1 {r a:Bool} : vdct r a=1 ↔ (r=false∧a=true):=by cases r <;> cases a <;> simp [vdct]
theorem vdct_2 {r a:Bool} : vdct r a=2 ↔ r=true:=by cases r <;> cases a <;> simp [vdct]
theorem vdct_ge {r a:Bool} : 1≤vdct r a:=by cases r <;> cases a <;> simp [vdct]
theorem pl_of {y:Int}(hy:In64 y) : ∃ pl:Nat,1+pickI y 8=((pl:Nat) : Int)∧1≤pl∧pl≤8:=by
  have:=pick_bd y 8 dc
  exact ⟨(1+pickI y 8).toNat,by omega,by omega,by omega⟩
structure MkP (kd:Nat) (L W G gd R q S D:Int) : Prop where
  k1:1≤kd
  k3:kd≤3
  l1 : -20≤L
  l2:L≤20
  w1:1≤W
  w2:W≤40
  g0:0≤G
  g2:2*G≤W
  gk:(kd=1∧G=0∧gd=1) ∨ (kd≠1∧gd=10)
  r0:0≤R
  r1:R≤100
  q1:100≤q
  q2:q≤900
  s1:1≤S
  s2:S≤30
  d1 : -10≤D
  d2:D≤50
theorem wd_bd {W D:Int}(h1:1≤W)(h2:W≤40) (h3 : -50≤D)(h4:D≤50) : -2000≤W*D∧W*D≤2000:=by
  have a1:W*D≤W*50:=Int.mul_le_mul_of_nonneg_left h4 om
  have a2:W*(-50)≤W*D:=Int.mul_le_mul_of_nonneg_left h3 om
  omega
theorem make_c {x0 x1 x2 x3 x4 x5 x6:Int}(hx0:In64 x0)(hx1:In64 x1)(hx2:In64 x2)(hx3:In64 x3)(hx4:In64 x4)(hx5:In64 x5)(hx6:In64 x6) :
    ∃ (kd:Nat) (L W G gd R q S D:Int),MkP kd L W G gd R q S D∧∀ w:World,Calls Tryz.prog 9 #[.agg #[.int .i64 x0,.int .i64 x1,.int .i64 x2,.int .i64 x3,.int .i64 x4,.int .i64 x5,.int .i64 x6]] w (Ret w fun v _=>v=CasV kd L 10 (L+W) 10 G gd R q (L*40+W*D) 400 S 20):=by
  have b0:=pick_bd x0 3 dc
  have b1:=pick_bd x1 41 dc
  have b2:=pick_bd x2 40 dc
  have b4:=pick_bd x4 101 dc
  have b6:=pick_bd x5 30 dc
  have b7:=pick_bd x6 61 dc
  obtain ⟨q2,hq2⟩ : ∃ q2,(1+pickI x2 40).tdiv 2=q2:=⟨_,rfl⟩
  have c2:q2=(1+pickI x2 40) / 2:=by rw [← hq2,Int.tdiv_eq_ediv_of_nonneg om]
  have b3:=pick_bd x3 (1+q2) om
  obtain ⟨q4,hq4⟩ : ∃ q4,x4.tdiv 101=q4:=⟨_,rfl⟩
  have c4:In64 q4:=by
    rw [← hq4]
    unfold In64 at *
    have h2:(x4.tdiv 101).natAbs=x4.natAbs / 101:=Int.natAbs_tdiv x4 101
    omega
  have b5:=pick_bd q4 3 dc
  obtain ⟨kd,hkd⟩ : ∃ kd:Nat,1+pickI x0 3=((kd:Nat) : Int):=⟨(1+pickI x0 3).toNat,by omega⟩
  have hwd:=wd_bd (W:=1+pickI x2 40) (D:=pickI x6 61 - 10) om om om om
  have key : ∀ gn gd : Int, (pickI x0 3 = 0 → qR 0 1 = qR gn gd) → (pickI x0 3 ≠ 0 → qR (pickI x3 (1 + q2)) 10 = qR gn gd) → ∀ w : World, Calls Tryz.prog 9 #[.agg #[.int .i64 x0, .int .i64 x1, .int .i64 x2, .int .i64 x3, .int .i64 x4, .int .i64 x5, .int .i64 x6]] w (Ret w fun v _ => v = CasV kd (pickI x1 41 - 20) 10 (pickI x1 41 - 20 + (1 + pickI x2 40)) 10 gn gd (pickI x4 101) (100 + 400 * pickI q4 3) ((pickI x1 41 - 20) * 40 + (1 + pickI x2 40) * (pickI x6 61 - 10)) 400 (1 + pickI x5 30) 20) := by
    intro gn gd h1 h2 w
    have h := make16_ok (w := w) (ha := pickI x1 41 - 20 + (1 + pickI x2 40)) (hb := 10) (ma := (1 + pickI x2 40) * (pickI x6 61 - 10)) (mb := 10 * 40) (va := (pickI x1 41 - 20) * 40 + (1 + pickI x2 40) * (pickI x6 61 - 10)) (vb := 400) hx0 hx1 hx2 hx3 hx4 hx5 hx6 rfl rfl rfl rfl rfl rfl rfl rfl hq2 hq4 c4 b0 b1 b2 om b4 b5 b6 b7 om
      (q9_12 om dc dc) (q9_12 om dc dc) (q9_12 om dc dc) (q9_12 om dc dc) (qR_congr dc dc om) (mulR_q (q9_12 om dc dc) (q9_12 om dc dc))
      (qR_congr dc dc om) h1 h2
    rw [hkd] at h
    exact h
  by_cases h0:pickI x0 3=0
  · exact ⟨kd,_,_,0,1,_,_,_,_,⟨by omega,by omega,by omega,by omega,by omega,by omega,by omega,by omega,.inl ⟨by omega,rfl,rfl⟩,b4.1,by omega,by omega,by omega,by omega,by omega,by omega,by omega⟩,key 0 1 (fun _=>rfl) (fun h=>absurd h0 h)⟩
  · exact ⟨kd,_,_,_,10,_,_,_,_,⟨by omega,by omega,by omega,by omega,by omega,by omega,b3.1,by omega,.inr ⟨by omega,rfl⟩,b4.1,by omega,by omega,by omega,by omega,by omega,by omega,by omega⟩,key _ 10 (fun h=>absurd h h0) (fun _=>rfl)⟩
section
variable {kd : Nat} {L W G gd R q S D : Int}
theorem sz_ {a b:Int}(h1 : -1000000≤a∧a≤1000000)(h2:0<b)(h3:b≤1000000) : Sz a b:=⟨by omega,h2,by omega⟩
theorem MkP.rl (m:MkP kd L W G gd R q S D) : ∃ xa xb ya yb,Rl kd L 10 (L+W) 10 G gd R q xa xb ya yb∧xa*yb≤ya*xb:=by
  obtain ⟨k1,k3,_,_,_,_,g0,_,_,r0,_,_,_,_,_,_,_⟩:=m
  have hl:Sz L 10:=sz_ om dc dc
  have hh:Sz (L+W) 10:=sz_ om dc dc
  have hr:Sz R q:=sz_ om om om
  have hg:Sz G gd:=sz_ om om om
  rcases (by omega:kd=1 ∨ kd=2 ∨ kd=3) with rfl | rfl | rfl
  · exact ⟨_,_,_,_,⟨k1,k3,hl,hh,hg,hr,g0,fun _=>by omega,r0,by omega,by omega,.inl ⟨rfl,rfl,rfl,rfl,rfl⟩⟩,by omega⟩
  · obtain rfl : gd = 10 := by omega
    exact ⟨_,_,_,_,⟨k1,k3,hl,hh,hg,hr,g0,fun h=>by omega,r0,by omega,by omega,.inr (.inl ⟨rfl,rfl,rfl,rfl,rfl⟩)⟩,by omega⟩
  · obtain rfl : gd = 10 := by omega
    exact ⟨_,_,_,_,⟨k1,k3,hl,hh,hg,hr,g0,fun h=>by omega,r0,by omega,by omega,.inr (.inr ⟨rfl,rfl,rfl,rfl,rfl⟩)⟩,by omega⟩
theorem MkP.vs (m:MkP kd L W G gd R q S D) : Sz (L*40+W*D) 400∧Sz S 20∧0<S:=by
  obtain ⟨_,_,_,_,w1,w2,_,_,_,_,_,_,_,_,_,_,d2⟩:=m
  have hwd:=wd_bd w1 w2 (show -50≤D by omega) d2
  exact ⟨sz_ om dc dc,sz_ om dc dc,by omega⟩
end
theorem shX_int {W D s:Int}(w1:1≤W)(w40:W≤40) (d1 : -50≤D)(d50:D≤50)(s1:1≤s)(s30:s≤30) :
    ∃ n d:Int,0<d∧d≤600∧-2000≤n∧n≤2000∧n*(20*s)=W*D*d∧(0<n ↔ 0<D)∧ShX n d:=by
  obtain ⟨W',rfl⟩ : ∃ W' : Nat,W=W':=⟨W.toNat,by omega⟩
  obtain ⟨s',rfl⟩ : ∃ s' : Nat,s=s':=⟨s.toNat,by omega⟩
  by_cases h:0≤D
  · obtain ⟨D', rfl⟩ : ∃ D' : Nat, D = D' := ⟨D.toNat, by omega⟩
    obtain ⟨n,d,h1,h2,h3,h4,h5,h6,_⟩:=shX_frac dp_all (W:=W') (D:=D') (s:=s') om om om om om
    exact ⟨n,d,by omega,by omega,by omega,by omega,by have:=congrArg Int.ofNat h4; simpa using this,by omega,h6⟩
  · obtain ⟨D', rfl⟩ : ∃ D' : Nat, D = -(D' : Int) := ⟨(-D).toNat, by omega⟩
    obtain ⟨n,d,h1,h2,h3,h4,h5,_,h6⟩:=shX_frac dp_all (W:=W') (D:=D') (s:=s') om om om om om
    refine ⟨-(n:Int),d,by omega,by omega,by omega,by omega,?_,by omega,h6⟩
    have:((n*(20*s') : Nat) : Int)=((W'*D'*d:Nat) : Int):=congrArg Int.ofNat h4
    simp only [Int.natCast_mul] at this
    have e:((20:Nat) : Int)=20:=rfl
    rw [e] at this
    rw [Int.neg_mul,this,Int.mul_neg,Int.neg_mul]
def redK (ck:Nat→Nat→(Nat→Nat→Bool)→Bool)(n d:Nat) (K:Nat→Nat→Bool) : Bool:=fz (Nat.gcd n d) fun g=>fz (Nat.div n g) fun a=>fz (Nat.div d g) fun b=>ck a b K
theorem redK_ok {ck:Nat→Nat→(Nat→Nat→Bool)→Bool}{pl n d:Nat}{K:Nat→Nat→Bool}(hc:CkR pl ck)(hn:0<n)(hd:0<d)(h:redK ck n d K=true) : ∃ f c:Nat,FindR pl (nrmBd pl (n:Int) (d:Int)) (f:Int) (c:Int)∧FindR pl (nrmBd pl (-(n:Int)) (d:Int)) (tenI pl - c) (tenI pl - f)∧K f c=true:=by
  unfold redK at h
  rw [fz_eq,fz_eq,fz_eq] at h
  have hg:0<Nat.gcd n d:=Nat.gcd_pos_of_pos_left _ hn
  have h1:0<n / Nat.gcd n d:=Nat.div_pos (Nat.le_of_dvd hn (Nat.gcd_dvd_left _ _)) hg
  have h2:0<d / Nat.gcd n d:=Nat.div_pos (Nat.le_of_dvd hd (Nat.gcd_dvd_right _ _)) hg
  obtain ⟨f,c,hP,hk⟩:=hc _ _ _ h1 h2 h
  obtain ⟨r1,r2⟩:=posR_cel hd hP
  exact ⟨f,c,r1,r2,hk⟩
def monK (S W D:Nat) : Bool:=fz (Nat.mul 20 S) fun d=>redK nmk3 (Nat.mul W D) d fun _ c=>redK nmk3 (Nat.mul W (Nat.add 40 D)) d fun f _=>Nat.ble c f
def monW (S W:Nat) : Bool:=cond (Nat.beq (Nat.gcd W S) 1) (allN (fun D=>cond (Nat.ble (Nat.mul 160 S) (Nat.mul W (Nat.add 40 D))) true (monK S W D)) 10) true
def monS (S:Nat) : Bool:=allN (fun W=>monW S W) 40
theorem monS_ok {S W D:Nat}(h:monS S=true)(w1:1≤W)(w2:W≤40)(d1:1≤D)(d2:D≤10)(hg:Nat.gcd W S=1)(h8:W*(40+D)<160*S) : monK S W D=true:=by
  have h1:=allN_ok h W w1 w2
  unfold monW at h1
  rw [hg] at h1
  rcases cond_t h1 with ⟨_,h2⟩ | ⟨h2,_⟩
  · have h3 := allN_ok h2 D d1 d2
    rcases cond_t h3 with ⟨h4,_⟩ | ⟨_,h4⟩
    · have := Nat.le_of_ble_eq_true h4
      exact absurd (show 160*S≤W*(40+D) from this) om
    · exact h4
  · cases h2
theorem mon1:allN monS 10=true:=by decide +kernel
theorem mon2:allN (fun i=>monS (Nat.add 10 i)) 6=true:=by decide +kernel
theorem mon3:allN (fun i=>monS (Nat.add 16 i)) 5=true:=by decide +kernel
theorem mon4:allN (fun i=>monS (Nat.add 21 i)) 5=true:=by decide +kernel
theorem mon5:allN (fun i=>monS (Nat.add 26 i)) 4=true:=by decide +kernel
theorem mon_all {S:Nat}(h1:1≤S)(h2:S≤30) : monS S=true:=by
  by_cases a:S≤10
  · exact allN_ok mon1 S h1 a
  by_cases b:S≤16
  · have h := allN_ok mon2 (S - 10) om om
    rwa [show Nat.add 10 (S - 10)=S by show 10+(S - 10)=S; omega] at h
  by_cases c:S≤21
  · have h := allN_ok mon3 (S - 16) om om
    rwa [show Nat.add 16 (S - 16)=S by show 16+(S - 16)=S; omega] at h
  by_cases d:S≤26
  · have h := allN_ok mon4 (S - 21) om om
    rwa [show Nat.add 21 (S - 21)=S by show 21+(S - 21)=S; omega] at h
  · have h := allN_ok mon5 (S - 26) om om
    rwa [show Nat.add 26 (S - 26)=S by show 26+(S - 26)=S; omega] at h
theorem mon_at {S W D:Nat} {f1 c1 f2 c2:Int} (w1:1≤W) (w2:W≤40) (d1:1≤D) (d2:D≤10) (s1:1≤S) (s2:S≤30) (hg:Nat.gcd W S=1) (h8:W*(40+D)<160*S)
    (h1:NmC 3 ((W*D:Nat) : Int) ((20*S:Nat) : Int) f1 c1) (h2:NmC 3 (-((W*(40+D) : Nat) : Int)) ((20*S:Nat) : Int) f2 c2) : c1+c2≤1000:=by
  have h:=monS_ok (mon_all s1 s2) w1 w2 d1 d2 hg h8
  unfold monK at h
  rw [fz_eq] at h
  have p1:0<W*D:=Nat.mul_pos w1 d1
  have p2:0<W*(40+D):=Nat.mul_pos w1 om
  have p3:W*D≤W*(40+D):=Nat.mul_le_mul_left _ om
  obtain ⟨f,c,r1,_,h⟩:=redK_ok nmo3 p1 (show 0<20*S by omega) h
  obtain ⟨f',c',_,r2,h⟩:=redK_ok nmo3 p2 (show 0<20*S by omega) h
  have hk:=Nat.le_of_ble_eq_true h
  have n1:NmC 3 ((W*D:Nat) : Int) ((20*S:Nat) : Int) f c:=Or.inr (Or.inr (Or.inr ⟨by omega,by omega,by omega,r1⟩))
  have n2:NmC 3 (-((W*(40+D) : Nat) : Int)) ((20*S:Nat) : Int) (tenI 3 - c') (tenI 3 - f'):=Or.inr (Or.inr (Or.inr ⟨by omega,by omega,by omega,r2⟩))
  obtain ⟨_,_⟩:=h1.uniq om n1
  obtain ⟨_,_⟩:=h2.uniq om n2
  have t3:tenI 3=1000:=by decide
  omega
theorem mon_ge {S W D:Nat} {n1 e1 n2 e2 f1 c1 f2 c2:Int} (w1:1≤W) (w2:W≤40) (d1:1≤D) (d2:D≤10) (s1:1≤S) (s2:S≤30) (he1:0<e1) (he2:0<e2) (h8:W*(40+D)<160*S)
    (q1:n1*(20*(S:Int))=(W:Int)*(D:Int)*e1) (q2:n2*(20*(S:Int)) = -((W:Int)*(40+(D:Int)))*e2) (h1:NmC 3 n1 e1 f1 c1) (h2:NmC 3 n2 e2 f2 c2) : c1+c2≤1000:=by
  have hg:0<Nat.gcd W S:=Nat.gcd_pos_of_pos_left _ w1
  obtain ⟨w,hw⟩:=Nat.gcd_dvd_left W S
  obtain ⟨s,hs⟩:=Nat.gcd_dvd_right W S
  have hc:=Nat.coprime_div_gcd_div_gcd hg
  have ew:W / Nat.gcd W S=w:=by
    conv=>lhs; lhs; rw [hw]
    exact Nat.mul_div_cancel_left _ hg
  have es:S / Nat.gcd W S=s:=by
    conv=>lhs; lhs; rw [hs]
    exact Nat.mul_div_cancel_left _ hg
  rw [ew,es] at hc
  generalize Nat.gcd W S=g at *
  have w0:1≤w:=by
    rcases Nat.eq_zero_or_pos w with h | h
    · rw [h,Nat.mul_zero] at hw; omega
    · exact h
  have s0:1≤s:=by
    rcases Nat.eq_zero_or_pos s with h | h
    · rw [h,Nat.mul_zero] at hs; omega
    · exact h
  have wW:w≤W:=by
    calc w = 1 * w := (Nat.one_mul w).symm
      _≤g*w:=Nat.mul_le_mul_right _ hg
      _=W:=hw.symm
  have sS:s≤S:=by
    calc s = 1 * s := (Nat.one_mul s).symm
      _≤g*s:=Nat.mul_le_mul_right _ hg
      _=S:=hs.symm
  have hg' : (0:Int)<(g:Int):=by omega
  have iw:(W:Int)=(g:Int)*(w:Int):=by rw [hw]; exact Int.natCast_mul _ _
  have is:(S:Int)=(g:Int)*(s:Int):=by rw [hs]; exact Int.natCast_mul _ _
  rw [iw,is] at q1 q2
  refine mon_at (W:=w) (S:=s) (D:=D) w0 om d1 d2 s0 om hc ?_ (h1.congr he1 om ?_) (h2.congr he2 om ?_)
  · refine Nat.lt_of_mul_lt_mul_left (a := g) ?_
    rw [show g*(w*(40+D))=g*w*(40+D) by grind,show g*(160*s)=160*(g*s) by grind,← hw,← hs]; exact h8
  · refine Int.eq_of_mul_eq_mul_left (a := (g : Int)) om ?_
    rw [show ((20*s:Nat) : Int)=20*(s:Int) by omega,show ((w*D:Nat) : Int)=(w:Int)*(D:Int) from Int.natCast_mul _ _]
    grind
  · refine Int.eq_of_mul_eq_mul_left (a := (g : Int)) om ?_
    rw [show ((20*s:Nat) : Int)=20*(s:Int) by omega,show ((w*(40+D) : Nat) : Int)=(w:Int)*(40+(D:Int)) by rw [Int.natCast_mul]; rfl]
    grind
theorem sh_ex {pl u f c:Nat}{n d:Int}(hd:0<d)(e:n*1000000=u*d)(h0:0<u)(h8:u<8000000)(h:Cel pl u f c) : Sh pl n d f c∧Sh pl (-n) d (tenI pl - c) (tenI pl - f):=by
  have hT:((10 ^ pl:Nat) : Int)=tenI pl:=rfl
  have hn0:0<n:=by
    rcases Int.lt_or_le 0 n with x | x
    · exact x
    · have:=Int.mul_pos (show (0:Int)<u by omega) hd; omega
  have hn8:n<8*d:=by
    have:(u:Int)*d<8000000*d:=Int.mul_lt_mul_of_pos_right om hd
    omega
  have c1:clp n d=(n,d):=by unfold clp; rw [if_pos om,if_pos om]
  have c2:clp (-n) d=(-n,d):=by unfold clp; rw [if_pos om,if_pos om]
  have e1:flI n d (tenI 6)=u∧clI n d (tenI 6)=u:=by
    unfold flI clI
    rw [ten6,e,Int.mul_ediv_cancel _ om,Int.mul_emod_left,if_pos rfl]; exact ⟨rfl,rfl⟩
  have hle:=h.le
  have h3:=h.2.2.1
  have h4:=h.2.2.2
  constructor
  · refine ⟨f, c, ?_, ?_, by omega, by omega, by omega⟩
    · rw [c1]; simp only; rw [e1.1]; exact h.nmc h0 h8
    · rw [c1]; simp only; rw [e1.2]; exact h.nmc h0 h8
  · refine ⟨tenI pl - c, tenI pl - f, ?_, ?_, by omega, by omega, by omega⟩
    · rw [c2]; simp only; rw [flI_neg hd,e1.2]; exact h.nmn h0 h8
    · rw [c2]; simp only; rw [clI_neg hd,e1.1]; exact h.nmn h0 h8
def oneK (ck:Nat→Nat→(Nat→Nat→Bool)→Bool) (T n d F C:Nat) : Bool:=ck n d fun f c=>and (and (Nat.beq f F) (Nat.beq c C)) (and (Nat.ble T (Nat.mul 2 F)) (Nat.ble C T))
theorem oneK_ok {pl u n d T F C:Nat}{ck:Nat→Nat→(Nat→Nat→Bool)→Bool}(hc:CkR pl ck)(hT:T=10 ^ pl)(en:u / Nat.gcd u 1000000=n)(ed:1000000 / Nat.gcd u 1000000=d)(hn:0<n)(hd:0<d)(h:oneK ck T n d F C=true) : Cel pl u F C:=by
  obtain ⟨f,c,hP,hk⟩:=hc n d _ hn hd h
  simp only [Bool.and_eq_true,Nat.ble_eq] at hk
  obtain ⟨⟨h1,h2⟩,h3,h4⟩:=hk
  have h1:=Nat.eq_of_beq_eq_true h1
  have h2:=Nat.eq_of_beq_eq_true h2
  subst h1 h2 en ed hT
  obtain ⟨r1,r2⟩:=posR_cel dc hP
  exact ⟨r1,r2,h3,h4⟩
theorem ce1:Cel 4 2000000 9772 9773:=oneK_ok (T:=10000) (n:=2) (d:=1) nmo4 dc (by decide +kernel) (by decide +kernel) dc dc (by decide +kernel)
theorem ce2:Cel 4 2500000 9937 9938:=oneK_ok (T:=10000) (n:=5) (d:=2) nmo4 dc (by decide +kernel) (by decide +kernel) dc dc (by decide +kernel)
theorem ce3:Cel 4 1500000 9331 9332:=oneK_ok (T:=10000) (n:=3) (d:=2) nmo4 dc (by decide +kernel) (by decide +kernel) dc dc (by decide +kernel)
theorem ce4:Cel 4 4500000 9999 10000:=oneK_ok (T:=10000) (n:=9) (d:=2) nmo4 dc (by decide +kernel) (by decide +kernel) dc dc (by decide +kernel)
theorem ce5:Cel 4 500000 6914 6915:=oneK_ok (T:=10000) (n:=1) (d:=2) nmo4 dc (by decide +kernel) (by decide +kernel) dc dc (by decide +kernel)
theorem ce6:Cel 4 3500000 9997 9998:=oneK_ok (T:=10000) (n:=7) (d:=2) nmo4 dc (by decide +kernel) (by decide +kernel) dc dc (by decide +kernel)
theorem ce7:Cel 3 2000000 977 978:=oneK_ok (T:=1000) (n:=2) (d:=1) nmo3 dc (by decide +kernel) (by decide +kernel) dc dc (by decide +kernel)
theorem ce8:Cel 8 2000000 97724986 97724987:=oneK_ok (T:=100000000) (n:=2) (d:=1) nmo8 dc (by decide +kernel) (by decide +kernel) dc dc (by decide +kernel)
theorem szd {a b:Int}(h:(decide (-1000000≤a) && decide (a≤1000000) && decide (0<b) && decide (b≤1000000))=true) : Sz a b:=by
  simp only [Bool.and_eq_true,decide_eq_true_eq] at h
  exact ⟨by omega,h.1.2,by omega⟩
theorem out_ex {pl:Nat}{n1 d1 n2 d2 f1 c1 f2 c2 va vb:Int}(p1:1≤pl)(p12:pl≤12)(z1:Sz n1 d1)(z2:Sz n2 d2)(h1:Sh pl n1 d1 f1 c1)(h2:Sh pl n2 d2 f2 c2)(v:Sz va vb)(e1:((-2)*vb - va*1)*1*d1=n1*(1*vb*1))(e2:(va*1 - 2*vb)*1*d2=n2*(vb*1*1)) :
    OutC pl va vb 1 1 (-2) 1 2 1 (min (f1+f2) (tenI pl)) (min (c1+c2) (tenI pl)):=
  outN_of p1 p12 z1 z2 h1 h2 va vb 1 1 (-2) 1 2 1 v (szd dc) dc (szd dc) (szd dc) dc e1 e2
theorem rl1:Rl 1 (-2) 1 2 1 0 1 1 20 (-2) 1 2 1:=⟨by decide,by decide,szd dc,szd dc,szd dc,szd dc,by decide,by decide,by decide,by decide,by decide,.inl dc⟩
theorem rl2:Rl 2 (-2) 1 2 1 1 1 1 20 (-1) 1 1 1:=⟨by decide,by decide,szd dc,szd dc,szd dc,szd dc,by decide,by decide,by decide,by decide,by decide,.inr (.inl dc)⟩
theorem rl3:Rl 1 (-2) 1 2 1 0 1 455 10000 (-2) 1 2 1:=⟨by decide,by decide,szd dc,szd dc,szd dc,szd dc,by decide,by decide,by decide,by decide,by decide,.inl dc⟩
theorem rl4:Rl 3 (-2) 1 2 1 1 2 1 20 (-5) 2 5 2:=⟨by decide,by decide,szd dc,szd dc,szd dc,szd dc,by decide,by decide,by decide,by decide,by decide,.inr (.inr dc)⟩
theorem rl5:Rl 2 (-2) 1 2 1 3 1 1 20 1 1 (-1) 1:=⟨by decide,by decide,szd dc,szd dc,szd dc,szd dc,by decide,by decide,by decide,by decide,by decide,.inr (.inl dc)⟩
theorem oc1:OutC 4 0 1 1 1 (-2) 1 2 1 454 456:=out_ex (n1:=-2) (d1:=1) (n2:=-2) (d2:=1) dc dc (szd dc) (szd dc) (sh_ex (n:=2) dc dc dc dc ce1).2 (sh_ex (n:=2) dc dc dc dc ce1).2 (szd dc) dc dc
theorem oc2:OutC 4 1 2 1 1 (-2) 1 2 1 730 732:=out_ex (n1:=-5) (d1:=2) (n2:=-3) (d2:=2) dc dc (szd dc) (szd dc) (sh_ex (n:=5) dc dc dc dc ce2).2 (sh_ex (n:=3) dc dc dc dc ce3).2 (szd dc) dc dc
theorem oc3:OutC 4 5 2 1 1 (-2) 1 2 1 6914 6916:=out_ex (n1:=-9) (d1:=2) (n2:=1) (d2:=2) dc dc (szd dc) (szd dc) (sh_ex (n:=9) dc dc dc dc ce4).2 (sh_ex (n:=1) dc dc dc dc ce5).1 (szd dc) dc dc
theorem oc4:OutC 4 3 2 1 1 (-2) 1 2 1 3087 3089:=out_ex (n1:=-7) (d1:=2) (n2:=-1) (d2:=2) dc dc (szd dc) (szd dc) (sh_ex (n:=7) dc dc dc dc ce6).2 (sh_ex (n:=1) dc dc dc dc ce5).2 (szd dc) dc dc
theorem oc5:OutC 3 0 1 1 1 (-2) 1 2 1 44 46:=out_ex (n1:=-2) (d1:=1) (n2:=-2) (d2:=1) dc dc (szd dc) (szd dc) (sh_ex (n:=2) dc dc dc dc ce7).2 (sh_ex (n:=2) dc dc dc dc ce7).2 (szd dc) dc dc
theorem oc6:OutC 8 0 1 1 1 (-2) 1 2 1 4550026 4550028:=out_ex (n1:=-2) (d1:=1) (n2:=-2) (d2:=1) dc dc (szd dc) (szd dc) (sh_ex (n:=2) dc dc dc dc ce8).2 (sh_ex (n:=2) dc dc dc dc ce8).2 (szd dc) dc dc
theorem sane_c {w : World} (ht : Tb w) : Calls Tryz.prog 8 #[] w (Ret w fun v _ => v = .bool true) :=
  sane16_ok (ka1:=454) (kb1:=tenI 4) (ua1:=456) (ub1:=tenI 4) (ka2:=730) (kb2:=tenI 4) (ua2:=732) (ub2:=tenI 4) (ka3:=6914) (kb3:=tenI 4) (ua3:=6916) (ub3:=tenI 4) (ka4:=3087) (kb4:=tenI 4) (ua4:=3089) (ub4:=tenI 4) (ka5:=44) (kb5:=tenI 3) (ua5:=46) (ub5:=tenI 3) (ka6:=4550026) (kb6:=tenI 8) (ua6:=4550028) (ub6:=tenI 8)
    (fun W hW=>decide_c rl1 dc (szd dc) dc oc1 hW) (fun W hW=>decide_c rl1 dc (szd dc) dc oc2 hW) (fun W hW=>decide_c rl1 dc (szd dc) dc oc3 hW)
    (fun W hW=>decide_c rl2 dc (szd dc) dc oc4 hW) (fun W hW=>decide_c rl3 dc (szd dc) dc oc5 hW) (fun W hW=>decide_c rl3 dc (szd dc) dc oc6 hW)
    (fun W hW=>rl4.accept dc hW) (fun W hW=>rl5.acceptF dc hW) (fun W hW=>contains_in (q9_cell dc dc) (q9_cell dc dc) (q9_12 dc dc dc) dc hW)
    (fun W hW=>rl1.valid hW) (fun W _=>validZ_ok) (fun W hW=>sound_c rl1 dc (szd dc) dc oc1 hW) (fun W hW=>sound_c rl1 dc (szd dc) dc oc1 hW) ht
end Go.Proofs.YtonigegpknhdnaaGreatDoor
namespace Go.Proofs.YtonigegpknhdnaaGreatDoor
open Go Go.Eng Go.RowKit
attribute [local irreducible] wpListIn Code.wpIn Oper.wpIn Exit.then Exit.inBlock Exit.noGoto
set_option maxHeartbeats 40000000
set_option maxRecDepth 100000 in
theorem outL_walk {kd la lb ha hb ga gb ra rb va vb sa sb q1 q2 q3 q4 q5 q6 q7 q8 : Int} {ia0 ia1 ia2 ia3 ib0 ib1 ib2 ib3 ic0 ic1 ic2 ic3 : List UInt8} {ml : Nat} {w : World} (hB1 : ∀ W, Tb W → Calls Tryz.prog 16 #[.agg #[S ((qR la lb).1), S ((qR la lb).2)], .agg #[S ((qR va vb).1), S ((qR va vb).2)]] W (Ret W fun v _ => v = .tuple #[.agg #[S ((qR q1 q2).1), S ((qR q1 q2).2)], .int .i64 0])) (hB2 : ∀ W, Tb W → Calls Tryz.prog 16 #[.agg #[S ((qR va vb).1), S ((qR va vb).2)], .agg #[S ((qR ha hb).1), S ((qR ha hb).2)]] W (Ret W fun v _ => v = .tuple #[.agg #[S ((qR q3 q4).1), S ((qR q3 q4).2)], .int .i64 0])) (hQ1 : ∀ W, Tb W → Calls Tryz.prog 42 #[.agg #[S ((qR q1 q2).1), S ((qR q1 q2).2)], .agg #[S ((qR sa sb).1), S ((qR sa sb).2)]] W (Ret W fun v _ => v = .tuple #[.agg #[S ((qR q5 q6).1), S ((qR q5 q6).2)], .int .i64 0])) (hQ2 : ∀ W, Tb W → Calls Tryz.prog 42 #[.agg #[S ((qR q3 q4).1), S ((qR q3 q4).2)], .agg #[S ((qR sa sb).1), S ((qR sa sb).2)]] W (Ret W fun v _ => v = .tuple #[.agg #[S ((qR q7 q8).1), S ((qR q7 q8).2)], .int .i64 0])) (hN1 : ∀ W, Tb W → Calls Tryz.prog 43 #[.agg #[S ((qR q5 q6).1), S ((qR q5 q6).2)], .int .i64 ml] W (Ret W fun v _ => v = .tuple #[.agg #[S (ia0), S (ia1), S (ia2), S (ia3)], .int .i64 0])) (hN2 : ∀ W, Tb W → Calls Tryz.prog 43 #[.agg #[S ((qR q7 q8).1), S ((qR q7 q8).2)], .int .i64 ml] W (Ret W fun v _ => v = .tuple #[.agg #[S (ib0), S (ib1), S (ib2), S (ib3)], .int .i64 0])) (hE : ∀ W, Tb W → Calls Tryz.prog 44 #[.agg #[S (ia0), S (ia1), S (ia2), S (ia3)], .agg #[S (ib0), S (ib1), S (ib2), S (ib3)]] W (Ret W fun v _ => v = .tuple #[.agg #[S (ic0), S (ic1), S (ic2), S (ic3)], .int .i64 0])) (ht : Tb w) :
    Calls Tryz.prog 19 #[.agg #[.int .i64 kd,S (qR la lb).1,S (qR la lb).2,S (qR ha hb).1,S (qR ha hb).2,S (qR ga gb).1,S (qR ga gb).2,S (qR ra rb).1,S (qR ra rb).2,S (qR va vb).1,S (qR va vb).2,S (qR sa sb).1,S (qR sa sb).2],.int .i64 ml] w (Ret w fun v w'=>v=.tuple #[.agg #[S ic0,S ic1,S ic2,S ic3],.bool true]):=by
 refine f_in Tryz.func19 rfl ?_;refine go ?_;refine bx (fun apf apo sc=>?_);have r8:=apo.2;refine al inf1032 (fun _ apg aol=>?_);have ⟨sc,r8⟩:=be1 apg.2 sc r8;refine go ?_;refine l_op (k_fieldAddr (b:=w.heap.size) (o:=0) (off:=0) (oo:=0) U2029 rfl rfl sz2027 rfl rfl ?_);refine l_op (k_fieldAddr (b:=w.heap.size) (o:=0) (off:=1) (oo:=1) U2027 rfl rfl sz36 rfl rfl ?_);refine go ?_;refine l_op (k_fieldAddr (b:=w.heap.size) (o:=0) (off:=9) (oo:=9) U2029 rfl rfl sz36 rfl rfl ?_);refine go ?_;refine cl en220 ((hB1 _ (ht.ext r8))) ?_;rintro _ _ apc rfl;have ⟨sc,aol,r8⟩:=be2 apc.2 sc aol r8;refine go ?_;refine al inf36 (fun _ apd apq=>?_);have ⟨sc,aol,r8⟩:=be2 apd.2 sc aol r8;refine SA apq (fun _ ao9 aom=>?_);have ⟨sc,aol,r8,_⟩:=pl2 ao9 sc aol r8;refine go ?_;refine l_op (k_fieldAddr (b:=w.heap.size) (o:=0) (off:=9) (oo:=9) U2029 rfl rfl sz36 rfl rfl ?_);refine go ?_;refine l_op (k_fieldAddr (b:=w.heap.size) (o:=0) (off:=0) (oo:=0) U2029 rfl rfl sz2027 rfl rfl ?_);refine l_op (k_fieldAddr (b:=w.heap.size) (o:=0) (off:=3) (oo:=3) U2027 rfl rfl sz36 rfl rfl ?_);refine go ?_;refine cl en220 ((hB2 _ (ht.ext r8))) ?_;rintro _ _ apa rfl;have ⟨sc,aol,aom,r8⟩:=be3 apa.2 sc aol aom r8;refine go ?_;refine al inf36 (fun _ apb apr=>?_);have ⟨sc,aol,aom,r8⟩:=be3 apb.2 sc aol aom r8;refine SA apr (fun _ ao6 aon=>?_);have ⟨sc,aol,aom,r8,_⟩:=pl3 ao6 sc aol aom r8;refine go ?_
 refine l_op (k_fieldAddr (b:=w.heap.size) (o:=0) (off:=11) (oo:=11) U2029 rfl rfl sz36 rfl rfl ?_);refine go ?_;refine cl en218 ((hQ1 _ (ht.ext r8))) ?_;rintro _ _ ao7 rfl;have ⟨sc,aol,aom,aon,r8⟩:=be4 ao7.2 sc aol aom aon r8;refine go ?_;refine al inf36 (fun _ ao8 aps=>?_);have ⟨sc,aol,aom,aon,r8⟩:=be4 ao8.2 sc aol aom aon r8;refine SA aps (fun _ ao3 aoo=>?_);have ⟨sc,aol,aom,aon,r8,_⟩:=pl4 ao3 sc aol aom aon r8;refine go ?_;refine l_op (k_fieldAddr (b:=w.heap.size) (o:=0) (off:=11) (oo:=11) U2029 rfl rfl sz36 rfl rfl ?_);refine go ?_;refine cl en218 ((hQ2 _ (ht.ext r8))) ?_;rintro _ _ ao4 rfl;have ⟨sc,aol,aom,aon,aoo,r8⟩:=be5 ao4.2 sc aol aom aon aoo r8;refine go ?_;refine al inf36 (fun _ ao5 apt=>?_);have ⟨sc,aol,aom,aon,aoo,r8⟩:=be5 ao5.2 sc aol aom aon aoo r8;refine SA apt (fun _ ao0 aop=>?_);have ⟨sc,aol,aom,aon,aoo,r8,_⟩:=pl5 ao0 sc aol aom aon aoo r8;refine go ?_;refine cl en1017 ((hN1 _ (ht.ext r8))) ?_;rintro _ apl ao1 rfl;have ⟨sc,aol,aom,aon,aoo⟩:=bf5 ao1.2 sc aol aom aon aoo;have ⟨aop,r8⟩:=be1 ao1.2 aop r8;refine go ?_;refine al inf1032 (fun _ ao2 apu=>?_);have ⟨sc,aol,aom,aon,aoo⟩:=bf5 ao2.2 sc aol aom aon aoo;have ⟨aop,r8⟩:=be1 ao2.2 aop r8;refine SA apu (fun _ aox aoq=>?_);have ⟨sc,aol,aom,aon,aoo⟩:=pf5 aox sc aol aom aon aoo;have ⟨aop,r8,_⟩:=pl1 aox aop r8;refine go ?_;refine cl en1017 ((hN2 _ (ht.ext r8))) ?_;rintro _ apm aoy rfl;have ⟨sc,aol,aom,aon,aoo⟩:=bf5 aoy.2 sc aol aom aon aoo
 have ⟨aop,aoq,r8⟩:=be2 aoy.2 aop aoq r8;refine go ?_;refine al inf1032 (fun _ aoz apv=>?_);have ⟨sc,aol,aom,aon,aoo⟩:=bf5 aoz.2 sc aol aom aon aoo;have ⟨aop,aoq,r8⟩:=be2 aoz.2 aop aoq r8;refine SA apv (fun _ aot aou=>?_);have ⟨sc,aol,aom,aon,aoo⟩:=pf5 aot sc aol aom aon aoo;have ⟨aop,aoq,r8,_⟩:=pl2 aot aop aoq r8;refine go ?_;refine l_op (k_loadA (cs:=[S ia0,S ia1,S ia2,S ia3]) (b:=apl.heap.size) (o:=0) U1032 rfl sz1032 rfl (Blk.cells aoq (i:=0) rfl) ?_);refine l_op (k_loadA (cs:=[S ib0,S ib1,S ib2,S ib3]) (b:=apm.heap.size) (o:=0) U1032 rfl sz1032 rfl (Blk.cells aou (i:=0) rfl) ?_);refine cl en2044 ((hE _ (ht.ext r8))) ?_;rintro _ apn aov rfl;have ⟨sc,aol,aom,aon,aoo⟩:=bf5 aov.2 sc aol aom aon aoo;have ⟨aop,aoq,aou,r8⟩:=be3 aov.2 aop aoq aou r8;refine go ?_;refine al inf1032 (fun _ aow apw=>?_);have ⟨sc,aol,aom,aon,aoo⟩:=bf5 aow.2 sc aol aom aon aoo;have ⟨aop,aoq,aou,r8⟩:=be3 aow.2 aop aoq aou r8;refine SA apw (fun _ aor ape=>?_);have ⟨sc,aol,aom,aon,aoo⟩:=pf5 aor sc aol aom aon aoo;have ⟨aop,aoq,aou,r8,_⟩:=pl3 aor aop aoq aou r8;refine go ?_;refine l_op (k_loadA (cs:=[S ic0,S ic1,S ic2,S ic3]) (b:=apn.heap.size) (o:=0) U1032 rfl sz1032 rfl (Blk.cells ape (i:=0) rfl) ?_);refine go ?_;refine SA aol (fun _ aos apx=>?_);have ⟨sc,aom,aon,aoo,aop⟩:=pf5 aos sc aom aon aoo aop;have ⟨aoq,aou,ape,r8,_⟩:=pl3 aos aoq aou ape r8;refine go ?_
 refine f_out (v:=.tuple #[.agg #[S ic0,S ic1,S ic2,S ic3],.bool true]) (res2 (r1:=.cell 4 44) (r2:=.tmp 5) rfl ?_ ?_) r8 rfl;refine res_cellA (t:=4) (cs:=[S ic0,S ic1,S ic2,S ic3]) (b:=apf.heap.size) (o:=0) U1032 rfl sz1032 ?_ ?_;exact rfl;exact Blk.cells apx (i:=0) rfl;exact res_tmp (t:=5) (by exact rfl) _
end Go.Proofs.YtonigegpknhdnaaGreatDoor
namespace Go.Proofs.YtonigegpknhdnaaGreatDoor
open Go Go.Eng Go.RowKit
section
variable {P : Program} {r : Option Nat} {n N : Nat} {e : Nat → Value} {ds : List Deferred} {w : World} {Q : Exit → Act → World → Prop} {K : Act → World → Prop} {t ty d : Nat} {pos : String} {af : Array Edge} {g : Option (Nat × Bool)} {x y : Operand}
theorem k_bsB {el:TypeId} {z:Value} {size bytes m:Nat} {parts:Array (Nat × Operand)} {vs:List (Nat × Value)} {cells:Array Value} (hu:P.underlying t=some (.slice el)) (hi:Inf P el z size bytes)
    (hp:(parts.toList.map fun (i,x)=>(i,ev N e x))=vs) (h24:m*size≤16777216) (hm:0<m*size)
    (hf:Instr.fill (fun i=>some (i*size,size)) ((Array.range (m*size)).map (z.cells[· % z.cells.size]!)) vs=some cells)
    (hk : ∀ w',(w'.heap.size=w.heap.size+1∧Ext w w')→Blk w' w.heap.size el cells→K (act N (upd e d (.slice (some ⟨w.heap.size,0,none⟩) m m)) ds) w') :
    Oper.wpIn (Fw r) n P ⟨some d,.buildSlice t m parts,ty,pos,af,g⟩ (act N e ds) w K Q:=by
  obtain ⟨i,i1,i2,i3,_⟩:=hi.parts
  subst i3
  refine k_val (v:=.slice (some ⟨w.heap.size,0,none⟩) m m) (w':=w.alloc (.cells cells el)) rfl ?_ (by
    rw [act_put]
    exact hk _ ⟨by simp,Ext.alloc _ _⟩ (heap_alloc_new w _))
  have hp' : (parts.map fun (i,x)=>(i,ev N e x)).toList=vs:=by rw [← hp]; simp
  subst hp'
  have h2:¬ m*i.size > 2 ^ 24:=by omega
  have h3:¬ (m*i.size=0):=by omega
  simp only [execOp,Instr.buildSlice,Sem.run_bind,run_underlying hu,Result.andThen_ok,sizeOf,typeInfo,run_program,i1,Sem.run_pure,zeroValue,i2,h2,if_false,h3,hf,newRow,run_newObj,World.alloc_eq]
end
end Go.Proofs.YtonigegpknhdnaaGreatDoor
