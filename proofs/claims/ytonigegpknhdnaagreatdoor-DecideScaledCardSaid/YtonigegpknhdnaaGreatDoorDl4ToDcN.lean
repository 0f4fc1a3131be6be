/- Part of the proof. -/
import Derived.Test.YtonigegpknhdnaaGreatDoorRef4ToMapI
import Derived.DeepKeys
set_option linter.all false
namespace Go.Proofs.YtonigegpknhdnaaGreatDoor
set_option maxRecDepth 100000
open Go Go.Eng Go.RowKit
attribute [local irreducible] wpListIn Code.wpIn Oper.wpIn Exit.then Exit.inBlock Exit.noGoto
set_option maxHeartbeats 40000000
theorem snd_t {q t:Bool}(h:q=true) : Value.bool (!t)=Value.bool (q && !t):=by subst h; rfl
theorem snd_f {q t:Bool}(h:q=false) : Value.bool false=Value.bool (q && !t):=by subst h; rfl
theorem s1_ok {w:World} :
    Calls Tryz.prog 32 #[] w (Ret w fun v w'=>v=.bool false):=by
 refine f_in Tryz.func32 rfl ?_;refine go ?_;exact f_ret1 (t:=0) (v:=.bool false) rfl (Ext.refl _) rfl rfl
theorem sound_ok {kd la lb ha hb ga gb ra rb va vb sa sb ka kb ua ub : Int} {pl : Nat} {ins q0 bT : Bool} {w : World} {vd : Int} {f0 : Nat} {tv : Value} {lb0 : List Value} (hF : ∀ W, Tb W → Calls Tryz.prog 29 #[.agg #[.int .i64 (kd), S ((qR la lb).1), S ((qR la lb).2), S ((qR ha hb).1), S ((qR ha hb).2), S ((qR ga gb).1), S ((qR ga gb).2), S ((qR ra rb).1), S ((qR ra rb).2)], .agg #[S ((qR va vb).1), S ((qR va vb).2)], .agg #[S ((qR sa sb).1), S ((qR sa sb).2)], .int .i64 pl] W (Ret W fun v _ => v = .tuple #[.agg #[.bool (ins), S ((qR ka kb).1), S ((qR ka kb).2), S ((qR ua ub).1), S ((qR ua ub).2), S ((qR ra rb).1), S ((qR ra rb).2)], .bool true])) (hg : getI vd [(1, .func (.func 30) #[.agg #[.bool (ins), S ((qR ka kb).1), S ((qR ka kb).2), S ((qR ua ub).1), S ((qR ua ub).2), S ((qR ra rb).1), S ((qR ra rb).2)]] #[]), (2, .func (.func 31) #[.agg #[.bool (ins), S ((qR ka kb).1), S ((qR ka kb).2), S ((qR ua ub).1), S ((qR ua ub).2), S ((qR ra rb).1), S ((qR ra rb).2)]] #[]), (3, .func (.func 32) #[] #[])] = (if q0 then some tv else none)) (hz : q0 = false → tv = .nilFunc) (hT : q0 = true → tv = .func (.func f0) lb0.toArray #[] ∧ Enters Tryz.prog f0 ∧ ∀ W, Tb W → Calls Tryz.prog f0 lb0.toArray W (Ret W fun v _ => v = .bool bT)) (ht : Tb w) :
    Calls Tryz.prog 12 #[.agg #[.int .i64 kd,S (qR la lb).1,S (qR la lb).2,S (qR ha hb).1,S (qR ha hb).2,S (qR ga gb).1,S (qR ga gb).2,S (qR ra rb).1,S (qR ra rb).2],.int .i64 vd,.agg #[S (qR va vb).1,S (qR va vb).2],.agg #[S (qR sa sb).1,S (qR sa sb).2],.int .i64 pl] w (Ret w fun v w'=>v=.bool (q0 && !bT)):=by
 refine f_in Tryz.func12 rfl ?_;refine go ?_;refine bx (fun _ gq fe=>?_);have co:=gq.2;refine bx (fun _ gm fg=>?_);have ⟨fe,co⟩:=be1 gm.2 fe co;refine bx (fun _ gh fh=>?_);have ⟨fe,fg,co⟩:=be2 gh.2 fe fg co;refine go ?_;refine l_op (k_loadA (cs:=[.int .i64 kd,S (qR la lb).1,S (qR la lb).2,S (qR ha hb).1,S (qR ha hb).2,S (qR ga gb).1,S (qR ga gb).2,S (qR ra rb).1,S (qR ra rb).2]) (b:=w.heap.size) (o:=0) U2027 rfl sz2027 rfl (Blk.cells fe (i:=0) rfl) ?_);refine go ?_;refine cl en2029 ((hF _ (ht.ext co))) ?_;rintro _ gi f7 rfl;have ⟨fe,fg,fh,co⟩:=be3 f7.2 fe fg fh co;refine go ?_;refine al inf2059 (fun _ gc gv=>?_);have ⟨fe,fg,fh,co⟩:=be3 gc.2 fe fg fh co;refine l_op (k_storeA (b:=gi.heap.size) (o:=0) (vs:=[.bool ins,S (qR ka kb).1,S (qR ka kb).2,S (qR ua ub).1,S (qR ua ub).2,S (qR ra rb).1,S (qR ra rb).2]) sz2059 rfl rfl (by simp [Value.oneCell',S]) gv (Nat.le_of_ble_eq_true rfl) (fun gj f6 fk=>?_));have ⟨fe,fg,fh,co,_⟩:=pl3 f6 fe fg fh co;refine go ?_;have ia:=bt fe;have ic:=bt fg;have ie:=bt fh;have ig:=bt fk;refine l_op (k_makeMapI (fun _ fo _ gw=>?_));have ⟨fe,fg,fh,fk,co⟩:=be4 fo fe fg fh fk co;have ik:=bz fo;refine l_op (k_loadA (cs:=[.bool ins,S (qR ka kb).1,S (qR ka kb).2,S (qR ua ub).1,S (qR ua ub).2,S (qR ra rb).1,S (qR ra rb).2]) (b:=gi.heap.size) (o:=0) U2059 rfl sz2059 rfl (Blk.cells fk (i:=0) rfl) ?_)
 refine l_op (k_makeFunc (vf:=[.agg #[.bool ins,S (qR ka kb).1,S (qR ka kb).2,S (qR ua ub).1,S (qR ua ub).2,S (qR ra rb).1,S (qR ra rb).2]]) (vc:=[]) rfl rfl ?_);refine l_op (k_insertI (k:=1) (v:=.func (.func 30) #[.agg #[.bool ins,S (qR ka kb).1,S (qR ka kb).2,S (qR ua ub).1,S (qR ua ub).2,S (qR ra rb).1,S (qR ra rb).2]] #[]) rfl rfl rfl gw rfl (fun _ fp gy=>?_));have ⟨fe,fg,fh,fk,co,_⟩:=pl4 fp fe fg fh fk co;refine l_op (k_loadA (cs:=[.bool ins,S (qR ka kb).1,S (qR ka kb).2,S (qR ua ub).1,S (qR ua ub).2,S (qR ra rb).1,S (qR ra rb).2]) (b:=gi.heap.size) (o:=0) U2059 rfl sz2059 rfl (Blk.cells fk (i:=0) rfl) ?_);refine l_op (k_makeFunc (vf:=[.agg #[.bool ins,S (qR ka kb).1,S (qR ka kb).2,S (qR ua ub).1,S (qR ua ub).2,S (qR ra rb).1,S (qR ra rb).2]]) (vc:=[]) rfl rfl ?_);refine l_op (k_insertI (k:=2) (v:=.func (.func 31) #[.agg #[.bool ins,S (qR ka kb).1,S (qR ka kb).2,S (qR ua ub).1,S (qR ua ub).2,S (qR ra rb).1,S (qR ra rb).2]] #[]) rfl rfl rfl gy rfl (fun _ fq gz=>?_));have ⟨fe,fg,fh,fk,co,_⟩:=pl4 fq fe fg fh fk co;refine l_op (k_insertI (k:=3) (v:=.func (.func 32) #[] #[]) rfl rfl rfl gz rfl (fun _ fw gl=>?_));have ⟨fe,fg,fh,fk,co,_⟩:=pl4 fw fe fg fh fk co;refine l_op (k_move (v:=.map (some gj.heap.size)) rfl ?_);refine l_op (k_assign (v:=.map (some gj.heap.size)) rfl ?_);refine go ?_
 refine l_op (k_move (v:=.map (some gj.heap.size)) rfl ?_);refine go ?_;refine l_op (k_lookupI (v:=tv) (q:=q0) rfl rfl gl hg hz ?_);refine go ?_;refine l_op (k_assign (v:=tv) rfl ?_);refine go ?_;rcases Bool.eq_false_or_eq_true q0 with fj | fj;refine go ?_;refine l_op (k_move (v:=tv) rfl ?_);refine go ?_;refine l_op (k_callB (f:=f0) (lb:=lb0) (hT fj).2.1 (hT fj).1 ((hT fj).2.2 _ (ht.ext co)) ?_);rintro _ _ fm rfl;have co:=xt co fm;have iw:=bz fm;refine go ?_;exact f_ret1 (t:=10) (v:=.bool (!bT)) rfl co (snd_t fj) rfl;refine go ?_;exact f_ret1 (t:=10) (v:=.bool false) rfl co (snd_f fj) rfl
end Go.Proofs.YtonigegpknhdnaaGreatDoor
namespace Go.Proofs.YtonigegpknhdnaaGreatDoor
open Go Go.Eng Go.RowKit
abbrev QV (a b:Int) : Value:=.agg #[S (qR a b).1,S (qR a b).2]
abbrev IV (a b c d:Int) : Value:=.agg #[S (qR a b).1,S (qR a b).2,S (qR c d).1,S (qR c d).2]
abbrev RulV (kd:Nat)(la lb ha hb ga gb ra rb:Int) : Value:=.agg #[.int .i64 ((kd:Nat) : Int),S (qR la lb).1,S (qR la lb).2,S (qR ha hb).1,S (qR ha hb).2,S (qR ga gb).1,S (qR ga gb).2,S (qR ra rb).1,S (qR ra rb).2]
abbrev CasV (kd:Nat)(la lb ha hb ga gb ra rb va vb sa sb:Int) : Value:=.agg #[.int .i64 ((kd:Nat) : Int),S (qR la lb).1,S (qR la lb).2,S (qR ha hb).1,S (qR ha hb).2,S (qR ga gb).1,S (qR ga gb).2,S (qR ra rb).1,S (qR ra rb).2,S (qR va vb).1,S (qR va vb).2,S (qR sa sb).1,S (qR sa sb).2]
abbrev FndV (ins:Bool) (k u T ra rb:Int) : Value:=.agg #[.bool ins,S (qR k T).1,S (qR k T).2,S (qR u T).1,S (qR u T).2,S (qR ra rb).1,S (qR ra rb).2]
def Sz (a b:Int) : Prop:=a.natAbs<10 ^ 12∧0<b∧b<10 ^ 12
theorem Sz.q9 {a b:Int}(h:Sz a b) : Q9 a b:=q9_12 h.1 h.2.1 h.2.2
def AccN (kd:Nat)(la lb ha hb ga gb xa xb ya yb:Int) : Prop:=
  (kd=1∧xa=la∧xb=lb∧ya=ha∧yb=hb) ∨ (kd=2∧xa=la*gb+ga*lb∧xb=lb*gb∧ya=ha*gb - ga*hb∧yb=hb*gb) ∨ (kd=3∧xa=la*gb - ga*lb∧xb=lb*gb∧ya=ha*gb+ga*hb∧yb=hb*gb)
structure Rl (kd:Nat) (la lb ha hb ga gb ra rb xa xb ya yb:Int) : Prop where
  k1:1≤kd
  k3:kd≤3
  l:Sz la lb
  h:Sz ha hb
  g:Sz ga gb
  r:Sz ra rb
  g0:0≤ga
  g1:kd=1→ga=0
  r0:0≤ra
  r1:ra≤rb
  lh:la*hb<ha*lb
  acc:AccN kd la lb ha hb ga gb xa xb ya yb
theorem q9_add {a b c d:Int}(h1:Sz a b)(h2:Sz c d) : Q9 (a*d+c*b) (b*d):=by
  obtain ⟨x,y,z⟩:=q9_sub (a:=a) (b:=b) (c:=-c) (d:=d) h1.1 h1.2.1 h1.2.2 (by rw [Int.natAbs_neg]; exact h2.1) h2.2.1 h2.2.2
  rw [Int.neg_mul,Int.sub_neg] at x
  exact ⟨x,y,z⟩
theorem q9_sb {a b c d:Int}(h1:Sz a b)(h2:Sz c d) : Q9 (a*d - c*b) (b*d):=q9_sub h1.1 h1.2.1 h1.2.2 h2.1 h2.2.1 h2.2.2
section
variable {kd : Nat} {la lb ha hb ga gb ra rb xa xb ya yb va vb sa sb : Int} {pl : Nat}
theorem Rl.qx (c:Rl kd la lb ha hb ga gb ra rb xa xb ya yb) : Q9 xa xb∧Q9 ya yb:=by
  rcases c.acc with ⟨_,rfl,rfl,rfl,rfl⟩ | ⟨_,rfl,rfl,rfl,rfl⟩ | ⟨_,rfl,rfl,rfl,rfl⟩
  · exact ⟨c.l.q9,c.h.q9⟩
  · exact ⟨q9_add c.l c.g,q9_sb c.h c.g⟩
  · exact ⟨q9_sb c.l c.g,q9_add c.h c.g⟩
theorem Rl.accC (c : Rl kd la lb ha hb ga gb ra rb xa xb ya yb) {w : World} (ht : Tb w) : Calls Tryz.prog 45 #[RulV kd la lb ha hb ga gb ra rb] w (Ret w fun v _ => v = .tuple #[IV xa xb ya yb, .bool (decide (xa * yb ≤ ya * xb))]) := by
  obtain ⟨q1,q2⟩:=c.qx
  have key : Calls Tryz.prog 45 #[RulV kd la lb ha hb ga gb ra rb] w (Ret w fun v _ => v = .tuple #[IV xa xb ya yb, .bool (decide (cmpI (xa * yb) (ya * xb) ≤ 0))]) := by
    rcases c.acc with ⟨rfl,rfl,rfl,rfl,rfl⟩ | ⟨rfl,rfl,rfl,rfl,rfl⟩ | ⟨rfl,rfl,rfl,rfl,rfl⟩
    · exact acc_ok (f1:=137) (f2:=137) dc rfl en2137 en2137 (fun W _=>keep_ok) (fun W _=>keep_ok) q1 q2 ht
    · exact acc_ok (f1:=13) (f2:=16) dc rfl en217 en220 (fun W hW=>qAddX c.l.q9 c.g.q9 hW) (fun W hW=>qSubX c.h.q9 c.g.q9 hW) q1 q2 ht
    · exact acc_ok (f1:=16) (f2:=13) dc rfl en220 en217 (fun W hW=>qSubX c.l.q9 c.g.q9 hW) (fun W hW=>qAddX c.h.q9 c.g.q9 hW) q1 q2 ht
  have e:decide (cmpI (xa*yb) (ya*xb)≤0)=decide (xa*yb≤ya*xb):=by simp only [cmpI_nonpos]
  rw [e] at key
  exact key
theorem Rl.valid (c : Rl kd la lb ha hb ga gb ra rb xa xb ya yb) {w : World} (ht : Tb w) : Calls Tryz.prog 24 #[RulV kd la lb ha hb ga gb ra rb] w (Ret w fun v _ => v = .bool (decide (xa * yb ≤ ya * xb))) := by
  have r0:=c.r0
  have r1:=c.r1
  have g0:=c.g0
  exact valid_ok c.k1 c.k3 c.l.q9 c.h.q9 c.g.q9 c.r.q9 c.l.1 c.l.2.2 c.h.1 c.h.2.2 c.g.1 c.g.2.2 c.r.1 c.r.2.2 ((neg_q c.g.2.1).trans (decide_eq_false om)) ((neg_q c.r.2.1).trans (decide_eq_false om))
    (fun h=>congrArg Prod.fst (zero_q c.g.2.1 (c.g1 h))) (cmpI_nonpos.2 om) (cmpI_lt0 c.lh) (fun W hW=>c.accC hW) ht
theorem Rl.accept (c : Rl kd la lb ha hb ga gb ra rb xa xb ya yb) (hv : xa * yb ≤ ya * xb) {w : World} (ht : Tb w) : Calls Tryz.prog 20 #[RulV kd la lb ha hb ga gb ra rb] w (Ret w fun v _ => v = .tuple #[IV xa xb ya yb, .int .i64 0]) :=
  acceptT_ok (fun W hW=>cB (c.valid hW) (decide_eq_true hv)) (fun W hW=>c.accC hW) ht
theorem Rl.acceptF (c : Rl kd la lb ha hb ga gb ra rb xa xb ya yb) (hv : ¬ xa * yb ≤ ya * xb) {w : World} (ht : Tb w) : Calls Tryz.prog 20 #[RulV kd la lb ha hb ga gb ra rb] w (Ret w fun v _ => v = .tuple #[.agg #[S [], S [], S [], S []], .int .i64 160]) :=
  acceptF_ok (xa:=0) (xb:=0) (ya:=0) (yb:=0) (qv:=false) (fun W hW=>cB (c.valid hW) (decide_eq_false hv)) ht
def insB (xa xb ya yb va vb:Int) : Bool:=decide (xa*vb≤va*xb) && decide (va*yb≤ya*vb)
theorem contains_in {a b c d m n : Int} {w : World} (q1 : Q9 a b) (q2 : Q9 c d) (q : Q9 m n) (hV : a * d ≤ c * b) (ht : Tb w) : Calls Tryz.prog 21 #[IV a b c d, QV m n] w (Ret w fun v _ => v = .bool (insB a b c d m n)) := by
  have h:=encContainsG_ok q1 q2 q (cmpI_nonpos.2 hV) ht
  simp only [cmpI_nonpos] at h
  exact h
def rejB (ins:Bool) (k T ra rb:Int) : Bool:=!ins || decide (ra*T<k*rb)
def acpB (ins:Bool) (u T ra rb:Int) : Bool:=ins && decide (u*rb≤ra*T)
theorem cmpI_p {x y:Int} : (0<cmpI x y) ↔ y<x:=⟨fun h=>by rcases Int.lt_or_le y x with k | k; exact k; have:=(cmpI_nonpos (x:=x) (y:=y)).2 k; omega,cmpI_gt0⟩
theorem rej_ok {ins : Bool} {k u T : Int} {w : World} (q1 : Q9 k T) (q2 : Q9 u T) (q : Q9 ra rb) (ht : Tb w) : Calls Tryz.prog 30 #[FndV ins k u T ra rb] w (Ret w fun v _ => v = .bool (rejB ins k T ra rb)) := by
  cases ins with
  | true =>
    have h:=rejectedT_ok q1 q2 q ht
    simp only [cmpI_p] at h
    exact h
  | false=>exact rejectedF_ok q1 q2 q ht
theorem acp_ok {ins : Bool} {k u T : Int} {w : World} (q1 : Q9 k T) (q2 : Q9 u T) (q : Q9 ra rb) (ht : Tb w) : Calls Tryz.prog 31 #[FndV ins k u T ra rb] w (Ret w fun v _ => v = .bool (acpB ins u T ra rb)) := by
  cases ins with
  | true =>
    have h:=acceptedT_ok q1 q2 q ht
    simp only [cmpI_nonpos] at h
    exact h
  | false=>exact acceptedF_ok q1 q2 q ht
def OutC (pl:Nat)(va vb sa sb la lb ha hb k u:Int) : Prop:=k.natAbs<10 ^ 70∧u.natAbs<10 ^ 70∧∀ W,Tb W→Calls Tryz.prog 59 #[QV va vb,QV sa sb,QV la lb,QV ha hb,.int .i64 ((pl:Nat) : Int)] W (Ret W fun v _=>v=.tuple #[IV k (tenI pl) u (tenI pl),.int .i64 0])
def sndB (v:Int)(rj ac:Bool) : Bool:=if v=1 then !rj else if v=2 then !ac else decide (v=3)
theorem find_c (c:Rl kd la lb ha hb ga gb ra rb xa xb ya yb)(hv:xa*yb≤ya*xb)(v:Sz va vb){k u:Int}(p12:pl≤12)(o:OutC pl va vb sa sb la lb ha hb k u){w:World}(ht:Tb w) :
    Calls Tryz.prog 29 #[RulV kd la lb ha hb ga gb ra rb,QV va vb,QV sa sb,.int .i64 ((pl:Nat) : Int)] w (Ret w fun v _=>v=.tuple #[FndV (insB xa xb ya yb va vb) k u (tenI pl) ra rb,.bool true]):=
  find_ok (fun W hW=>c.accept hv hW) o.2.2 (fun W hW=>contains_in c.qx.1 c.qx.2 v.q9 hv hW) ht
theorem decide_c (c:Rl kd la lb ha hb ga gb ra rb xa xb ya yb)(hv:xa*yb≤ya*xb)(v:Sz va vb){k u:Int}(p12:pl≤12)(o:OutC pl va vb sa sb la lb ha hb k u){w:World}(ht:Tb w) :
    Calls Tryz.prog 18 #[RulV kd la lb ha hb ga gb ra rb,QV va vb,QV sa sb,.int .i64 ((pl:Nat) : Int)] w (Ret w fun x _=>x=.tuple #[.int .i64 (vdct (rejB (insB xa xb ya yb va vb) k (tenI pl) ra rb) (acpB (insB xa xb ya yb va vb) u (tenI pl) ra rb)),IV k (tenI pl) u (tenI pl),.int .i64 0]):=
  decide_ok (fun W hW=>find_c c hv v p12 o hW) (fun W hW=>rej_ok (q9_cell o.1 p12) (q9_cell o.2.1 p12) c.r.q9 hW) (fun W hW=>acp_ok (q9_cell o.1 p12) (q9_cell o.2.1 p12) c.r.q9 hW) ht
theorem snd3_ok {w:World} : Calls Tryz.prog 32 #[] w (Ret w fun v _=>v=.bool false):=s1_ok
theorem sound_c (c:Rl kd la lb ha hb ga gb ra rb xa xb ya yb)(hv:xa*yb≤ya*xb)(v:Sz va vb){k u x:Int}(p12:pl≤12)(o:OutC pl va vb sa sb la lb ha hb k u){w:World}(ht:Tb w) :
    Calls Tryz.prog 12 #[RulV kd la lb ha hb ga gb ra rb,.int .i64 x,QV va vb,QV sa sb,.int .i64 ((pl:Nat) : Int)] w (Ret w fun y _=>y=.bool (sndB x (rejB (insB xa xb ya yb va vb) k (tenI pl) ra rb) (acpB (insB xa xb ya yb va vb) u (tenI pl) ra rb))):=by
  have hf : ∀ W,Tb W→_:=fun W hW=>find_c c hv v p12 o hW
  unfold sndB
  by_cases h1:x=1
  · subst h1
    exact sound_ok (q0:=true) (lb0:=[FndV (insB xa xb ya yb va vb) k u (tenI pl) ra rb]) hf rfl (fun h=>by cases h) (fun _=>⟨rfl,en2030,fun W hW=>rej_ok (q9_cell o.1 p12) (q9_cell o.2.1 p12) c.r.q9 hW⟩) ht
  by_cases h2:x=2
  · subst h2
    exact sound_ok (q0:=true) (lb0:=[FndV (insB xa xb ya yb va vb) k u (tenI pl) ra rb]) hf rfl (fun h=>by cases h) (fun _=>⟨rfl,en2031,fun W hW=>acp_ok (q9_cell o.1 p12) (q9_cell o.2.1 p12) c.r.q9 hW⟩) ht
  by_cases h3:x=3
  · subst h3
    exact sound_ok (q0:=true) (lb0:=[]) hf rfl (fun h=>by cases h) (fun _=>⟨rfl,en2032,fun W hW=>snd3_ok⟩) ht
  · rw [if_neg h1, if_neg h2, decide_eq_false h3]
    exact sound_ok (q0:=false) (bT:=false) (f0:=0) (lb0:=[]) (tv:=.nilFunc) hf (by simp [getI,h1,h2,h3]) (fun _=>rfl) (fun h=>by cases h) ht
end
def OutN (n1 d1 n2 d2:Int)(pl:Nat)(k u:Int) : Prop:=∀ va vb sa sb la lb ha hb:Int,Sz va vb→Sz sa sb→0<sa→Sz la lb→Sz ha hb→la*hb<ha*lb→(la*vb - va*lb)*sb*d1=n1*(lb*vb*sa)→(va*hb - ha*vb)*sb*d2=n2*(vb*hb*sa)→OutC pl va vb sa sb la lb ha hb k u
theorem outN_of {n1 d1 n2 d2 f1 c1 f2 c2:Int}{pl:Nat}(p1:1≤pl)(p12:pl≤12)(z1:Sz n1 d1)(z2:Sz n2 d2)(h1:Sh pl n1 d1 f1 c1)(h2:Sh pl n2 d2 f2 c2) : OutN n1 d1 n2 d2 pl (min (f1+f2) (tenI pl)) (min (c1+c2) (tenI pl)):=by
  intro _ _ sa _ _ _ _ _ v s s0 l h lh e1 e2
  have hT:=ten_12 p12
  have hT0:=ten_pos pl
  have b1:0≤f1∧f1≤c1∧c1≤tenI pl:=by obtain ⟨_,_,_,_,a,b,c⟩:=h1; exact ⟨b,a,c⟩
  have b2:0≤f2∧f2≤c2∧c2≤tenI pl:=by obtain ⟨_,_,_,_,a,b,c⟩:=h2; exact ⟨b,a,c⟩
  have sw:sa<10 ^ 12:=by have:=s.1; omega
  exact ⟨by omega,by omega,fun W hW=>outside_sh p1 p12 v.1 v.2.1 v.2.2 s0 sw s.2.1 s.2.2 l.1 l.2.1 l.2.2 h.1 h.2.1 h.2.2 lh e1 e2 z1.1 z1.2.1 z1.2.2 z2.1 z2.2.1 z2.2.2 h1 h2 hW⟩
def OutA (n1 d1 n2 d2:Int) : Prop:=∃ lo hi:Int,lo≤hi∧∀ pl,1≤pl→pl≤8→∃ k u,OutN n1 d1 n2 d2 pl k u∧k*tenI (8 - pl)≤lo∧hi≤u*tenI (8 - pl)
theorem min_ten {a lo:Int}{pl:Nat}(h:pl≤8)(ha:a*tenI (8 - pl)≤lo) : min a (tenI pl)*tenI (8 - pl)≤min lo 100000000:=by
  have hM:=ten_mul h
  have h0:=ten_pos (8 - pl)
  have h1:min a (tenI pl)*tenI (8 - pl)≤a*tenI (8 - pl):=Int.mul_le_mul_of_nonneg_right om (Int.le_of_lt h0)
  have h2:min a (tenI pl)*tenI (8 - pl)≤tenI pl*tenI (8 - pl):=Int.mul_le_mul_of_nonneg_right om (Int.le_of_lt h0)
  omega
theorem ten_min {a hi:Int}{pl:Nat}(h:pl≤8)(ha:hi≤a*tenI (8 - pl)) : min hi 100000000≤min a (tenI pl)*tenI (8 - pl):=by
  have hM:=ten_mul h
  by_cases h1:a≤tenI pl
  · rw [show min a (tenI pl)=a by omega]; omega
  · rw [show min a (tenI pl)=tenI pl by omega]; omega
theorem outA_of {n1 d1 n2 d2:Int}(z1:Sz n1 d1)(z2:Sz n2 d2)(h1:ShAll n1 d1)(h2:ShAll n2 d2) : OutA n1 d1 n2 d2:=by
  obtain ⟨lo1,hi1,_,a1⟩:=h1
  obtain ⟨lo2,hi2,_,a2⟩:=h2
  refine ⟨min (lo1+lo2) 100000000,min (hi1+hi2) 100000000,by omega,fun pl p1 p8=>?_⟩
  obtain ⟨_,_,s1,_,_,_⟩:=a1 pl p1 p8
  obtain ⟨_,_,s2,_,_,_⟩:=a2 pl p1 p8
  exact ⟨_,_,outN_of p1 om z1 z2 s1 s2,min_ten p8 (by rw [Int.add_mul]; omega),ten_min p8 (by rw [Int.add_mul]; omega)⟩
theorem mulR_q {a b c d:Int}(h1:Q9 a b)(h2:Q9 c d) : mulR (qR a b) (qR c d)=some (qR (a*c) (b*d)):=by
  unfold mulR
  rw [h1.ok,h2.ok,qR_val.1,qR_val.2,qR_val.1,qR_val.2]
  have r1:=h1.red
  have r2:=h2.red
  have m1:=abs_mul r1.1 r2.1
  have m3:=abs_mul (a:=redD a b) (b:=redD c d) (by have:=r1.2; omega) (by have:=r2.2; omega)
  have hp:=Int.mul_pos r1.2.1 r2.2.1
  simp only [Bool.and_self,if_true]
  refine both_q (fz_180 m1) (fz_180 m3) ?_
  rw [makeR_q om]
  congr 1
  refine qR_congr hp (Int.mul_pos h1.2.1 h2.2.1) ?_
  have e1:=rq_cross (n:=a) h1.2.1
  have e2:=rq_cross (n:=c) h2.2.1
  generalize redN a b=p at *
  generalize redD a b=q at *
  generalize redN c d=r at *
  generalize redD c d=s at *
  grind
end Go.Proofs.YtonigegpknhdnaaGreatDoor
namespace Go.Proofs.YtonigegpknhdnaaGreatDoor
open Go Go.Eng Go.RowKit
attribute [local irreducible] wpListIn Code.wpIn Oper.wpIn Exit.then Exit.inBlock Exit.noGoto
set_option maxHeartbeats 40000000
theorem krDl5 {p : Prop} (h : p:=by kernel_rfl) : p:=h
theorem erDl5 {w:World}:Ext w w:=Ext.refl _
set_option maxRecDepth 100000 in
theorem sane16_ok {ka1 kb1 ua1 ub1 ka2 kb2 ua2 ub2 ka3 kb3 ua3 ub3 ka4 kb4 ua4 ub4 ka5 kb5 ua5 ub5 ka6 kb6 ua6 ub6 : Int} {w : World} (hD1 : ∀ W, Tb W → Calls Tryz.prog 18 #[.agg #[.int .i64 (1), S ((qR (-2) 1).1), S ((qR (-2) 1).2), S ((qR 2 1).1), S ((qR 2 1).2), S ((qR 0 1).1), S ((qR 0 1).2), S ((qR 1 20).1), S ((qR 1 20).2)], .agg #[S ((qR 0 1).1), S ((qR 0 1).2)], .agg #[S ((qR 1 1).1), S ((qR 1 1).2)], .int .i64 (4)] W (Ret W fun v _ => v = .tuple #[.int .i64 1, .agg #[S ((qR ka1 kb1).1), S ((qR ka1 kb1).2), S ((qR ua1 ub1).1), S ((qR ua1 ub1).2)], .int .i64 0])) (hD2 : ∀ W, Tb W → Calls Tryz.prog 18 #[.agg #[.int .i64 (1), S ((qR (-2) 1).1), S ((qR (-2) 1).2), S ((qR 2 1).1), S ((qR 2 1).2), S ((qR 0 1).1), S ((qR 0 1).2), S ((qR 1 20).1), S ((qR 1 20).2)], .agg #[S ((qR 1 2).1), S ((qR 1 2).2)], .agg #[S ((qR 1 1).1), S ((qR 1 1).2)], .int .i64 (4)] W (Ret W fun v _ => v = .tuple #[.int .i64 2, .agg #[S ((qR ka2 kb2).1), S ((qR ka2 kb2).2), S ((qR ua2 ub2).1), S ((qR ua2 ub2).2)], .int .i64 0])) (hD3 : ∀ W, Tb W → Calls Tryz.prog 18 #[.agg #[.int .i64 (1), S ((qR (-2) 1).1), S ((qR (-2) 1).2), S ((qR 2 1).1), S ((qR 2 1).2), S ((qR 0 1).1), S ((qR 0 1).2), S ((qR 1 20).1), S ((qR 1 20).2)], .agg #[S ((qR 5 2).1), S ((qR 5 2).2)], .agg #[S ((qR 1 1).1), S ((qR 1 1).2)], .int .i64 (4)] W (Ret W fun v _ => v = .tuple #[.int .i64 2, .agg #[S ((qR ka3 kb3).1), S ((qR ka3 kb3).2), S ((qR ua3 ub3).1), S ((qR ua3 ub3).2)], .int .i64 0])) (hD4 : ∀ W, Tb W → Calls Tryz.prog 18 #[.agg #[.int .i64 (2), S ((qR (-2) 1).1), S ((qR (-2) 1).2), S ((qR 2 1).1), S ((qR 2 1).2), S ((qR 1 1).1), S ((qR 1 1).2), S ((qR 1 20).1), S ((qR 1 20).2)], .agg #[S ((qR 3 2).1), S ((qR 3 2).2)], .agg #[S ((qR 1 1).1), S ((qR 1 1).2)], .int .i64 (4)] W (Ret W fun v _ => v = .tuple #[.int .i64 2, .agg #[S ((qR ka4 kb4).1), S ((qR ka4 kb4).2), S ((qR ua4 ub4).1), S ((qR ua4 ub4).2)], .int .i64 0])) (hD5 : ∀ W, Tb W → Calls Tryz.prog 18 #[.agg #[.int .i64 (1), S ((qR (-2) 1).1), S ((qR (-2) 1).2), S ((qR 2 1).1), S ((qR 2 1).2), S ((qR 0 1).1), S ((qR 0 1).2), S ((qR 455 10000).1), S ((qR 455 10000).2)], .agg #[S ((qR 0 1).1), S ((qR 0 1).2)], .agg #[S ((qR 1 1).1), S ((qR 1 1).2)], .int .i64 (3)] W (Ret W fun v _ => v = .tuple #[.int .i64 3, .agg #[S ((qR ka5 kb5).1), S ((qR ka5 kb5).2), S ((qR ua5 ub5).1), S ((qR ua5 ub5).2)], .int .i64 0])) (hD6 : ∀ W, Tb W → Calls Tryz.prog 18 #[.agg #[.int .i64 (1), S ((qR (-2) 1).1), S ((qR (-2) 1).2), S ((qR 2 1).1), S ((qR 2 1).2), S ((qR 0 1).1), S ((qR 0 1).2), S ((qR 455 10000).1), S ((qR 455 10000).2)], .agg #[S ((qR 0 1).1), S ((qR 0 1).2)], .agg #[S ((qR 1 1).1), S ((qR 1 1).2)], .int .i64 (8)] W (Ret W fun v _ => v = .tuple #[.int .i64 2, .agg #[S ((qR ka6 kb6).1), S ((qR ka6 kb6).2), S ((qR ua6 ub6).1), S ((qR ua6 ub6).2)], .int .i64 0])) (hA1 : ∀ W, Tb W → Calls Tryz.prog 20 #[.agg #[.int .i64 (3), S ((qR (-2) 1).1), S ((qR (-2) 1).2), S ((qR 2 1).1), S ((qR 2 1).2), S ((qR 1 2).1), S ((qR 1 2).2), S ((qR 1 20).1), S ((qR 1 20).2)]] W (Ret W fun v _ => v = .tuple #[.agg #[S ((qR (-5) 2).1), S ((qR (-5) 2).2), S ((qR 5 2).1), S ((qR 5 2).2)], .int .i64 0])) (hA2 : ∀ W, Tb W → Calls Tryz.prog 20 #[.agg #[.int .i64 (2), S ((qR (-2) 1).1), S ((qR (-2) 1).2), S ((qR 2 1).1), S ((qR 2 1).2), S ((qR 3 1).1), S ((qR 3 1).2), S ((qR 1 20).1), S ((qR 1 20).2)]] W (Ret W fun v _ => v = .tuple #[.agg #[S ([]), S ([]), S ([]), S ([])], .int .i64 160])) (hC : ∀ W, Tb W → Calls Tryz.prog 21 #[.agg #[S ((qR ka1 kb1).1), S ((qR ka1 kb1).2), S ((qR ua1 ub1).1), S ((qR ua1 ub1).2)], .agg #[S ((qR 455003 10000000).1), S ((qR 455003 10000000).2)]] W (Ret W fun v _ => v = .bool true)) (hV1 : ∀ W, Tb W → Calls Tryz.prog 24 #[.agg #[.int .i64 (1), S ((qR (-2) 1).1), S ((qR (-2) 1).2), S ((qR 2 1).1), S ((qR 2 1).2), S ((qR 0 1).1), S ((qR 0 1).2), S ((qR 1 20).1), S ((qR 1 20).2)]] W (Ret W fun v _ => v = .bool true)) (hV2 : ∀ W, Tb W → Calls Tryz.prog 24 #[.agg #[.int .i64 (0), S ([]), S ([]), S ([]), S ([]), S ([]), S ([]), S ([]), S ([])]] W (Ret W fun v _ => v = .bool false)) (hS1 : ∀ W, Tb W → Calls Tryz.prog 12 #[.agg #[.int .i64 (1), S ((qR (-2) 1).1), S ((qR (-2) 1).2), S ((qR 2 1).1), S ((qR 2 1).2), S ((qR 0 1).1), S ((qR 0 1).2), S ((qR 1 20).1), S ((qR 1 20).2)], .int .i64 (1), .agg #[S ((qR 0 1).1), S ((qR 0 1).2)], .agg #[S ((qR 1 1).1), S ((qR 1 1).2)], .int .i64 (4)] W (Ret W fun v _ => v = .bool true)) (hS2 : ∀ W, Tb W → Calls Tryz.prog 12 #[.agg #[.int .i64 (1), S ((qR (-2) 1).1), S ((qR (-2) 1).2), S ((qR 2 1).1), S ((qR 2 1).2), S ((qR 0 1).1), S ((qR 0 1).2), S ((qR 1 20).1), S ((qR 1 20).2)], .int .i64 (2), .agg #[S ((qR 0 1).1), S ((qR 0 1).2)], .agg #[S ((qR 1 1).1), S ((qR 1 1).2)], .int .i64 (4)] W (Ret W fun v _ => v = .bool false)) (ht : Tb w) :
    Calls Tryz.prog 8 #[] w (Ret w fun v w'=>v=.bool true):=by
 refine f_in Tryz.func8 rfl ?_;refine go ?_;refine clb en2014 (hc:=l16of_ok dc dc) (hk:=?_);rintro _ _ xo rfl;have fe:=xo.2;refine clb en2014 (hc:=l16of_ok dc dc) (hk:=?_);rintro _ _ xp rfl;have fe:=xt fe xp.2;refine cl en2023 (l16rule_ok (kd:=1) (ga:=0) (gb:=1) (ra:=1) (rb:=20)) ?_;rintro _ g7 xq rfl;have fe:=xt fe xq.2;refine al inf2027 (fun _ xr xu=>?_);have fe:=xt fe xr.2;refine l_op (k_storeA (b:=g7.heap.size) (o:=0) (vs:=[.int .i64 1,S ((qR (-2) 1).1),S ((qR (-2) 1).2),S (qR 2 1).1,S (qR 2 1).2,S (qR 0 1).1,S (qR 0 1).2,S (qR 1 20).1,S (qR 1 20).2]) sz2027 rfl rfl (by simp [Value.oneCell',S]) xu (Nat.le_of_ble_eq_true rfl) (fun _ nf f6=>?_));have fe:=plw nf fe;have alz:=psz nf;refine go ?_;refine clb en2014 (hc:=l16of_ok dc dc) (hk:=?_);rintro _ _ nh rfl;have f6:=be nh.2 f6;have fe:=xt fe nh.2;refine clb en2014 (hc:=l16of_ok dc dc) (hk:=?_);rintro _ _ ni rfl;have f6:=be ni.2 f6;have fe:=xt fe ni.2;refine cl en2023 (l16rule_ok (kd:=2) (ga:=1) (gb:=1) (ra:=1) (rb:=20)) ?_;rintro _ jk nj rfl;have f6:=be nj.2 f6;have fe:=xt fe nj.2;refine al inf2027 (fun _ nk xv=>?_);have f6:=be nk.2 f6;have fe:=xt fe nk.2;refine l_op (k_storeA (b:=jk.heap.size) (o:=0) (vs:=[.int .i64 2,S ((qR (-2) 1).1),S ((qR (-2) 1).2),S (qR 2 1).1,S (qR 2 1).2,S (qR 1 1).1,S (qR 1 1).2,S (qR 1 20).1,S (qR 1 20).2]) sz2027 rfl rfl (by simp [Value.oneCell',S]) xv (Nat.le_of_ble_eq_true rfl) (fun _ jl gm=>?_))
 have f6:=pb jl f6;have fe:=plw jl fe;have al8:=psz jl;refine go ?_;refine clb en2014 (hc:=l16of_ok dc dc) (hk:=?_);rintro _ _ jm rfl;have f6:=be jm.2 f6;have gm:=be jm.2 gm;have fe:=xt fe jm.2;refine clb en2014 (hc:=l16of_ok dc dc) (hk:=?_);rintro _ _ jn rfl;have f6:=be jn.2 f6;have gm:=be jn.2 gm;have fe:=xt fe jn.2;refine cl en2023 (l16rule_ok (kd:=1) (ga:=0) (gb:=1) (ra:=455) (rb:=10000)) ?_;rintro _ ix jo rfl;have f6:=be jo.2 f6;have gm:=be jo.2 gm;have fe:=xt fe jo.2;refine al inf2027 (fun _ jp xw=>?_);have f6:=be jp.2 f6;have gm:=be jp.2 gm;have fe:=xt fe jp.2;refine l_op (k_storeA (b:=ix.heap.size) (o:=0) (vs:=[.int .i64 1,S ((qR (-2) 1).1),S ((qR (-2) 1).2),S (qR 2 1).1,S (qR 2 1).2,S (qR 0 1).1,S (qR 0 1).2,S (qR 455 10000).1,S (qR 455 10000).2]) sz2027 rfl rfl (by simp [Value.oneCell',S]) xw (Nat.le_of_ble_eq_true rfl) (fun xx iz xy=>?_));have f6:=pb iz f6;have gm:=pb iz gm;have fe:=plw iz fe;have amf:=psz iz;refine go ?_;refine c_dv hmix 11 [4,5,36,37,38,39,40,41,42,43] [some (37,.agg #[.int .i64 1,S ((qR (-2) 1).1),S ((qR (-2) 1).2),S (qR 2 1).1,S (qR 2 1).2,S (qR 0 1).1,S (qR 0 1).2,S (qR 1 20).1,S (qR 1 20).2]),some (38,.agg #[S (qR 0 1).1,S (qR 0 1).2]),some (39,.agg #[S (qR 1 1).1,S (qR 1 1).2]),some (40,.tuple #[.int .i64 1,.agg #[S (qR ka1 kb1).1,S (qR ka1 kb1).2,S (qR ua1 ub1).1,S (qR ua1 ub1).2],.int .i64 0]),some (36,.tuple #[.int .i64 1,.agg #[S (qR ka1 kb1).1,S (qR ka1 kb1).2,S (qR ua1 ub1).1,S (qR ua1 ub1).2],.int .i64 0]),some (41,.int .i64 1),some (42,.agg #[S (qR ka1 kb1).1,S (qR ka1 kb1).2,S (qR ua1 ub1).1,S (qR ua1 ub1).2]),some (43,.int .i64 0),none,some (4,.int .i64 1),none] (XA xx 8 10 5 44 #[S ([]),S ([]),S ([]),S ([])] #[S (qR ka1 kb1).1,S (qR ka1 kb1).2,S (qR ua1 ub1).1,S (qR ua1 ub1).2]) XA.start krDl5 krDl5 krDl5 ?_ ?_
 refine ⟨fun amg _ _ xz _ nl _ _ _=>?_,?_⟩;obtain ⟨amg,rfl⟩:=ovE xz;have x7:=(be nl.1 f6);refine l_op (k_loadA (cs:=[.int .i64 1,S ((qR (-2) 1).1),S ((qR (-2) 1).2),S (qR 2 1).1,S (qR 2 1).2,S (qR 0 1).1,S (qR 0 1).2,S (qR 1 20).1,S (qR 1 20).2]) (b:=g7.heap.size) (o:=0) U2027 rfl sz2027 rfl (Blk.cells x7 (i:=0) rfl) ?_);refine go ?_;exact dvA rfl nl erDl5;refine ⟨fun amn _ _ amq _ nn _ _ _=>?_,?_⟩;obtain ⟨amn,rfl⟩:=ovE amq;refine clb en2014 (hc:=l16of_ok dc dc) (hk:=?_);rintro _ _ nw rfl;refine go ?_;exact dvA rfl nn nw.2;refine ⟨fun amx _ _ am0 _ nz _ _ _=>?_,?_⟩;obtain ⟨amx,rfl⟩:=ovE am0;refine clb en2014 (hc:=l16of_ok dc dc) (hk:=?_);rintro _ _ n6 rfl;refine go ?_;exact dvA rfl nz n6.2;refine ⟨fun jq _ _ am9 jr n7 _ _ _=>?_,?_⟩;obtain ⟨jq,rfl⟩:=ovE am9;have x8:=zpv (jr 0 _ _ rfl rfl);have x9:=zpv (jr 1 _ _ rfl rfl);have yc:=zpv (jr 2 _ _ rfl rfl);have js:=xt fe n7.1;refine cl en2018 ((hD1 _ (ht.ext js))) ?_ (cons_eq x8 (cons_eq x9 (cons_eq yc (cons_eq rfl rfl))));rintro _ _ n8 rfl;refine go ?_;exact dvA rfl n7 n8.2;refine ⟨fun yd _ _ ani ye yf _ _ _=>?_,?_⟩;obtain ⟨yd,rfl⟩:=ovE ani;have yg:=zpv (ye 3 _ _ rfl rfl);refine go ?_;exact dvA rfl yf erDl5;refine ⟨fun yh _ _ ano yi yj _ _ _=>?_,?_⟩;obtain ⟨yh,rfl⟩:=ovE ano;have yl:=zpv (yi 4 _ _ rfl rfl)
 refine go ?_;exact dvA rfl yj erDl5;refine ⟨fun ym _ _ anu yn yo _ _ _=>?_,?_⟩;obtain ⟨ym,rfl⟩:=ovE anu;have yp:=zpv (yn 4 _ _ rfl rfl);refine go ?_;exact dvA rfl yo erDl5;refine ⟨fun yq _ _ an1 yr yt _ _ _=>?_,?_⟩;obtain ⟨yq,rfl⟩:=ovE an1;have yu:=zpv (yr 4 _ _ rfl rfl);refine go ?_;exact dvA rfl yt erDl5;refine ⟨fun an5 _ _ an8 _ n9 yv yw _=>?_,?_⟩;obtain ⟨an5,rfl⟩:=ovE an8;have jt:=xt fe n9.1;have aob:=bz jt;refine al inf1032 (fun _ oa yx=>?_);refine go ?_;exact dvAa rfl n9 (unl yv (i:=8) (j:=10) rfl yw) oa.2 yx;refine ⟨fun yy _ _ aof yz y5 _ _ _=>?_,?_⟩;obtain ⟨yy,rfl⟩:=ovE aof;have y6:=zpv (yz 5 _ _ rfl rfl);refine go ?_;exact dvA rfl y5 erDl5;refine ⟨fun y7 _ _ aol y8 ju _ y9 za=>?_,?_⟩;obtain ⟨y7,rfl⟩:=ovE aol;have zc:=zpv (y8 6 _ _ rfl rfl);have jv:=xt fe ju.1;have aon:=bz jv;obtain ⟨_,ja,ze,zf⟩:=XA.opn ju (za 8 rfl) y9;have ja:=zpv ja;have aoo:=bz fe;refine SA zf (fun _ jw zg=>?_);have aoq:=psz jw;refine go ?_;exact dvAs (.inr rfl) ju ja ze jw zg;exact trivial;intro oc zh _ oe jx og iv;obtain ⟨oc,rfl⟩:=ovE jx;have jy:=(be iv.1 f6);have aos:=bt jy;have oh:=(be iv.1 gm);have aot:=bt oh;have oi:=(be iv.1 xy);have aou:=bt oi;have ik:=xt fe iv.1;have aov:=bz ik;have aow:=bz iv.1;obtain ⟨ol,jz,_,ot⟩:=XA.fin iv (oe 8 rfl) (.inl (oe 10 rfl))
 have jz:=zpv jz;have aoy:=bt ot;have zi:=zpv (og 7 _ _ rfl rfl);refine go ?_;refine c_dv hmix 11 [7,8,44,45,46,47,48,49,50,51] [some (45,.agg #[.int .i64 1,S ((qR (-2) 1).1),S ((qR (-2) 1).2),S (qR 2 1).1,S (qR 2 1).2,S (qR 0 1).1,S (qR 0 1).2,S (qR 1 20).1,S (qR 1 20).2]),some (46,.agg #[S (qR 1 2).1,S (qR 1 2).2]),some (47,.agg #[S (qR 1 1).1,S (qR 1 1).2]),some (48,.tuple #[.int .i64 2,.agg #[S (qR ka2 kb2).1,S (qR ka2 kb2).2,S (qR ua2 ub2).1,S (qR ua2 ub2).2],.int .i64 0]),some (44,.tuple #[.int .i64 2,.agg #[S (qR ka2 kb2).1,S (qR ka2 kb2).2,S (qR ua2 ub2).1,S (qR ua2 ub2).2],.int .i64 0]),some (49,.int .i64 2),some (50,.agg #[S (qR ka2 kb2).1,S (qR ka2 kb2).2,S (qR ua2 ub2).1,S (qR ua2 ub2).2]),some (51,.int .i64 0),none,some (7,.int .i64 2),none] (XA zh 8 10 8 44 #[S ([]),S ([]),S ([]),S ([])] #[S (qR ka2 kb2).1,S (qR ka2 kb2).2,S (qR ua2 ub2).1,S (qR ua2 ub2).2]) XA.start krDl5 krDl5 krDl5 ?_ ?_;refine ⟨fun aoz _ _ zj _ ow _ _ _=>?_,?_⟩;obtain ⟨aoz,rfl⟩:=ovE zj;have zk:=(be ow.1 jy);refine l_op (k_loadA (cs:=[.int .i64 1,S ((qR (-2) 1).1),S ((qR (-2) 1).2),S (qR 2 1).1,S (qR 2 1).2,S (qR 0 1).1,S (qR 0 1).2,S (qR 1 20).1,S (qR 1 20).2]) (b:=g7.heap.size) (o:=0) U2027 rfl sz2027 rfl (Blk.cells zk (i:=0) rfl) ?_);refine go ?_;exact dvA rfl ow erDl5
 refine ⟨fun ao6 _ _ ao9 _ ox _ _ _=>?_,?_⟩;obtain ⟨ao6,rfl⟩:=ovE ao9;refine clb en2014 (hc:=l16of_ok dc dc) (hk:=?_);rintro _ _ oz rfl;refine go ?_;exact dvA rfl ox oz.2;refine ⟨fun apg _ _ apj _ o0 _ _ _=>?_,?_⟩;obtain ⟨apg,rfl⟩:=ovE apj;refine clb en2014 (hc:=l16of_ok dc dc) (hk:=?_);rintro _ _ o6 rfl;refine go ?_;exact dvA rfl o0 o6.2;refine ⟨fun j5 _ _ apt j6 o7 _ _ _=>?_,?_⟩;obtain ⟨j5,rfl⟩:=ovE apt;have zm:=zpv (j6 0 _ _ rfl rfl);have zn:=zpv (j6 1 _ _ rfl rfl);have zp:=zpv (j6 2 _ _ rfl rfl);have j7:=xt ik o7.1;refine cl en2018 ((hD2 _ (ht.ext j7))) ?_ (cons_eq zm (cons_eq zn (cons_eq zp (cons_eq rfl rfl))));rintro _ _ o8 rfl;refine go ?_;exact dvA rfl o7 o8.2;refine ⟨fun zq _ _ ap1 zr zt _ _ _=>?_,?_⟩;obtain ⟨zq,rfl⟩:=ovE ap1;have zu:=zpv (zr 3 _ _ rfl rfl);refine go ?_;exact dvA rfl zt erDl5;refine ⟨fun zv _ _ ap7 zw zx _ _ _=>?_,?_⟩;obtain ⟨zv,rfl⟩:=ovE ap7;have zy:=zpv (zw 4 _ _ rfl rfl);refine go ?_;exact dvA rfl zx erDl5;refine ⟨fun zz _ _ aqd z6 z7 _ _ _=>?_,?_⟩;obtain ⟨zz,rfl⟩:=ovE aqd;have z8:=zpv (z6 4 _ _ rfl rfl);refine go ?_;exact dvA rfl z7 erDl5;refine ⟨fun aaa _ _ aqj aab aac _ _ _=>?_,?_⟩;obtain ⟨aaa,rfl⟩:=ovE aqj;have aad:=zpv (aab 4 _ _ rfl rfl);refine go ?_;exact dvA rfl aac erDl5;refine ⟨fun aqn _ _ aqq _ o9 aae aaf _=>?_,?_⟩
 obtain ⟨aqn,rfl⟩:=ovE aqq;have j8:=xt ik o9.1;have aqt:=bz j8;refine al inf1032 (fun _ pc aag=>?_);refine go ?_;exact dvAa rfl o9 (unl aae (i:=8) (j:=10) rfl aaf) pc.2 aag;refine ⟨fun aah _ _ aqx aai aaj _ _ _=>?_,?_⟩;obtain ⟨aah,rfl⟩:=ovE aqx;have aak:=zpv (aai 5 _ _ rfl rfl);refine go ?_;exact dvA rfl aaj erDl5;refine ⟨fun aal _ _ aq3 aam j9 _ aan aao=>?_,?_⟩;obtain ⟨aal,rfl⟩:=ovE aq3;have aap:=zpv (aam 6 _ _ rfl rfl);have ka:=xt ik j9.1;have aq5:=bz ka;obtain ⟨_,jb,aar,aas⟩:=XA.opn j9 (aao 8 rfl) aan;have jb:=zpv jb;have aq6:=bz ik;refine SA aas (fun _ kb aat=>?_);have aq8:=psz kb;refine go ?_;exact dvAs (.inr rfl) j9 jb aar kb aat;exact trivial;intro pf aau _ pg iw pj iu;obtain ⟨pf,rfl⟩:=ovE iw;have ke:=(be iu.1 jy);have ara:=bt ke;have pm:=(be iu.1 oh);have arb:=bt pm;have pn:=(be iu.1 oi);have arc:=bt pn;have po:=(be iu.1 ot);have ard:=bt po;have il:=xt ik iu.1;have arf:=bz il;have arh:=bz iu.1;obtain ⟨_,pp,_,pq⟩:=XA.fin iu (pg 8 rfl) (.inl (pg 10 rfl));have pp:=zpv pp;have ark:=bt pq;have aav:=zpv (pj 7 _ _ rfl rfl);refine go ?_;refine c_dv hmix 11 [10,11,52,53,54,55,56,57,58,59] [some (53,.agg #[.int .i64 1,S ((qR (-2) 1).1),S ((qR (-2) 1).2),S (qR 2 1).1,S (qR 2 1).2,S (qR 0 1).1,S (qR 0 1).2,S (qR 1 20).1,S (qR 1 20).2]),some (54,.agg #[S (qR 5 2).1,S (qR 5 2).2]),some (55,.agg #[S (qR 1 1).1,S (qR 1 1).2]),some (56,.tuple #[.int .i64 2,.agg #[S (qR ka3 kb3).1,S (qR ka3 kb3).2,S (qR ua3 ub3).1,S (qR ua3 ub3).2],.int .i64 0]),some (52,.tuple #[.int .i64 2,.agg #[S (qR ka3 kb3).1,S (qR ka3 kb3).2,S (qR ua3 ub3).1,S (qR ua3 ub3).2],.int .i64 0]),some (57,.int .i64 2),some (58,.agg #[S (qR ka3 kb3).1,S (qR ka3 kb3).2,S (qR ua3 ub3).1,S (qR ua3 ub3).2]),some (59,.int .i64 0),none,some (10,.int .i64 2),none] (XA aau 8 10 11 44 #[S ([]),S ([]),S ([]),S ([])] #[S (qR ka3 kb3).1,S (qR ka3 kb3).2,S (qR ua3 ub3).1,S (qR ua3 ub3).2]) XA.start krDl5 krDl5 krDl5 ?_ ?_
 refine ⟨fun arl _ _ aaw _ pt _ _ _=>?_,?_⟩;obtain ⟨arl,rfl⟩:=ovE aaw;have aax:=(be pt.1 ke);refine l_op (k_loadA (cs:=[.int .i64 1,S ((qR (-2) 1).1),S ((qR (-2) 1).2),S (qR 2 1).1,S (qR 2 1).2,S (qR 0 1).1,S (qR 0 1).2,S (qR 1 20).1,S (qR 1 20).2]) (b:=g7.heap.size) (o:=0) U2027 rfl sz2027 rfl (Blk.cells aax (i:=0) rfl) ?_);refine go ?_;exact dvA rfl pt erDl5;refine ⟨fun ars _ _ arv _ pu _ _ _=>?_,?_⟩;obtain ⟨ars,rfl⟩:=ovE arv;refine clb en2014 (hc:=l16of_ok dc dc) (hk:=?_);rintro _ _ px rfl;refine go ?_;exact dvA rfl pu px.2;refine ⟨fun ar2 _ _ ar5 _ py _ _ _=>?_,?_⟩;obtain ⟨ar2,rfl⟩:=ovE ar5;refine clb en2014 (hc:=l16of_ok dc dc) (hk:=?_);rintro _ _ p7 rfl;refine go ?_;exact dvA rfl py p7.2;refine ⟨fun kf _ _ ase kg p9 _ _ _=>?_,?_⟩;obtain ⟨kf,rfl⟩:=ovE ase;have aay:=zpv (kg 0 _ _ rfl rfl);have aaz:=zpv (kg 1 _ _ rfl rfl);have aa0:=zpv (kg 2 _ _ rfl rfl);have kh:=xt il p9.1;refine cl en2018 ((hD3 _ (ht.ext kh))) ?_ (cons_eq aay (cons_eq aaz (cons_eq aa0 (cons_eq rfl rfl))));rintro _ _ qa rfl;refine go ?_;exact dvA rfl p9 qa.2;refine ⟨fun aa1 _ _ asm aa2 aa3 _ _ _=>?_,?_⟩;obtain ⟨aa1,rfl⟩:=ovE asm;have aa4:=zpv (aa2 3 _ _ rfl rfl);refine go ?_;exact dvA rfl aa3 erDl5;refine ⟨fun aa5 _ _ ast aa6 aa7 _ _ _=>?_,?_⟩;obtain ⟨aa5,rfl⟩:=ovE ast;have aa8:=zpv (aa6 4 _ _ rfl rfl)
 refine go ?_;exact dvA rfl aa7 erDl5;refine ⟨fun aa9 _ _ asz aba abb _ _ _=>?_,?_⟩;obtain ⟨aa9,rfl⟩:=ovE asz;have abc:=zpv (aba 4 _ _ rfl rfl);refine go ?_;exact dvA rfl abb erDl5;refine ⟨fun abd _ _ as5 abe abf _ _ _=>?_,?_⟩;obtain ⟨abd,rfl⟩:=ovE as5;have abg:=zpv (abe 4 _ _ rfl rfl);refine go ?_;exact dvA rfl abf erDl5;refine ⟨fun as9 _ _ atc _ qb abh abi _=>?_,?_⟩;obtain ⟨as9,rfl⟩:=ovE atc;have ki:=xt il qb.1;have atf:=bz ki;refine al inf1032 (fun _ qc abj=>?_);refine go ?_;exact dvAa rfl qb (unl abh (i:=8) (j:=10) rfl abi) qc.2 abj;refine ⟨fun abk _ _ atj abl abm _ _ _=>?_,?_⟩;obtain ⟨abk,rfl⟩:=ovE atj;have abn:=zpv (abl 5 _ _ rfl rfl);refine go ?_;exact dvA rfl abm erDl5;refine ⟨fun abo _ _ atp abp kj _ abq abr=>?_,?_⟩;obtain ⟨abo,rfl⟩:=ovE atp;have abs:=zpv (abp 6 _ _ rfl rfl);have km:=xt il kj.1;have atr:=bz km;obtain ⟨_,jc,abu,abv⟩:=XA.opn kj (abr 8 rfl) abq;have jc:=zpv jc;have att:=bz il;refine SA abv (fun _ kn abw=>?_);have atv:=psz kn;refine go ?_;exact dvAs (.inr rfl) kj jc abu kn abw;exact trivial;intro qd abx _ qe im qg io;obtain ⟨qd,rfl⟩:=ovE im;have qh:=(be io.1 ke);have atx:=bt qh;have ko:=(be io.1 pm);have aty:=bt ko;have qj:=(be io.1 pn);have atz:=bt qj;have qk:=(be io.1 po);have at0:=bt qk;have ql:=(be io.1 pq)
 have at1:=bt ql;have ip:=xt il io.1;have at2:=bz ip;have at3:=bz io.1;obtain ⟨_,qm,_,qn⟩:=XA.fin io (qe 8 rfl) (.inl (qe 10 rfl));have qm:=zpv qm;have at6:=bt qn;have aby:=zpv (qg 7 _ _ rfl rfl);refine go ?_;refine c_dv hmix 11 [13,14,60,61,62,63,64,65,66,67] [some (61,.agg #[.int .i64 2,S ((qR (-2) 1).1),S ((qR (-2) 1).2),S (qR 2 1).1,S (qR 2 1).2,S (qR 1 1).1,S (qR 1 1).2,S (qR 1 20).1,S (qR 1 20).2]),some (62,.agg #[S (qR 3 2).1,S (qR 3 2).2]),some (63,.agg #[S (qR 1 1).1,S (qR 1 1).2]),some (64,.tuple #[.int .i64 2,.agg #[S (qR ka4 kb4).1,S (qR ka4 kb4).2,S (qR ua4 ub4).1,S (qR ua4 ub4).2],.int .i64 0]),some (60,.tuple #[.int .i64 2,.agg #[S (qR ka4 kb4).1,S (qR ka4 kb4).2,S (qR ua4 ub4).1,S (qR ua4 ub4).2],.int .i64 0]),some (65,.int .i64 2),some (66,.agg #[S (qR ka4 kb4).1,S (qR ka4 kb4).2,S (qR ua4 ub4).1,S (qR ua4 ub4).2]),some (67,.int .i64 0),none,some (13,.int .i64 2),none] (XA abx 8 10 14 44 #[S ([]),S ([]),S ([]),S ([])] #[S (qR ka4 kb4).1,S (qR ka4 kb4).2,S (qR ua4 ub4).1,S (qR ua4 ub4).2]) XA.start krDl5 krDl5 krDl5 ?_ ?_;refine ⟨fun at7 _ _ ab0 _ qo _ _ _=>?_,?_⟩;obtain ⟨at7,rfl⟩:=ovE ab0;have ab1:=(be qo.1 ko);refine l_op (k_loadA (cs:=[.int .i64 2,S ((qR (-2) 1).1),S ((qR (-2) 1).2),S (qR 2 1).1,S (qR 2 1).2,S (qR 1 1).1,S (qR 1 1).2,S (qR 1 20).1,S (qR 1 20).2]) (b:=jk.heap.size) (o:=0) U2027 rfl sz2027 rfl (Blk.cells ab1 (i:=0) rfl) ?_)
 refine go ?_;exact dvA rfl qo erDl5;refine ⟨fun aue _ _ auh _ qq _ _ _=>?_,?_⟩;obtain ⟨aue,rfl⟩:=ovE auh;refine clb en2014 (hc:=l16of_ok dc dc) (hk:=?_);rintro _ _ qy rfl;refine go ?_;exact dvA rfl qq qy.2;refine ⟨fun auo _ _ aur _ q5 _ _ _=>?_,?_⟩;obtain ⟨auo,rfl⟩:=ovE aur;refine clb en2014 (hc:=l16of_ok dc dc) (hk:=?_);rintro _ _ q7 rfl;refine go ?_;exact dvA rfl q5 q7.2;refine ⟨fun kp _ _ au0 kq q8 _ _ _=>?_,?_⟩;obtain ⟨kp,rfl⟩:=ovE au0;have ab2:=zpv (kq 0 _ _ rfl rfl);have ab3:=zpv (kq 1 _ _ rfl rfl);have ab4:=zpv (kq 2 _ _ rfl rfl);have kr:=xt ip q8.1;refine cl en2018 ((hD4 _ (ht.ext kr))) ?_ (cons_eq ab2 (cons_eq ab3 (cons_eq ab4 (cons_eq rfl rfl))));rintro _ _ rd rfl;refine go ?_;exact dvA rfl q8 rd.2;refine ⟨fun ab5 _ _ au8 ab6 ab7 _ _ _=>?_,?_⟩;obtain ⟨ab5,rfl⟩:=ovE au8;have ab8:=zpv (ab6 3 _ _ rfl rfl);refine go ?_;exact dvA rfl ab7 erDl5;refine ⟨fun ab9 _ _ ave aca acb _ _ _=>?_,?_⟩;obtain ⟨ab9,rfl⟩:=ovE ave;have acd:=zpv (aca 4 _ _ rfl rfl);refine go ?_;exact dvA rfl acb erDl5;refine ⟨fun ace _ _ avk acf acg _ _ _=>?_,?_⟩;obtain ⟨ace,rfl⟩:=ovE avk;have ach:=zpv (acf 4 _ _ rfl rfl);refine go ?_;exact dvA rfl acg erDl5;refine ⟨fun aci _ _ avq acj ack _ _ _=>?_,?_⟩;obtain ⟨aci,rfl⟩:=ovE avq;have acl:=zpv (acj 4 _ _ rfl rfl);refine go ?_;exact dvA rfl ack erDl5
 refine ⟨fun avu _ _ avx _ re acm acn _=>?_,?_⟩;obtain ⟨avu,rfl⟩:=ovE avx;have ks:=xt ip re.1;have av0:=bz ks;refine al inf1032 (fun _ rh aco=>?_);refine go ?_;exact dvAa rfl re (unl acm (i:=8) (j:=10) rfl acn) rh.2 aco;refine ⟨fun acp _ _ av4 acq acr _ _ _=>?_,?_⟩;obtain ⟨acp,rfl⟩:=ovE av4;have acs:=zpv (acq 5 _ _ rfl rfl);refine go ?_;exact dvA rfl acr erDl5;refine ⟨fun acu _ _ awa acv kt _ acw acx=>?_,?_⟩;obtain ⟨acu,rfl⟩:=ovE awa;have acy:=zpv (acv 6 _ _ rfl rfl);have ku:=xt ip kt.1;have awc:=bz ku;obtain ⟨_,jd,ac0,ac1⟩:=XA.opn kt (acx 8 rfl) acw;have jd:=zpv jd;have awd:=bz ip;refine SA ac1 (fun _ kv ac2=>?_);have awf:=psz kv;refine go ?_;exact dvAs (.inr rfl) kt jd ac0 kv ac2;exact trivial;intro ri ac3 _ rk ii rm ij;obtain ⟨ri,rfl⟩:=ovE ii;have rp:=(be ij.1 qh);have awh:=bt rp;have rq:=(be ij.1 ko);have awi:=bt rq;have kw:=(be ij.1 qj);have awj:=bt kw;have rr:=(be ij.1 qk);have awk:=bt rr;have rt:=(be ij.1 ql);have awl:=bt rt;have ru:=(be ij.1 qn);have awm:=bt ru;have iq:=xt ip ij.1;have awn:=bz iq;have awo:=bz ij.1;obtain ⟨_,ry,_,rz⟩:=XA.fin ij (rk 8 rfl) (.inl (rk 10 rfl));have ry:=zpv ry;have awr:=bt rz;have ac4:=zpv (rm 7 _ _ rfl rfl);refine go ?_;refine c_dv hmix 11 [16,17,68,69,70,71,72,73,74,75] [some (69,.agg #[.int .i64 1,S ((qR (-2) 1).1),S ((qR (-2) 1).2),S (qR 2 1).1,S (qR 2 1).2,S (qR 0 1).1,S (qR 0 1).2,S (qR 455 10000).1,S (qR 455 10000).2]),some (70,.agg #[S (qR 0 1).1,S (qR 0 1).2]),some (71,.agg #[S (qR 1 1).1,S (qR 1 1).2]),some (72,.tuple #[.int .i64 3,.agg #[S (qR ka5 kb5).1,S (qR ka5 kb5).2,S (qR ua5 ub5).1,S (qR ua5 ub5).2],.int .i64 0]),some (68,.tuple #[.int .i64 3,.agg #[S (qR ka5 kb5).1,S (qR ka5 kb5).2,S (qR ua5 ub5).1,S (qR ua5 ub5).2],.int .i64 0]),some (73,.int .i64 3),some (74,.agg #[S (qR ka5 kb5).1,S (qR ka5 kb5).2,S (qR ua5 ub5).1,S (qR ua5 ub5).2]),some (75,.int .i64 0),none,some (16,.int .i64 3),none] (XA ac3 8 10 17 44 #[S ([]),S ([]),S ([]),S ([])] #[S (qR ka5 kb5).1,S (qR ka5 kb5).2,S (qR ua5 ub5).1,S (qR ua5 ub5).2]) XA.start krDl5 krDl5 krDl5 ?_ ?_
 refine ⟨fun aws _ _ ac5 _ r7 _ _ _=>?_,?_⟩;obtain ⟨aws,rfl⟩:=ovE ac5;have ac6:=(be r7.1 kw);refine l_op (k_loadA (cs:=[.int .i64 1,S ((qR (-2) 1).1),S ((qR (-2) 1).2),S (qR 2 1).1,S (qR 2 1).2,S (qR 0 1).1,S (qR 0 1).2,S (qR 455 10000).1,S (qR 455 10000).2]) (b:=ix.heap.size) (o:=0) U2027 rfl sz2027 rfl (Blk.cells ac6 (i:=0) rfl) ?_);refine go ?_;exact dvA rfl r7 erDl5;refine ⟨fun awz _ _ aw2 _ r8 _ _ _=>?_,?_⟩;obtain ⟨awz,rfl⟩:=ovE aw2;refine clb en2014 (hc:=l16of_ok dc dc) (hk:=?_);rintro _ _ sc rfl;refine go ?_;exact dvA rfl r8 sc.2;refine ⟨fun aw9 _ _ axc _ sd _ _ _=>?_,?_⟩;obtain ⟨aw9,rfl⟩:=ovE axc;refine clb en2014 (hc:=l16of_ok dc dc) (hk:=?_);rintro _ _ sh rfl;refine go ?_;exact dvA rfl sd sh.2;refine ⟨fun ky _ _ axl kz si _ _ _=>?_,?_⟩;obtain ⟨ky,rfl⟩:=ovE axl;have ac7:=zpv (kz 0 _ _ rfl rfl);have ac8:=zpv (kz 1 _ _ rfl rfl);have ac9:=zpv (kz 2 _ _ rfl rfl);have ld:=xt iq si.1;refine cl en2018 ((hD5 _ (ht.ext ld))) ?_ (cons_eq ac7 (cons_eq ac8 (cons_eq ac9 (cons_eq rfl rfl))));rintro _ _ sj rfl;refine go ?_;exact dvA rfl si sj.2;refine ⟨fun ada _ _ axt adb adc _ _ _=>?_,?_⟩;obtain ⟨ada,rfl⟩:=ovE axt;have ade:=zpv (adb 3 _ _ rfl rfl);refine go ?_;exact dvA rfl adc erDl5;refine ⟨fun adf _ _ axz adg adh _ _ _=>?_,?_⟩;obtain ⟨adf,rfl⟩:=ovE axz
 have adk:=zpv (adg 4 _ _ rfl rfl);refine go ?_;exact dvA rfl adh erDl5;refine ⟨fun adl _ _ ax5 adm adn _ _ _=>?_,?_⟩;obtain ⟨adl,rfl⟩:=ovE ax5;have ado:=zpv (adm 4 _ _ rfl rfl);refine go ?_;exact dvA rfl adn erDl5;refine ⟨fun adp _ _ ayb adq adr _ _ _=>?_,?_⟩;obtain ⟨adp,rfl⟩:=ovE ayb;have ads:=zpv (adq 4 _ _ rfl rfl);refine go ?_;exact dvA rfl adr erDl5;refine ⟨fun ayf _ _ ayi _ sl adt adu _=>?_,?_⟩;obtain ⟨ayf,rfl⟩:=ovE ayi;have lg:=xt iq sl.1;have ayl:=bz lg;refine al inf1032 (fun _ sn adv=>?_);refine go ?_;exact dvAa rfl sl (unl adt (i:=8) (j:=10) rfl adu) sn.2 adv;refine ⟨fun adw _ _ ayp adx ady _ _ _=>?_,?_⟩;obtain ⟨adw,rfl⟩:=ovE ayp;have adz:=zpv (adx 5 _ _ rfl rfl);refine go ?_;exact dvA rfl ady erDl5;refine ⟨fun ad0 _ _ ayv ad1 li _ ad2 ad3=>?_,?_⟩;obtain ⟨ad0,rfl⟩:=ovE ayv;have ad4:=zpv (ad1 6 _ _ rfl rfl);have lj:=xt iq li.1;have ayx:=bz lj;obtain ⟨_,je,ad6,ad7⟩:=XA.opn li (ad3 8 rfl) ad2;have je:=zpv je;have ayy:=bz iq;refine SA ad7 (fun _ lk ad8=>?_);have ay0:=psz lk;refine go ?_;exact dvAs (.inr rfl) li je ad6 lk ad8;exact trivial;intro sq ad9 _ sr gp ss g8;obtain ⟨sq,rfl⟩:=ovE gp;have su:=(be g8.1 rp);have ay2:=bt su;have sv:=(be g8.1 rq);have ay3:=bt sv;have ll:=(be g8.1 kw);have ay4:=bt ll;have sy:=(be g8.1 rr);have ay5:=bt sy
 have ta:=(be g8.1 rt);have ay6:=bt ta;have tc:=(be g8.1 ru);have ay7:=bt tc;have td:=(be g8.1 rz);have ay8:=bt td;have ir:=xt iq g8.1;have ay9:=bz ir;have aza:=bz g8.1;obtain ⟨_,te,_,tg⟩:=XA.fin g8 (sr 8 rfl) (.inl (sr 10 rfl));have te:=zpv te;have azd:=bt tg;have aea:=zpv (ss 7 _ _ rfl rfl);refine go ?_;refine c_dv hmix 11 [19,20,76,77,78,79,80,81,82,83] [some (77,.agg #[.int .i64 1,S ((qR (-2) 1).1),S ((qR (-2) 1).2),S (qR 2 1).1,S (qR 2 1).2,S (qR 0 1).1,S (qR 0 1).2,S (qR 455 10000).1,S (qR 455 10000).2]),some (78,.agg #[S (qR 0 1).1,S (qR 0 1).2]),some (79,.agg #[S (qR 1 1).1,S (qR 1 1).2]),some (80,.tuple #[.int .i64 2,.agg #[S (qR ka6 kb6).1,S (qR ka6 kb6).2,S (qR ua6 ub6).1,S (qR ua6 ub6).2],.int .i64 0]),some (76,.tuple #[.int .i64 2,.agg #[S (qR ka6 kb6).1,S (qR ka6 kb6).2,S (qR ua6 ub6).1,S (qR ua6 ub6).2],.int .i64 0]),some (81,.int .i64 2),some (82,.agg #[S (qR ka6 kb6).1,S (qR ka6 kb6).2,S (qR ua6 ub6).1,S (qR ua6 ub6).2]),some (83,.int .i64 0),none,some (19,.int .i64 2),none] (XA ad9 8 10 20 44 #[S ([]),S ([]),S ([]),S ([])] #[S (qR ka6 kb6).1,S (qR ka6 kb6).2,S (qR ua6 ub6).1,S (qR ua6 ub6).2]) XA.start krDl5 krDl5 krDl5 ?_ ?_;refine ⟨fun aze _ _ aec _ th _ _ _=>?_,?_⟩;obtain ⟨aze,rfl⟩:=ovE aec;have aed:=(be th.1 ll)
 refine l_op (k_loadA (cs:=[.int .i64 1,S ((qR (-2) 1).1),S ((qR (-2) 1).2),S (qR 2 1).1,S (qR 2 1).2,S (qR 0 1).1,S (qR 0 1).2,S (qR 455 10000).1,S (qR 455 10000).2]) (b:=ix.heap.size) (o:=0) U2027 rfl sz2027 rfl (Blk.cells aed (i:=0) rfl) ?_);refine go ?_;exact dvA rfl th erDl5;refine ⟨fun azl _ _ azo _ tj _ _ _=>?_,?_⟩;obtain ⟨azl,rfl⟩:=ovE azo;refine clb en2014 (hc:=l16of_ok dc dc) (hk:=?_);rintro _ _ tp rfl;refine go ?_;exact dvA rfl tj tp.2;refine ⟨fun azv _ _ azy _ tq _ _ _=>?_,?_⟩;obtain ⟨azv,rfl⟩:=ovE azy;refine clb en2014 (hc:=l16of_ok dc dc) (hk:=?_);rintro _ _ tw rfl;refine go ?_;exact dvA rfl tq tw.2;refine ⟨fun ln _ _ az7 lu tz _ _ _=>?_,?_⟩;obtain ⟨ln,rfl⟩:=ovE az7;have aee:=zpv (lu 0 _ _ rfl rfl);have aef:=zpv (lu 1 _ _ rfl rfl);have aeg:=zpv (lu 2 _ _ rfl rfl);have lv:=xt ir tz.1;refine cl en2018 ((hD6 _ (ht.ext lv))) ?_ (cons_eq aee (cons_eq aef (cons_eq aeg (cons_eq rfl rfl))));rintro _ _ t7 rfl;refine go ?_;exact dvA rfl tz t7.2;refine ⟨fun aeh _ _ a0f aei aej _ _ _=>?_,?_⟩;obtain ⟨aeh,rfl⟩:=ovE a0f;have aek:=zpv (aei 3 _ _ rfl rfl);refine go ?_;exact dvA rfl aej erDl5;refine ⟨fun ael _ _ a0l aem aen _ _ _=>?_,?_⟩;obtain ⟨ael,rfl⟩:=ovE a0l;have aeo:=zpv (aem 4 _ _ rfl rfl);refine go ?_;exact dvA rfl aen erDl5;refine ⟨fun aep _ _ a0r aeq aer _ _ _=>?_,?_⟩
 obtain ⟨aep,rfl⟩:=ovE a0r;have aes:=zpv (aeq 4 _ _ rfl rfl);refine go ?_;exact dvA rfl aer erDl5;refine ⟨fun aet _ _ a0x aeu aev _ _ _=>?_,?_⟩;obtain ⟨aet,rfl⟩:=ovE a0x;have aew:=zpv (aeu 4 _ _ rfl rfl);refine go ?_;exact dvA rfl aev erDl5;refine ⟨fun a01 _ _ a04 _ t8 aex aey _=>?_,?_⟩;obtain ⟨a01,rfl⟩:=ovE a04;have lw:=xt ir t8.1;have a07:=bz lw;refine al inf1032 (fun _ ua aez=>?_);refine go ?_;exact dvAa rfl t8 (unl aex (i:=8) (j:=10) rfl aey) ua.2 aez;refine ⟨fun ae0 _ _ a1b ae1 ae2 _ _ _=>?_,?_⟩;obtain ⟨ae0,rfl⟩:=ovE a1b;have ae3:=zpv (ae1 5 _ _ rfl rfl);refine go ?_;exact dvA rfl ae2 erDl5;refine ⟨fun ae4 _ _ a1h ae5 lx _ ae6 ae7=>?_,?_⟩;obtain ⟨ae4,rfl⟩:=ovE a1h;have ae8:=zpv (ae5 6 _ _ rfl rfl);have lz:=xt ir lx.1;have a1j:=bz lz;obtain ⟨_,jf,afa,afb⟩:=XA.opn lx (ae7 8 rfl) ae6;have jf:=zpv jf;have a1k:=bz ir;refine SA afb (fun _ l0 afc=>?_);have a1m:=psz l0;refine go ?_;exact dvAs (.inr rfl) lx jf afa l0 afc;exact trivial;intro f7 _ _ ub gi ud gq;obtain ⟨f7,rfl⟩:=ovE gi;have fg:=(be gq.1 su);have a1p:=bt fg;have fj:=(be gq.1 sv);have a1q:=bt fj;have fk:=(be gq.1 ll);have a1r:=bt fk;have fh:=(be gq.1 sy);have a1s:=bt fh;have fm:=(be gq.1 ta);have a1t:=bt fm;have fo:=(be gq.1 tc);have a1u:=bt fo;have fp:=(be gq.1 td);have a1v:=bt fp
 have fq:=(be gq.1 tg);have a1w:=bt fq;have co:=xt ir gq.1;have a1x:=bz co;have a1y:=bz gq.1;obtain ⟨_,ue,_,fw⟩:=XA.fin gq (ub 8 rfl) (.inl (ub 10 rfl));have ue:=zpv ue;have a12:=bt fw;have afd:=zpv (ud 7 _ _ rfl rfl);refine go ?_;refine clb en2014 (hc:=l16of_ok dc dc) (hk:=?_);rintro _ _ g9 rfl;have fg:=be g9.2 fg;have fj:=be g9.2 fj;have fk:=be g9.2 fk;have fh:=be g9.2 fh;have fm:=be g9.2 fm;have fo:=be g9.2 fo;have fp:=be g9.2 fp;have fq:=be g9.2 fq;have fw:=be g9.2 fw;have co:=xt co g9.2;refine clb en2014 (hc:=l16of_ok dc dc) (hk:=?_);rintro _ _ ia rfl;have fg:=be ia.2 fg;have fj:=be ia.2 fj;have fk:=be ia.2 fk;have fh:=be ia.2 fh;have fm:=be ia.2 fm;have fo:=be ia.2 fo;have fp:=be ia.2 fp;have fq:=be ia.2 fq;have fw:=be ia.2 fw;have co:=xt co ia.2;refine cl en2023 (l16rule_ok (kd:=3) (ga:=1) (gb:=2) (ra:=1) (rb:=20)) ?_;rintro _ _ ic rfl;have fg:=be ic.2 fg;have fj:=be ic.2 fj;have fk:=be ic.2 fk;have fh:=be ic.2 fh;have fm:=be ic.2 fm;have fo:=be ic.2 fo;have fp:=be ic.2 fp;have fq:=be ic.2 fq;have fw:=be ic.2 fw;have co:=xt co ic.2;refine cl en2020 ((hA1 _ (ht.ext co))) ?_;rintro _ uf ie rfl;have fg:=be ie.2 fg;have fj:=be ie.2 fj
 have fk:=be ie.2 fk;have fh:=be ie.2 fh;have fm:=be ie.2 fm;have fo:=be ie.2 fo;have fp:=be ie.2 fp;have fq:=be ie.2 fq;have fw:=be ie.2 fw;have co:=xt co ie.2;refine go ?_;refine al inf1032 (fun _ ig afe=>?_);have fg:=be ig.2 fg;have fj:=be ig.2 fj;have fk:=be ig.2 fk;have fh:=be ig.2 fh;have fm:=be ig.2 fm;have fo:=be ig.2 fo;have fp:=be ig.2 fp;have fq:=be ig.2 fq;have fw:=be ig.2 fw;have co:=xt co ig.2;refine SA afe (fun _ gu gc=>?_);have fg:=pb gu fg;have fj:=pb gu fj;have fk:=pb gu fk;have fh:=pb gu fh;have fm:=pb gu fm;have fo:=pb gu fo;have fp:=pb gu fp;have fq:=pb gu fq;have fw:=pb gu fw;have co:=plw gu co;have a2c:=psz gu;refine go ?_;refine clb en2014 (hc:=l16of_ok dc dc) (hk:=?_);rintro _ _ gv rfl;have fg:=be gv.2 fg;have fj:=be gv.2 fj;have fk:=be gv.2 fk;have fh:=be gv.2 fh;have fm:=be gv.2 fm;have fo:=be gv.2 fo;have fp:=be gv.2 fp;have fq:=be gv.2 fq;have fw:=be gv.2 fw;have gc:=be gv.2 gc;have co:=xt co gv.2;refine clb en2014 (hc:=l16of_ok dc dc) (hk:=?_);rintro _ _ gw rfl;have fg:=be gw.2 fg;have fj:=be gw.2 fj
 have fk:=be gw.2 fk;have fh:=be gw.2 fh;have fm:=be gw.2 fm;have fo:=be gw.2 fo;have fp:=be gw.2 fp;have fq:=be gw.2 fq;have fw:=be gw.2 fw;have gc:=be gw.2 gc;have co:=xt co gw.2;refine cl en2023 (l16rule_ok (kd:=2) (ga:=3) (gb:=1) (ra:=1) (rb:=20)) ?_;rintro _ _ gy rfl;have fg:=be gy.2 fg;have fj:=be gy.2 fj;have fk:=be gy.2 fk;have fh:=be gy.2 fh;have fm:=be gy.2 fm;have fo:=be gy.2 fo;have fp:=be gy.2 fp;have fq:=be gy.2 fq;have fw:=be gy.2 fw;have gc:=be gy.2 gc;have co:=xt co gy.2;refine cl en2020 ((hA2 _ (ht.ext co))) ?_;rintro _ _ gz rfl;have fg:=be gz.2 fg;have fj:=be gz.2 fj;have fk:=be gz.2 fk;have fh:=be gz.2 fh;have fm:=be gz.2 fm;have fo:=be gz.2 fo;have fp:=be gz.2 fp;have fq:=be gz.2 fq;have fw:=be gz.2 fw;have gc:=be gz.2 gc;have co:=xt co gz.2;refine go ?_;refine al inf1032 (fun _ g6 afg=>?_);have fg:=be g6.2 fg;have fj:=be g6.2 fj;have fk:=be g6.2 fk;have fh:=be g6.2 fh;have fm:=be g6.2 fm;have fo:=be g6.2 fo;have fp:=be g6.2 fp;have fq:=be g6.2 fq;have fw:=be g6.2 fw;have gc:=be g6.2 gc;have co:=xt co g6.2;refine SA afg (fun ug gj afh=>?_);have fg:=pb gj fg;have fj:=pb gj fj;have fk:=pb gj fk
 have fh:=pb gj fh;have fm:=pb gj fm;have fo:=pb gj fo;have fp:=pb gj fp;have fq:=pb gj fq;have fw:=pb gj fw;have gc:=pb gj gc;have co:=plw gj co;have a2l:=psz gj;refine go ?_;have afn:=zpv (og 9 _ _ rfl rfl);have afo:=jz;have afp:=zpv (pj 9 _ _ rfl rfl);have afq:=zpv (qg 9 _ _ rfl rfl);have afr:=zpv (rm 9 _ _ rfl rfl);have afs:=zpv (ss 9 _ _ rfl rfl);have aft:=zpv (ud 9 _ _ rfl rfl);refine c_dv hmix 56 [128,129,130,131,132,133,134,135,136,137,138,139,140,141,142,143,144,145,146,147,148,149,150,151,152,153,154,155,156,157,158,159,160,161,162,163,164,165,166,167,168,169,170,171,172,173,174,175,176,177,178,179,180,181,182,183] [some (128,.bool true),some (129,.bool true),some (130,.int .i64 1),some (131,.bool true),some (132,.bool true),some (133,.bool true),some (134,.agg #[S (qR ka1 kb1).1,S (qR ka1 kb1).2,S (qR ua1 ub1).1,S (qR ua1 ub1).2]),some (135,.agg #[S (qR 455003 10000000).1,S (qR 455003 10000000).2]),some (136,.bool true),some (137,.bool true),some (138,.bool true),some (139,.int .i64 2),some (140,.bool true),some (141,.bool true),some (142,.bool true),some (143,.int .i64 2),some (144,.bool true),some (145,.bool true),some (146,.bool true),some (147,.int .i64 2),some (148,.bool true),some (149,.bool true),some (150,.bool true),some (151,.int .i64 3),some (152,.bool true),some (153,.bool true),some (154,.bool true),some (155,.int .i64 2),some (156,.bool true),some (157,.bool true),some (158,.bool true),some (159,.agg #[S ((qR (-5) 2).1),S ((qR (-5) 2).2),S (qR 5 2).1,S (qR 5 2).2]),some (160,.agg #[S ((qR (-5) 2).1),S ((qR (-5) 2).2)]),some (161,.agg #[S (qR 5 2).1,S (qR 5 2).2]),some (162,.agg #[S ((qR (-5) 2).1),S ((qR (-5) 2).2),S (qR 5 2).1,S (qR 5 2).2]),some (163,.bool true),some (164,.bool true),some (165,.bool true),some (166,.agg #[.int .i64 1,S ((qR (-2) 1).1),S ((qR (-2) 1).2),S (qR 2 1).1,S (qR 2 1).2,S (qR 0 1).1,S (qR 0 1).2,S (qR 1 20).1,S (qR 1 20).2]),some (167,.bool true),some (168,.bool true),some (169,.bool true),some (170,.agg #[.int .i64 0,S ([]),S ([]),S ([]),S ([]),S ([]),S ([]),S ([]),S ([])]),some (171,.bool false),some (172,.bool true),some (173,.bool true),some (174,.bool true),some (175,.agg #[.int .i64 1,S ((qR (-2) 1).1),S ((qR (-2) 1).2),S (qR 2 1).1,S (qR 2 1).2,S (qR 0 1).1,S (qR 0 1).2,S (qR 1 20).1,S (qR 1 20).2]),some (176,.agg #[S (qR 0 1).1,S (qR 0 1).2]),some (177,.agg #[S (qR 1 1).1,S (qR 1 1).2]),some (178,.bool true),some (179,.bool true),some (180,.bool true),some (181,.agg #[.int .i64 1,S ((qR (-2) 1).1),S ((qR (-2) 1).2),S (qR 2 1).1,S (qR 2 1).2,S (qR 0 1).1,S (qR 0 1).2,S (qR 1 20).1,S (qR 1 20).2]),some (182,.agg #[S (qR 0 1).1,S (qR 0 1).2]),some (183,.agg #[S (qR 1 1).1,S (qR 1 1).2])] (XE ug) (Ext.drew ug) krDl5 krDl5 krDl5 ?_ ?_
 refine ⟨fun a2m _ _ afu _ afv _ _ _=>?_,?_⟩;obtain ⟨a2m,rfl⟩:=ovE afu;refine go ?_;exact dvE rfl afv erDl5;refine ⟨fun afw _ _ a2v afx afy _ _ _=>?_,?_⟩;obtain ⟨afw,rfl⟩:=ovE a2v;have afz:=zpv (afx 0 _ _ rfl rfl);refine go ?_;exact dvE rfl afy erDl5;refine ⟨fun af0 _ _ af7 af8 af9 _ _ _=>?_,?_⟩;obtain ⟨af0,rfl⟩:=ovE af7;have aga:=zpv (af8 1 _ _ rfl rfl);refine go ?_;exact dvE rfl af9 erDl5;refine ⟨fun uh _ _ a28 ui agb _ _ _=>?_,?_⟩;obtain ⟨uh,rfl⟩:=ovE a28;have agc:=zpv (ui 1 _ _ rfl rfl);have agd:=zpv (ui 2 _ _ rfl rfl);refine go ?_;exact dvE rfl agb erDl5;refine ⟨fun uj _ _ a3e uk age _ _ _=>?_,?_⟩;obtain ⟨uj,rfl⟩:=ovE a3e;have agf:=zpv (uk 1 _ _ rfl rfl);have agh:=zpv (uk 3 _ _ rfl rfl);refine go ?_;exact dvE rfl age erDl5;refine ⟨fun agi _ _ a3k agj agk _ _ _=>?_,?_⟩;obtain ⟨agi,rfl⟩:=ovE a3k;have agl:=zpv (agj 4 _ _ rfl rfl);refine go ?_;exact dvE rfl agk erDl5;refine ⟨fun agm _ _ agn ago ul _ _ _=>?_,?_⟩;obtain ⟨agm,rfl⟩:=ovE agn;have agp:=zpv (ago 5 _ _ rfl rfl);have agq:=(be ul fh);refine go ?_;(try refine l_op (k_loadA (cs:=[S (qR ka1 kb1).1,S (qR ka1 kb1).2,S (qR ua1 ub1).1,S (qR ua1 ub1).2]) (b:=ol) (o:=0) U1032 rfl sz1032 afo (Blk.cells agq (i:=0) rfl) ?_));refine go ?_;exact dvE rfl ul erDl5;refine ⟨fun agr _ _ a3v ags um _ _ _=>?_,?_⟩
 obtain ⟨agr,rfl⟩:=ovE a3v;have agt:=zpv (ags 5 _ _ rfl rfl);refine go ?_;refine clb en2014 (hc:=l16of_ok dc dc) (hk:=?_);rintro _ _ uo rfl;refine go ?_;exact dvE rfl um uo.2;refine ⟨fun mc _ _ a33 me uq _ _ _=>?_,?_⟩;obtain ⟨mc,rfl⟩:=ovE a33;have agu:=zpv (me 5 _ _ rfl rfl);have agv:=zpv (me 6 _ _ rfl rfl);have agw:=zpv (me 7 _ _ rfl rfl);have mf:=xt co uq;refine go ?_;refine cl en1057 ((hC _ (ht.ext mf))) ?_ (cons_eq agv (cons_eq agw rfl));rintro _ _ ut rfl;refine go ?_;exact dvE rfl uq ut.2;refine ⟨fun uu _ _ a4c uv agx _ _ _=>?_,?_⟩;obtain ⟨uu,rfl⟩:=ovE a4c;have agy:=zpv (uv 5 _ _ rfl rfl);have agz:=zpv (uv 8 _ _ rfl rfl);refine go ?_;exact dvE rfl agx erDl5;refine ⟨fun ag0 _ _ a4i ag1 ag2 _ _ _=>?_,?_⟩;obtain ⟨ag0,rfl⟩:=ovE a4i;have ag3:=zpv (ag1 9 _ _ rfl rfl);refine go ?_;exact dvE rfl ag2 erDl5;refine ⟨fun ag4 _ _ ag5 ag6 ag7 _ _ _=>?_,?_⟩;obtain ⟨ag4,rfl⟩:=ovE ag5;have ag8:=zpv (ag6 10 _ _ rfl rfl);refine go ?_;exact dvE rfl ag7 erDl5;refine ⟨fun uw _ _ a4t ux ag9 _ _ _=>?_,?_⟩;obtain ⟨uw,rfl⟩:=ovE a4t;have aha:=zpv (ux 10 _ _ rfl rfl);have ahb:=zpv (ux 11 _ _ rfl rfl);refine go ?_;exact dvE rfl ag9 erDl5;refine ⟨fun uy _ _ a4z uz ahc _ _ _=>?_,?_⟩;obtain ⟨uy,rfl⟩:=ovE a4z;have ahd:=zpv (uz 10 _ _ rfl rfl);have ahe:=zpv (uz 12 _ _ rfl rfl);refine go ?_;exact dvE rfl ahc erDl5
 refine ⟨fun ahf _ _ a45 ahg ahh _ _ _=>?_,?_⟩;obtain ⟨ahf,rfl⟩:=ovE a45;have ahi:=zpv (ahg 13 _ _ rfl rfl);refine go ?_;exact dvE rfl ahh erDl5;refine ⟨fun ahj _ _ ahk ahl ahm _ _ _=>?_,?_⟩;obtain ⟨ahj,rfl⟩:=ovE ahk;have ahn:=zpv (ahl 14 _ _ rfl rfl);refine go ?_;exact dvE rfl ahm erDl5;refine ⟨fun u3 _ _ a5h u4 aho _ _ _=>?_,?_⟩;obtain ⟨u3,rfl⟩:=ovE a5h;have ahp:=zpv (u4 14 _ _ rfl rfl);have ahq:=zpv (u4 15 _ _ rfl rfl);refine go ?_;exact dvE rfl aho erDl5;refine ⟨fun u5 _ _ a5n u6 ahr _ _ _=>?_,?_⟩;obtain ⟨u5,rfl⟩:=ovE a5n;have ahs:=zpv (u6 14 _ _ rfl rfl);have aht:=zpv (u6 16 _ _ rfl rfl);refine go ?_;exact dvE rfl ahr erDl5;refine ⟨fun ahu _ _ a5t ahv ahw _ _ _=>?_,?_⟩;obtain ⟨ahu,rfl⟩:=ovE a5t;have ahx:=zpv (ahv 17 _ _ rfl rfl);refine go ?_;exact dvE rfl ahw erDl5;refine ⟨fun ahy _ _ ahz ah0 ah1 _ _ _=>?_,?_⟩;obtain ⟨ahy,rfl⟩:=ovE ahz;have ah2:=zpv (ah0 18 _ _ rfl rfl);refine go ?_;exact dvE rfl ah1 erDl5;refine ⟨fun u7 _ _ a56 u9 ah3 _ _ _=>?_,?_⟩;obtain ⟨u7,rfl⟩:=ovE a56;have ah4:=zpv (u9 18 _ _ rfl rfl);have ah5:=zpv (u9 19 _ _ rfl rfl);refine go ?_;exact dvE rfl ah3 erDl5;refine ⟨fun vd _ _ a6c ve ah6 _ _ _=>?_,?_⟩;obtain ⟨vd,rfl⟩:=ovE a6c;have ah7:=zpv (ve 18 _ _ rfl rfl);have ah8:=zpv (ve 20 _ _ rfl rfl);refine go ?_;exact dvE rfl ah6 erDl5;refine ⟨fun ah9 _ _ a6i aia aib _ _ _=>?_,?_⟩
 obtain ⟨ah9,rfl⟩:=ovE a6i;have aic:=zpv (aia 21 _ _ rfl rfl);refine go ?_;exact dvE rfl aib erDl5;refine ⟨fun aid _ _ aie aif aig _ _ _=>?_,?_⟩;obtain ⟨aid,rfl⟩:=ovE aie;have aih:=zpv (aif 22 _ _ rfl rfl);refine go ?_;exact dvE rfl aig erDl5;refine ⟨fun vg _ _ a6t vh aii _ _ _=>?_,?_⟩;obtain ⟨vg,rfl⟩:=ovE a6t;have aij:=zpv (vh 22 _ _ rfl rfl);have aik:=zpv (vh 23 _ _ rfl rfl);refine go ?_;exact dvE rfl aii erDl5;refine ⟨fun vi _ _ a6z vj ail _ _ _=>?_,?_⟩;obtain ⟨vi,rfl⟩:=ovE a6z;have aim:=zpv (vj 22 _ _ rfl rfl);have ain:=zpv (vj 24 _ _ rfl rfl);refine go ?_;exact dvE rfl ail erDl5;refine ⟨fun aio _ _ a65 aip aiq _ _ _=>?_,?_⟩;obtain ⟨aio,rfl⟩:=ovE a65;have air:=zpv (aip 25 _ _ rfl rfl);refine go ?_;exact dvE rfl aiq erDl5;refine ⟨fun ais _ _ ait aiu aiv _ _ _=>?_,?_⟩;obtain ⟨ais,rfl⟩:=ovE ait;have aiw:=zpv (aiu 26 _ _ rfl rfl);refine go ?_;exact dvE rfl aiv erDl5;refine ⟨fun vk _ _ a7g vl aix _ _ _=>?_,?_⟩;obtain ⟨vk,rfl⟩:=ovE a7g;have aiy:=zpv (vl 26 _ _ rfl rfl);have aiz:=zpv (vl 27 _ _ rfl rfl);refine go ?_;exact dvE rfl aix erDl5;refine ⟨fun vm _ _ a7m vn ai0 _ _ _=>?_,?_⟩;obtain ⟨vm,rfl⟩:=ovE a7m;have ai1:=zpv (vn 26 _ _ rfl rfl);have ai2:=zpv (vn 28 _ _ rfl rfl);refine go ?_;exact dvE rfl ai0 erDl5;refine ⟨fun ai3 _ _ a7s ai4 ai5 _ _ _=>?_,?_⟩;obtain ⟨ai3,rfl⟩:=ovE a7s
 have ai6:=zpv (ai4 29 _ _ rfl rfl);refine go ?_;exact dvE rfl ai5 erDl5;refine ⟨fun ai7 _ _ ai8 ai9 vo _ _ _=>?_,?_⟩;obtain ⟨ai7,rfl⟩:=ovE ai8;have aja:=zpv (ai9 30 _ _ rfl rfl);have ajb:=(be vo gc);refine go ?_;(try refine l_op (k_loadA (cs:=[S ((qR (-5) 2).1),S ((qR (-5) 2).2),S (qR 5 2).1,S (qR 5 2).2]) (b:=uf.heap.size) (o:=0) U1032 rfl sz1032 rfl (Blk.cells ajb (i:=0) rfl) ?_));refine go ?_;exact dvE rfl vo erDl5;refine ⟨fun ajc _ _ a77 ajd vq _ _ _=>?_,?_⟩;obtain ⟨ajc,rfl⟩:=ovE a77;have aje:=zpv (ajd 30 _ _ rfl rfl);refine go ?_;refine clb en2014 (hc:=l16of_ok dc dc) (hk:=?_);rintro _ _ vt rfl;refine go ?_;exact dvE rfl vq vt.2;refine ⟨fun ajf _ _ a8f ajg vu _ _ _=>?_,?_⟩;obtain ⟨ajf,rfl⟩:=ovE a8f;have ajh:=zpv (ajg 30 _ _ rfl rfl);refine go ?_;refine clb en2014 (hc:=l16of_ok dc dc) (hk:=?_);rintro _ _ vx rfl;refine go ?_;exact dvE rfl vu vx.2;refine ⟨fun mg _ _ a8n mh aji _ _ _=>?_,?_⟩;obtain ⟨mg,rfl⟩:=ovE a8n;have ajj:=zpv (mh 30 _ _ rfl rfl);have ajk:=zpv (mh 32 _ _ rfl rfl);have ajl:=zpv (mh 33 _ _ rfl rfl);refine go ?_;refine l_op (k_build (vs:=[(0,.agg #[S ((qR (-5) 2).1),S ((qR (-5) 2).2)]),(1,.agg #[S (qR 5 2).1,S (qR 5 2).2])]) (cells:=#[S ((qR (-5) 2).1),S ((qR (-5) 2).2),S (qR 5 2).1,S (qR 5 2).2]) (pl:=[(0,2),(2,2)]) U1032 inf1032 krDl5 (cons_eqp ajk (cons_eqp ajl rfl)) krDl5 ?_)
 refine go ?_;exact dvE rfl aji erDl5;refine ⟨fun mi _ _ a8t mj ajm _ _ _=>?_,?_⟩;obtain ⟨mi,rfl⟩:=ovE a8t;have ajn:=zpv (mj 30 _ _ rfl rfl);have ajo:=zpv (mj 31 _ _ rfl rfl);have ajp:=zpv (mj 34 _ _ rfl rfl);refine go ?_;refine l_op (k_eqlI (a:=(qR (-5) 2,qR 5 2)) (b:=(qR (-5) 2,qR 5 2)) (q:=true) ajo ajp (decide_eq_true rfl) ?_);refine go ?_;exact dvE rfl ajm erDl5;refine ⟨fun vy _ _ a8z vz ajq _ _ _=>?_,?_⟩;obtain ⟨vy,rfl⟩:=ovE a8z;have ajr:=zpv (vz 30 _ _ rfl rfl);have ajs:=zpv (vz 35 _ _ rfl rfl);refine go ?_;exact dvE rfl ajq erDl5;refine ⟨fun ajt _ _ a86 aju ajv _ _ _=>?_,?_⟩;obtain ⟨ajt,rfl⟩:=ovE a86;have ajw:=zpv (aju 36 _ _ rfl rfl);refine go ?_;exact dvE rfl ajv erDl5;refine ⟨fun ajx _ _ ajy ajz v8 _ _ _=>?_,?_⟩;obtain ⟨ajx,rfl⟩:=ovE ajy;have aj0:=zpv (ajz 37 _ _ rfl rfl);have aj1:=(be v8 fg);refine go ?_;refine l_op (k_loadA (cs:=[.int .i64 1,S ((qR (-2) 1).1),S ((qR (-2) 1).2),S (qR 2 1).1,S (qR 2 1).2,S (qR 0 1).1,S (qR 0 1).2,S (qR 1 20).1,S (qR 1 20).2]) (b:=g7.heap.size) (o:=0) U2027 rfl sz2027 rfl (Blk.cells aj1 (i:=0) rfl) ?_);refine go ?_;exact dvE rfl v8 erDl5;refine ⟨fun wc _ _ a9h wd we _ _ _=>?_,?_⟩;obtain ⟨wc,rfl⟩:=ovE a9h;have aj2:=zpv (wd 37 _ _ rfl rfl);have aj3:=zpv (wd 38 _ _ rfl rfl);have ml:=xt co we;refine go ?_;refine cl en2024 ((hV1 _ (ht.ext ml))) ?_ (cons_eq aj3 rfl)
 rintro _ _ wg rfl;refine go ?_;exact dvE rfl we wg.2;refine ⟨fun wh _ _ a9p wi aj4 _ _ _=>?_,?_⟩;obtain ⟨wh,rfl⟩:=ovE a9p;have aj5:=zpv (wi 37 _ _ rfl rfl);have aj6:=zpv (wi 39 _ _ rfl rfl);refine go ?_;exact dvE rfl aj4 erDl5;refine ⟨fun aj7 _ _ a9v aj8 aj9 _ _ _=>?_,?_⟩;obtain ⟨aj7,rfl⟩:=ovE a9v;have aka:=zpv (aj8 40 _ _ rfl rfl);refine go ?_;exact dvE rfl aj9 erDl5;refine ⟨fun akb _ _ a91 akc akd _ _ _=>?_,?_⟩;obtain ⟨akb,rfl⟩:=ovE a91;have ake:=zpv (akc 41 _ _ rfl rfl);refine go ?_;refine l_op (k_build (vs:=[]) (cells:=#[.int .i64 0,S ([]),S ([]),S ([]),S ([]),S ([]),S ([]),S ([]),S ([])]) (pl:=[(0,1),(1,2),(3,2),(5,2),(7,2)]) U2027 inf2027 krDl5 rfl krDl5 ?_);refine go ?_;exact dvE rfl akd erDl5;refine ⟨fun wj _ _ a97 wk wl _ _ _=>?_,?_⟩;obtain ⟨wj,rfl⟩:=ovE a97;have akf:=zpv (wk 41 _ _ rfl rfl);have akg:=zpv (wk 42 _ _ rfl rfl);have mo:=xt co wl;refine go ?_;refine cl en2024 ((hV2 _ (ht.ext mo))) ?_ (cons_eq akg rfl);rintro _ _ wm rfl;refine go ?_;exact dvE rfl wl wm.2;refine ⟨fun wn _ _ bag wo akh _ _ _=>?_,?_⟩;obtain ⟨wn,rfl⟩:=ovE bag;have aki:=zpv (wo 41 _ _ rfl rfl);have akj:=zpv (wo 43 _ _ rfl rfl);refine go ?_;exact dvE rfl akh erDl5;refine ⟨fun wp _ _ bam ws akk _ _ _=>?_,?_⟩;obtain ⟨wp,rfl⟩:=ovE bam;have akl:=zpv (ws 41 _ _ rfl rfl);have akm:=zpv (ws 44 _ _ rfl rfl)
 refine go ?_;exact dvE rfl akk erDl5;refine ⟨fun akn _ _ bas ako akp _ _ _=>?_,?_⟩;obtain ⟨akn,rfl⟩:=ovE bas;have akq:=zpv (ako 45 _ _ rfl rfl);refine go ?_;exact dvE rfl akp erDl5;refine ⟨fun akr _ _ aks akt wt _ _ _=>?_,?_⟩;obtain ⟨akr,rfl⟩:=ovE aks;have aku:=zpv (akt 46 _ _ rfl rfl);have akv:=(be wt fg);refine go ?_;refine l_op (k_loadA (cs:=[.int .i64 1,S ((qR (-2) 1).1),S ((qR (-2) 1).2),S (qR 2 1).1,S (qR 2 1).2,S (qR 0 1).1,S (qR 0 1).2,S (qR 1 20).1,S (qR 1 20).2]) (b:=g7.heap.size) (o:=0) U2027 rfl sz2027 rfl (Blk.cells akv (i:=0) rfl) ?_);refine go ?_;exact dvE rfl wt erDl5;refine ⟨fun akw _ _ ba3 akx wu _ _ _=>?_,?_⟩;obtain ⟨akw,rfl⟩:=ovE ba3;have aky:=zpv (akx 46 _ _ rfl rfl);refine go ?_;refine clb en2014 (hc:=l16of_ok dc dc) (hk:=?_);rintro _ _ ww rfl;refine go ?_;exact dvE rfl wu ww.2;refine ⟨fun akz _ _ bbb ak0 wx _ _ _=>?_,?_⟩;obtain ⟨akz,rfl⟩:=ovE bbb;have ak1:=zpv (ak0 46 _ _ rfl rfl);refine go ?_;refine clb en2014 (hc:=l16of_ok dc dc) (hk:=?_);rintro _ _ xc rfl;refine go ?_;exact dvE rfl wx xc.2;refine ⟨fun jg _ _ bbj jh xd _ _ _=>?_,?_⟩;obtain ⟨jg,rfl⟩:=ovE bbj;have ak2:=zpv (jh 46 _ _ rfl rfl);have ak3:=zpv (jh 47 _ _ rfl rfl);have ak4:=zpv (jh 48 _ _ rfl rfl);have ak5:=zpv (jh 49 _ _ rfl rfl);have mu:=xt co xd;refine go ?_;refine cl en2012 ((hS1 _ (ht.ext mu))) ?_ (cons_eq ak3 (cons_eq rfl (cons_eq ak4 (cons_eq ak5 (cons_eq rfl rfl)))))
 rintro _ _ xe rfl;refine go ?_;exact dvE rfl xd xe.2;refine ⟨fun xf _ _ bbr xg ak6 _ _ _=>?_,?_⟩;obtain ⟨xf,rfl⟩:=ovE bbr;have ak7:=zpv (xg 46 _ _ rfl rfl);have ak8:=zpv (xg 50 _ _ rfl rfl);refine go ?_;exact dvE rfl ak6 erDl5;refine ⟨fun ak9 _ _ bbx ala alb _ _ _=>?_,?_⟩;obtain ⟨ak9,rfl⟩:=ovE bbx;have alc:=zpv (ala 51 _ _ rfl rfl);refine go ?_;exact dvE rfl alb erDl5;refine ⟨fun ald _ _ ale alf xh _ _ _=>?_,?_⟩;obtain ⟨ald,rfl⟩:=ovE ale;have alg:=zpv (alf 52 _ _ rfl rfl);have alh:=(be xh fg);refine go ?_;refine l_op (k_loadA (cs:=[.int .i64 1,S ((qR (-2) 1).1),S ((qR (-2) 1).2),S (qR 2 1).1,S (qR 2 1).2,S (qR 0 1).1,S (qR 0 1).2,S (qR 1 20).1,S (qR 1 20).2]) (b:=g7.heap.size) (o:=0) U2027 rfl sz2027 rfl (Blk.cells alh (i:=0) rfl) ?_);refine go ?_;exact dvE rfl xh erDl5;refine ⟨fun ali _ _ bb8 alj xi _ _ _=>?_,?_⟩;obtain ⟨ali,rfl⟩:=ovE bb8;have alk:=zpv (alj 52 _ _ rfl rfl);refine go ?_;refine clb en2014 (hc:=l16of_ok dc dc) (hk:=?_);rintro _ _ xk rfl;refine go ?_;exact dvE rfl xi xk.2;refine ⟨fun alm _ _ bcg aln xl _ _ _=>?_,?_⟩;obtain ⟨alm,rfl⟩:=ovE bcg;have alo:=zpv (aln 52 _ _ rfl rfl);refine go ?_;refine clb en2014 (hc:=l16of_ok dc dc) (hk:=?_);rintro _ _ xn rfl;refine go ?_;exact dvE rfl xl xn.2;exact trivial;intro ji _ _ _ bcp jj gh;obtain ⟨ji,rfl⟩:=ovE bcp
 have mv:=(be gh fg);have bcq:=bt mv;have mw:=(be gh fj);have bcr:=bt mw;have mx:=(be gh fk);have bcs:=bt mx;have my:=(be gh fh);have bct:=bt my;have mz:=(be gh fm);have bcu:=bt mz;have m5:=(be gh fo);have bcv:=bt m5;have m6:=(be gh fp);have bcw:=bt m6;have m7:=(be gh fq);have bcx:=bt m7;have m8:=(be gh fw);have bcy:=bt m8;have m9:=(be gh gc);have bcz:=bt m9;have nc:=(be gh afh);have bc0:=bt nc;have iy:=xt co gh;have bc1:=bz iy;have bc2:=bz gh;with_reducible refine l_drop rfl ?_
 have nd:=zpv (jj 52 _ _ rfl rfl);refine go ?_;have alp:=zpv (jj 53 _ _ rfl rfl);have alq:=zpv (jj 54 _ _ rfl rfl);have alr:=zpv (jj 55 _ _ rfl rfl);refine cl en2012 ((hS2 _ (ht.ext iy))) ?_ (cons_eq alp (cons_eq rfl (cons_eq alq (cons_eq alr (cons_eq rfl rfl)))));rintro _ _ gl rfl;have iy:=xt iy gl.2;refine go ?_;exact f_ret1 (t:=0) (v:=.bool true) rfl iy rfl rfl
set_option maxRecDepth 100000 in
theorem validZ_ok {w:World} :
    Calls Tryz.prog 24 #[.agg #[.int .i64 0,S ([]),S ([]),S ([]),S ([]),S ([]),S ([]),S ([]),S ([])]] w (Ret w fun v w'=>v=.bool false):=by
 refine f_in Tryz.func24 rfl ?_;refine go ?_;refine bx (fun _ co _=>?_);have fg:=co.2;refine go ?_;refine l_op (k_fieldAddr (b:=w.heap.size) (o:=0) (off:=0) (oo:=0) U2027 rfl rfl sz3 rfl rfl ?_);refine go ?_;exact f_ret1 (t:=2) (v:=.bool false) rfl fg rfl rfl
end Go.Proofs.YtonigegpknhdnaaGreatDoor
namespace Go.Proofs.YtonigegpknhdnaaGreatDoor
open Go Go.Eng Go.RowKit
theorem pl_of {y:Int}(hy:In64 y) : ∃ pl:Nat,1+pickI y 8=((pl:Nat) : Int)∧1≤pl∧pl≤8:=by
  have:=pick_bd y 8 dc
  exact ⟨(1+pickI y 8).toNat,by omega,by omega,by omega⟩
structure MkP (kd:Nat) (L W G gd R q S D:Int) : Prop where
  k1:1≤kd
  k3:kd≤3
  l1 : -20≤L
  l2:L≤20
  w1:1≤W
  w2:W≤40
  g0:0≤G
  g2:2*G≤W
  gk:(kd=1∧G=0∧gd=1) ∨ (kd≠1∧gd=10)
  r0:0≤R
  r1:R≤100
  q1:100≤q
  q2:q≤900
  s1:1≤S
  s2:S≤30
  d1 : -10≤D
  d2:D≤50
theorem wd_bd {W D:Int}(h1:1≤W)(h2:W≤40) (h3 : -50≤D)(h4:D≤50) : -2000≤W*D∧W*D≤2000:=by
  have a1:W*D≤W*50:=Int.mul_le_mul_of_nonneg_left h4 om
  have a2:W*(-50)≤W*D:=Int.mul_le_mul_of_nonneg_left h3 om
  omega
theorem make_c {x0 x1 x2 x3 x4 x5 x6:Int}(hx0:In64 x0)(hx1:In64 x1)(hx2:In64 x2)(hx3:In64 x3)(hx4:In64 x4)(hx5:In64 x5)(hx6:In64 x6) :
    ∃ (kd:Nat) (L W G gd R q S D:Int),MkP kd L W G gd R q S D∧∀ w:World,Calls Tryz.prog 9 #[.agg #[.int .i64 x0,.int .i64 x1,.int .i64 x2,.int .i64 x3,.int .i64 x4,.int .i64 x5,.int .i64 x6]] w (Ret w fun v _=>v=CasV kd L 10 (L+W) 10 G gd R q (L*40+W*D) 400 S 20):=by
  have b0:=pick_bd x0 3 dc
  have b1:=pick_bd x1 41 dc
  have b2:=pick_bd x2 40 dc
  have b4:=pick_bd x4 101 dc
  have b6:=pick_bd x5 30 dc
  have b7:=pick_bd x6 61 dc
  obtain ⟨q2,hq2⟩ : ∃ q2,(1+pickI x2 40).tdiv 2=q2:=⟨_,rfl⟩
  have c2:q2=(1+pickI x2 40) / 2:=by rw [← hq2,Int.tdiv_eq_ediv_of_nonneg om]
  have b3:=pick_bd x3 (1+q2) om
  obtain ⟨q4,hq4⟩ : ∃ q4,x4.tdiv 101=q4:=⟨_,rfl⟩
  have c4:In64 q4:=by
    rw [← hq4]
    unfold In64 at *
    have h2:(x4.tdiv 101).natAbs=x4.natAbs / 101:=Int.natAbs_tdiv x4 101
    omega
  have b5:=pick_bd q4 3 dc
  obtain ⟨kd,hkd⟩ : ∃ kd:Nat,1+pickI x0 3=((kd:Nat) : Int):=⟨(1+pickI x0 3).toNat,by omega⟩
  have hwd:=wd_bd (W:=1+pickI x2 40) (D:=pickI x6 61 - 10) om om om om
  have key : ∀ gn gd : Int, (pickI x0 3 = 0 → qR 0 1 = qR gn gd) → (pickI x0 3 ≠ 0 → qR (pickI x3 (1 + q2)) 10 = qR gn gd) → ∀ w : World, Calls Tryz.prog 9 #[.agg #[.int .i64 x0, .int .i64 x1, .int .i64 x2, .int .i64 x3, .int .i64 x4, .int .i64 x5, .int .i64 x6]] w (Ret w fun v _ => v = CasV kd (pickI x1 41 - 20) 10 (pickI x1 41 - 20 + (1 + pickI x2 40)) 10 gn gd (pickI x4 101) (100 + 400 * pickI q4 3) ((pickI x1 41 - 20) * 40 + (1 + pickI x2 40) * (pickI x6 61 - 10)) 400 (1 + pickI x5 30) 20) := by
    intro gn gd h1 h2 w
    have h := make16_ok (w := w) (ha := pickI x1 41 - 20 + (1 + pickI x2 40)) (hb := 10) (ma := (1 + pickI x2 40) * (pickI x6 61 - 10)) (mb := 10 * 40) (va := (pickI x1 41 - 20) * 40 + (1 + pickI x2 40) * (pickI x6 61 - 10)) (vb := 400) hx0 hx1 hx2 hx3 hx4 hx5 hx6 rfl rfl rfl rfl rfl rfl rfl rfl hq2 hq4 c4 b0 b1 b2 om b4 b5 b6 b7 om
      (q9_12 om dc dc) (q9_12 om dc dc) (q9_12 om dc dc) (q9_12 om dc dc) (qR_congr dc dc om) (mulR_q (q9_12 om dc dc) (q9_12 om dc dc))
      (qR_congr dc dc om) h1 h2
    rw [hkd] at h
    exact h
  by_cases h0:pickI x0 3=0
  · exact ⟨kd,_,_,0,1,_,_,_,_,⟨by omega,by omega,by omega,by omega,by omega,by omega,by omega,by omega,.inl ⟨by omega,rfl,rfl⟩,b4.1,by omega,by omega,by omega,by omega,by omega,by omega,by omega⟩,key 0 1 (fun _=>rfl) (fun h=>absurd h0 h)⟩
  · exact ⟨kd,_,_,_,10,_,_,_,_,⟨by omega,by omega,by omega,by omega,by omega,by omega,b3.1,by omega,.inr ⟨by omega,rfl⟩,b4.1,by omega,by omega,by omega,by omega,by omega,by omega,by omega⟩,key _ 10 (fun h=>absurd h h0) (fun _=>rfl)⟩
section
variable {kd : Nat} {L W G gd R q S D : Int}
theorem sz_ {a b:Int}(h1 : -1000000≤a∧a≤1000000)(h2:0<b)(h3:b≤1000000) : Sz a b:=⟨by omega,h2,by omega⟩
theorem MkP.rl (m:MkP kd L W G gd R q S D) : ∃ xa xb ya yb,Rl kd L 10 (L+W) 10 G gd R q xa xb ya yb∧xa*yb≤ya*xb:=by
  obtain ⟨k1,k3,_,_,_,_,g0,_,_,r0,_,_,_,_,_,_,_⟩:=m
  have hl:Sz L 10:=sz_ om dc dc
  have hh:Sz (L+W) 10:=sz_ om dc dc
  have hr:Sz R q:=sz_ om om om
  have hg:Sz G gd:=sz_ om om om
  rcases (by omega:kd=1 ∨ kd=2 ∨ kd=3) with rfl | rfl | rfl
  · exact ⟨_,_,_,_,⟨k1,k3,hl,hh,hg,hr,g0,fun _=>by omega,r0,by omega,by omega,.inl ⟨rfl,rfl,rfl,rfl,rfl⟩⟩,by omega⟩
  · obtain rfl : gd = 10 := by omega
    exact ⟨_,_,_,_,⟨k1,k3,hl,hh,hg,hr,g0,fun h=>by omega,r0,by omega,by omega,.inr (.inl ⟨rfl,rfl,rfl,rfl,rfl⟩)⟩,by omega⟩
  · obtain rfl : gd = 10 := by omega
    exact ⟨_,_,_,_,⟨k1,k3,hl,hh,hg,hr,g0,fun h=>by omega,r0,by omega,by omega,.inr (.inr ⟨rfl,rfl,rfl,rfl,rfl⟩)⟩,by omega⟩
theorem MkP.vs (m:MkP kd L W G gd R q S D) : Sz (L*40+W*D) 400∧Sz S 20∧0<S:=by
  obtain ⟨_,_,_,_,w1,w2,_,_,_,_,_,_,_,_,_,_,d2⟩:=m
  have hwd:=wd_bd w1 w2 (show -50≤D by omega) d2
  exact ⟨sz_ om dc dc,sz_ om dc dc,by omega⟩
end
theorem shAll_int {W D s:Int}(w1:1≤W)(w40:W≤40) (d1 : -50≤D)(d50:D≤50)(s1:1≤s)(s30:s≤30) :
    ∃ n d:Int,0<d∧d≤600∧-2000≤n∧n≤2000∧n*(20*s)=W*D*d∧(0<n ↔ 0<D)∧ShAll n d:=by
  obtain ⟨W',rfl⟩ : ∃ W' : Nat,W=W':=⟨W.toNat,by omega⟩
  obtain ⟨s',rfl⟩ : ∃ s' : Nat,s=s':=⟨s.toNat,by omega⟩
  by_cases h:0≤D
  · obtain ⟨D', rfl⟩ : ∃ D' : Nat, D = D' := ⟨D.toNat, by omega⟩
    obtain ⟨n,d,h1,h2,h3,h4,h5,h6,_⟩:=shAll_frac dt_all (W:=W') (D:=D') (s:=s') om om om om om
    exact ⟨n,d,by omega,by omega,by omega,by omega,by have:=congrArg Int.ofNat h4; simpa using this,by omega,h6⟩
  · obtain ⟨D', rfl⟩ : ∃ D' : Nat, D = -(D' : Int) := ⟨(-D).toNat, by omega⟩
    obtain ⟨n,d,h1,h2,h3,h4,h5,_,h6⟩:=shAll_frac dt_all (W:=W') (D:=D') (s:=s') om om om om om
    refine ⟨-(n:Int),d,by omega,by omega,by omega,by omega,?_,by omega,h6⟩
    have:((n*(20*s') : Nat) : Int)=((W'*D'*d:Nat) : Int):=congrArg Int.ofNat h4
    simp only [Int.natCast_mul] at this
    have e:((20:Nat) : Int)=20:=rfl
    rw [e] at this
    rw [Int.neg_mul,this,Int.mul_neg,Int.neg_mul]
section
variable {kd : Nat} {L W G gd R q S D : Int}
theorem MkP.out (m:MkP kd L W G gd R q S D) : ∃ n1 e1 n2 e2,OutA n1 e1 n2 e2∧Sz n1 e1∧Sz n2 e2∧n1*(20*S) = -(W*D)*e1∧n2*(20*S)=(W*D - 40*W)*e2:=by
  obtain ⟨_,_,_,_,w1,w2,_,_,_,_,_,_,_,s1,s2,_,_⟩:=m
  obtain ⟨n1,e1,a1,_,_,_,a5,_,a7⟩:=shAll_int (W:=W) (D:=-D) (s:=S) w1 w2 om om s1 s2
  obtain ⟨n2,e2,b1,_,_,_,b5,_,b7⟩:=shAll_int (W:=W) (D:=D - 40) (s:=S) w1 w2 om om s1 s2
  have z1:Sz n1 e1:=sz_ om a1 om
  have z2:Sz n2 e2:=sz_ om b1 om
  exact ⟨n1,e1,n2,e2,outA_of z1 z2 a7 b7,z1,z2,by rw [a5,Int.mul_neg],by rw [b5,Int.mul_sub,Int.mul_comm W 40]⟩
end
theorem sh_ex {pl u f c:Nat}{n d:Int}(hd:0<d)(e:n*1000000=u*d)(h0:0<u)(h8:u<8000000)(h:Cel pl u f c) : Sh pl n d f c∧Sh pl (-n) d (tenI pl - c) (tenI pl - f):=by
  have hT:((10 ^ pl:Nat) : Int)=tenI pl:=rfl
  have hn0:0<n:=by
    rcases Int.lt_or_le 0 n with x | x
    · exact x
    · have:=Int.mul_pos (show (0:Int)<u by omega) hd; omega
  have hn8:n<8*d:=by
    have:(u:Int)*d<8000000*d:=Int.mul_lt_mul_of_pos_right om hd
    omega
  have c1:clp n d=(n,d):=by unfold clp; rw [if_pos om,if_pos om]
  have c2:clp (-n) d=(-n,d):=by unfold clp; rw [if_pos om,if_pos om]
  have e1:flI n d (tenI 6)=u∧clI n d (tenI 6)=u:=by
    unfold flI clI
    rw [ten6,e,Int.mul_ediv_cancel _ om,Int.mul_emod_left,if_pos rfl]; exact ⟨rfl,rfl⟩
  have hle:=h.le
  have h3:=h.2.2.1
  have h4:=h.2.2.2
  constructor
  · refine ⟨f, c, ?_, ?_, by omega, by omega, by omega⟩
    · rw [c1]; simp only; rw [e1.1]; exact h.nmc h0 h8
    · rw [c1]; simp only; rw [e1.2]; exact h.nmc h0 h8
  · refine ⟨tenI pl - c, tenI pl - f, ?_, ?_, by omega, by omega, by omega⟩
    · rw [c2]; simp only; rw [flI_neg hd,e1.2]; exact h.nmn h0 h8
    · rw [c2]; simp only; rw [clI_neg hd,e1.1]; exact h.nmn h0 h8
def oneK (ck:Nat→Nat→(Nat→Nat→Bool)→Bool) (T n d F C:Nat) : Bool:=ck n d fun f c=>and (and (Nat.beq f F) (Nat.beq c C)) (and (Nat.ble T (Nat.mul 2 F)) (Nat.ble C T))
theorem oneK_ok {pl u n d T F C:Nat}{ck:Nat→Nat→(Nat→Nat→Bool)→Bool}(hc:CkR pl ck)(hT:T=10 ^ pl)(en:u / Nat.gcd u 1000000=n)(ed:1000000 / Nat.gcd u 1000000=d)(hn:0<n)(hd:0<d)(h:oneK ck T n d F C=true) : Cel pl u F C:=by
  obtain ⟨f,c,hP,hk⟩:=hc n d _ hn hd h
  simp only [Bool.and_eq_true,Nat.ble_eq] at hk
  obtain ⟨⟨h1,h2⟩,h3,h4⟩:=hk
  have h1:=Nat.eq_of_beq_eq_true h1
  have h2:=Nat.eq_of_beq_eq_true h2
  subst h1 h2 en ed hT
  obtain ⟨r1,r2⟩:=posR_cel dc hP
  exact ⟨r1,r2,h3,h4⟩
theorem ce1:Cel 4 2000000 9772 9773:=oneK_ok (T:=10000) (n:=2) (d:=1) nmo4 dc (by decide +kernel) (by decide +kernel) dc dc (by decide +kernel)
theorem ce2:Cel 4 2500000 9937 9938:=oneK_ok (T:=10000) (n:=5) (d:=2) nmo4 dc (by decide +kernel) (by decide +kernel) dc dc (by decide +kernel)
theorem ce3:Cel 4 1500000 9331 9332:=oneK_ok (T:=10000) (n:=3) (d:=2) nmo4 dc (by decide +kernel) (by decide +kernel) dc dc (by decide +kernel)
theorem ce4:Cel 4 4500000 9999 10000:=oneK_ok (T:=10000) (n:=9) (d:=2) nmo4 dc (by decide +kernel) (by decide +kernel) dc dc (by decide +kernel)
theorem ce5:Cel 4 500000 6914 6915:=oneK_ok (T:=10000) (n:=1) (d:=2) nmo4 dc (by decide +kernel) (by decide +kernel) dc dc (by decide +kernel)
theorem ce6:Cel 4 3500000 9997 9998:=oneK_ok (T:=10000) (n:=7) (d:=2) nmo4 dc (by decide +kernel) (by decide +kernel) dc dc (by decide +kernel)
theorem ce7:Cel 3 2000000 977 978:=oneK_ok (T:=1000) (n:=2) (d:=1) nmo3 dc (by decide +kernel) (by decide +kernel) dc dc (by decide +kernel)
theorem ce8:Cel 8 2000000 97724986 97724987:=oneK_ok (T:=100000000) (n:=2) (d:=1) nmo8 dc (by decide +kernel) (by decide +kernel) dc dc (by decide +kernel)
theorem szd {a b:Int}(h:(decide (-1000000≤a) && decide (a≤1000000) && decide (0<b) && decide (b≤1000000))=true) : Sz a b:=by
  simp only [Bool.and_eq_true,decide_eq_true_eq] at h
  exact ⟨by omega,h.1.2,by omega⟩
theorem out_ex {pl:Nat}{n1 d1 n2 d2 f1 c1 f2 c2 va vb:Int}(p1:1≤pl)(p12:pl≤12)(z1:Sz n1 d1)(z2:Sz n2 d2)(h1:Sh pl n1 d1 f1 c1)(h2:Sh pl n2 d2 f2 c2)(v:Sz va vb)(e1:((-2)*vb - va*1)*1*d1=n1*(1*vb*1))(e2:(va*1 - 2*vb)*1*d2=n2*(vb*1*1)) :
    OutC pl va vb 1 1 (-2) 1 2 1 (min (f1+f2) (tenI pl)) (min (c1+c2) (tenI pl)):=
  outN_of p1 p12 z1 z2 h1 h2 va vb 1 1 (-2) 1 2 1 v (szd dc) dc (szd dc) (szd dc) dc e1 e2
theorem rl1:Rl 1 (-2) 1 2 1 0 1 1 20 (-2) 1 2 1:=⟨by decide,by decide,szd dc,szd dc,szd dc,szd dc,by decide,by decide,by decide,by decide,by decide,.inl dc⟩
theorem rl2:Rl 2 (-2) 1 2 1 1 1 1 20 (-1) 1 1 1:=⟨by decide,by decide,szd dc,szd dc,szd dc,szd dc,by decide,by decide,by decide,by decide,by decide,.inr (.inl dc)⟩
theorem rl3:Rl 1 (-2) 1 2 1 0 1 455 10000 (-2) 1 2 1:=⟨by decide,by decide,szd dc,szd dc,szd dc,szd dc,by decide,by decide,by decide,by decide,by decide,.inl dc⟩
theorem rl4:Rl 3 (-2) 1 2 1 1 2 1 20 (-5) 2 5 2:=⟨by decide,by decide,szd dc,szd dc,szd dc,szd dc,by decide,by decide,by decide,by decide,by decide,.inr (.inr dc)⟩
theorem rl5:Rl 2 (-2) 1 2 1 3 1 1 20 1 1 (-1) 1:=⟨by decide,by decide,szd dc,szd dc,szd dc,szd dc,by decide,by decide,by decide,by decide,by decide,.inr (.inl dc)⟩
theorem oc1:OutC 4 0 1 1 1 (-2) 1 2 1 454 456:=out_ex (n1:=-2) (d1:=1) (n2:=-2) (d2:=1) dc dc (szd dc) (szd dc) (sh_ex (n:=2) dc dc dc dc ce1).2 (sh_ex (n:=2) dc dc dc dc ce1).2 (szd dc) dc dc
theorem oc2:OutC 4 1 2 1 1 (-2) 1 2 1 730 732:=out_ex (n1:=-5) (d1:=2) (n2:=-3) (d2:=2) dc dc (szd dc) (szd dc) (sh_ex (n:=5) dc dc dc dc ce2).2 (sh_ex (n:=3) dc dc dc dc ce3).2 (szd dc) dc dc
theorem oc3:OutC 4 5 2 1 1 (-2) 1 2 1 6914 6916:=out_ex (n1:=-9) (d1:=2) (n2:=1) (d2:=2) dc dc (szd dc) (szd dc) (sh_ex (n:=9) dc dc dc dc ce4).2 (sh_ex (n:=1) dc dc dc dc ce5).1 (szd dc) dc dc
theorem oc4:OutC 4 3 2 1 1 (-2) 1 2 1 3087 3089:=out_ex (n1:=-7) (d1:=2) (n2:=-1) (d2:=2) dc dc (szd dc) (szd dc) (sh_ex (n:=7) dc dc dc dc ce6).2 (sh_ex (n:=1) dc dc dc dc ce5).2 (szd dc) dc dc
theorem oc5:OutC 3 0 1 1 1 (-2) 1 2 1 44 46:=out_ex (n1:=-2) (d1:=1) (n2:=-2) (d2:=1) dc dc (szd dc) (szd dc) (sh_ex (n:=2) dc dc dc dc ce7).2 (sh_ex (n:=2) dc dc dc dc ce7).2 (szd dc) dc dc
theorem oc6:OutC 8 0 1 1 1 (-2) 1 2 1 4550026 4550028:=out_ex (n1:=-2) (d1:=1) (n2:=-2) (d2:=1) dc dc (szd dc) (szd dc) (sh_ex (n:=2) dc dc dc dc ce8).2 (sh_ex (n:=2) dc dc dc dc ce8).2 (szd dc) dc dc
theorem sane_c {w : World} (ht : Tb w) : Calls Tryz.prog 8 #[] w (Ret w fun v _ => v = .bool true) :=
  sane16_ok (ka1:=454) (kb1:=tenI 4) (ua1:=456) (ub1:=tenI 4) (ka2:=730) (kb2:=tenI 4) (ua2:=732) (ub2:=tenI 4) (ka3:=6914) (kb3:=tenI 4) (ua3:=6916) (ub3:=tenI 4) (ka4:=3087) (kb4:=tenI 4) (ua4:=3089) (ub4:=tenI 4) (ka5:=44) (kb5:=tenI 3) (ua5:=46) (ub5:=tenI 3) (ka6:=4550026) (kb6:=tenI 8) (ua6:=4550028) (ub6:=tenI 8)
    (fun W hW=>decide_c rl1 dc (szd dc) dc oc1 hW) (fun W hW=>decide_c rl1 dc (szd dc) dc oc2 hW) (fun W hW=>decide_c rl1 dc (szd dc) dc oc3 hW)
    (fun W hW=>decide_c rl2 dc (szd dc) dc oc4 hW) (fun W hW=>decide_c rl3 dc (szd dc) dc oc5 hW) (fun W hW=>decide_c rl3 dc (szd dc) dc oc6 hW)
    (fun W hW=>rl4.accept dc hW) (fun W hW=>rl5.acceptF dc hW) (fun W hW=>contains_in (q9_cell dc dc) (q9_cell dc dc) (q9_12 dc dc dc) dc hW)
    (fun W hW=>rl1.valid hW) (fun W _=>validZ_ok) (fun W hW=>sound_c rl1 dc (szd dc) dc oc1 hW) (fun W hW=>sound_c rl1 dc (szd dc) dc oc1 hW) ht
section
variable {P : Program} {r : Option Nat} {n : Nat} {Q : Exit → Act → World → Prop} {a : Act} {w : World} {c : Code}
theorem c_rs (m:Nat)(h:c.wpIn (Fw r) n P (Exit.then (Code.roundsIn (Fw r) n P c Q m) Q) a w) : (Code.loop c).wpIn (Fw r) n P Q a w:=wpIn_loop_rounds (m+1) h
theorem c_rn {m:Nat}(h:c.wpIn (Fw r) n P (Exit.then (Code.roundsIn (Fw r) n P c Q m) Q) a w) : Code.roundsIn (Fw r) n P c Q (m+1) a w:=h
end
section
variable {P : Program} {r : Option Nat} {n N : Nat} {e : Nat → Value} {ds : List Deferred} {w : World} {Q : Exit → Act → World → Prop} {K : Act → World → Prop} {t ty d : Nat} {pos : String} {af : Array Edge} {g : Option (Nat × Bool)} {x y : Operand}
theorem k_bsB {el:TypeId} {z:Value} {size bytes m:Nat} {parts:Array (Nat × Operand)} {vs:List (Nat × Value)} {cells:Array Value} (hu:P.underlying t=some (.slice el)) (hi:Inf P el z size bytes)
    (hp:(parts.toList.map fun (i,x)=>(i,ev N e x))=vs) (h24:m*size≤16777216) (hm:0<m*size)
    (hf:Instr.fill (fun i=>some (i*size,size)) ((Array.range (m*size)).map (z.cells[· % z.cells.size]!)) vs=some cells)
    (hk : ∀ w',(w'.heap.size=w.heap.size+1∧Ext w w')→Blk w' w.heap.size el cells→K (act N (upd e d (.slice (some ⟨w.heap.size,0,none⟩) m m)) ds) w') :
    Oper.wpIn (Fw r) n P ⟨some d,.buildSlice t m parts,ty,pos,af,g⟩ (act N e ds) w K Q:=by
  obtain ⟨i,i1,i2,i3,_⟩:=hi.parts
  subst i3
  refine k_val (v:=.slice (some ⟨w.heap.size,0,none⟩) m m) (w':=w.alloc (.cells cells el)) rfl ?_ (by
    rw [act_put]
    exact hk _ ⟨by simp,Ext.alloc _ _⟩ (heap_alloc_new w _))
  have hp' : (parts.map fun (i,x)=>(i,ev N e x)).toList=vs:=by rw [← hp]; simp
  subst hp'
  have h2:¬ m*i.size > 2 ^ 24:=by omega
  have h3:¬ (m*i.size=0):=by omega
  simp only [execOp,Instr.buildSlice,Sem.run_bind,run_underlying hu,Result.andThen_ok,sizeOf,typeInfo,run_program,i1,Sem.run_pure,zeroValue,i2,h2,if_false,h3,hf,newRow,run_newObj,World.alloc_eq]
theorem k_eqD {cs:Array Value} {m D:Nat} {l:List Lit} (hm:m≤100) (h1:P.keyTypeAt m t=true) (hg:P.eqGuardType P.depth t=false) (hf:(Value.agg cs).formed P t=true) (hl:P.keyLits D t (Value.agg cs).cells.toList=some l)
    (hx:ev N e x=.agg cs) (hy:ev N e y=.agg cs) {t' : TypeId} (hk:K (act N (upd e d (.bool true)) ds) w) : Oper.wpIn (Fw r) n P ⟨some d,.binOp .eql t x y t',ty,pos,af,g⟩ (act N e ds) w K Q:=by
  refine k_bin (v:=.bool true) hx hy ?_ ?_ hk
  · simp [eqGuard,hg]
  · obtain ⟨q, h2, h3⟩ := run_equalIn_deep (P := P) (10000 - m) m t h1 w D D (.agg cs) (.agg cs) l l hf hf hl hl
    rw [h3.2 rfl,show 10000 - m+m=10000 by omega] at h2
    simp only [binOp,Sem.run_bind,Op.equal,Op.maxDepth,h2,Result.andThen_ok,Sem.run_pure]
end
theorem lits4 {c0 c1 c2 c3:List UInt8}(h0:c0.length≤1000000)(h1:c1.length≤1000000)(h2:c2.length≤1000000)(h3:c3.length≤1000000) : Tryz.prog.keyLits 4 44 [S c0,S c1,S c2,S c3]=some [.string c0,.string c1,.string c2,.string c3]:=by
  have hs : ∀ c:List UInt8,c.length≤1000000→(ByteArray.mk c.toArray).size≤maxLen:=by intro c h; simp [ByteArray.size,maxLen]; omega
  have k9:Tryz.prog.cellsOf 9=1:=by kernel_rfl
  have k25:Tryz.prog.cellsOf 25=2:=by kernel_rfl
  have k44:Tryz.prog.cellsOf 44=4:=by kernel_rfl
  simp [Program.keyLits,Tryz.underlying44,Tryz.underlying25,Tryz.underlying9,k9,k25,k44,S,hs _ h0,hs _ h1,hs _ h2,hs _ h3]
  rw [if_pos dc,if_pos dc]
  rfl
end Go.Proofs.YtonigegpknhdnaaGreatDoor
namespace Go.Proofs.YtonigegpknhdnaaGreatDoor
open Go Go.Eng Go.RowKit
attribute [local irreducible] wpListIn Code.wpIn Oper.wpIn Exit.then Exit.inBlock Exit.noGoto
set_option maxHeartbeats 40000000
theorem en219m:Enters Tryz.prog 17:=enters_mk Tryz.func17 (by kernel_rfl) (by kernel_rfl)
theorem mul_specm (x1 x2 y1 y2:List UInt8) : resR (redW (dB (dB (ckB false [(x1,x2),(y1,y2)]) (mulI x1 y1)) (mulI x2 y2)) (dS (ckB false [(x1,x2),(y1,y2)]) (mulI x1 y1)) (dS (dB (ckB false [(x1,x2),(y1,y2)]) (mulI x1 y1)) (mulI x2 y2)))=resR (mulR (x1,x2) (y1,y2)):=by
  rw [ck_two,two_spec (okR (x1,x2) && okR (y1,y2)) (valZ x1*valZ y1) (valZ x2*valZ y2) (fun h=>mulI_ok (by rw [okR_1 (and_l h),okR_1 (and_r h)]; rfl)) (fun h=>mulI_ok (by rw [okR_2 (and_l h),okR_2 (and_r h)]; rfl))]
  rfl
set_option maxRecDepth 100000 in
theorem rMul_ok (x1 x2 y1 y2:List UInt8)(w:World)(ht:Tb w) :
    Calls Tryz.prog 17 #[.agg #[S x1,S x2],.agg #[S y1,S y2]] w (Ret w fun v w'=>v=resR (mulR (x1,x2) (y1,y2))):=by
 refine f_in Tryz.func17 rfl ?_;refine go ?_;refine bx (fun _ gj fe=>?_);have ht:=Tb.ext gj.2 ht;have co:=gj.2;refine bx (fun gl gi fg=>?_);have ht:=Tb.ext gi.2 ht;have ⟨fe,co⟩:=be1 gi.2 fe co;refine al inf36 (fun fj gc fh=>?_);have ht:=Tb.ext gc.2 ht;have ⟨fe,fg,co⟩:=be2 gc.2 fe fg co;refine go ?_;refine bx (fun gw f7 gh=>?_);have ht:=Tb.ext f7.2 ht;have ⟨fe,fg,fh,co⟩:=be3 f7.2 fe fg fh co;refine go ?_;refine BS2 (fun _ fk _ gy=>?_);have ht:=Tb.ext fk ht;have ⟨fe,fg,fh,gh,co⟩:=be4 fk fe fg fh gh co;have g9:=bz fk;refine l_op (k_callA (vs:=[.pointer (some ⟨fj.heap.size,0,none⟩),.slice (some ⟨gw.heap.size,0,none⟩) 2 2]) en223 rfl (check_ok (rs:=[(x1,x2),(y1,y2)]) gh ht (Rw.of_own gy) rfl om (fun _ e=>by cases e; simp; omega)) ?_);rintro _ _ ⟨fm,gm,rfl⟩;have ht:=Tb.gr fm gh dc ht;have fe:=Blk.gr fm (by simp; omega) fe;have fg:=Blk.gr fm (by simp; omega) fg;have fh:=Blk.gr fm (by simp; omega) fh;have co:=low_gr co fm (bz co) (fun g hgg=>by cases hgg; omega);have ie:=fm.size;refine go ?_;refine l_op (k_callA (vs:=[.pointer (some ⟨fj.heap.size,0,none⟩),S x1,S y1]) en224 rfl (mul_ok gm ht x1 y1) ?_);rintro _ _ ⟨fo,gp,rfl⟩;have ht:=Tb.gr fo gm dc ht;have fe:=Blk.gr fo (by simp; omega) fe;have fg:=Blk.gr fo (by simp; omega) fg;have fh:=Blk.gr fo (by simp; omega) fh;have co:=low_gr co fo (bz co) (fun g hgg=>by cases hgg; omega);have ij:=fo.size;refine go ?_
 refine l_op (k_callA (vs:=[.pointer (some ⟨fj.heap.size,0,none⟩),S x2,S y2]) en224 rfl (mul_ok gp ht x2 y2) ?_);rintro _ _ ⟨fp,gq,rfl⟩;have ht:=Tb.gr fp gp dc ht;have fe:=Blk.gr fp (by simp; omega) fe;have fg:=Blk.gr fp (by simp; omega) fg;have fh:=Blk.gr fp (by simp; omega) fh;have co:=low_gr co fp (bz co) (fun g hgg=>by cases hgg; omega);have im:=fp.size;refine l_op (k_callA (vs:=[.pointer (some ⟨fj.heap.size,0,none⟩),S (dS (ckB false [(x1,x2),(y1,y2)]) (mulI x1 y1)),S (dS (dB (ckB false [(x1,x2),(y1,y2)]) (mulI x1 y1)) (mulI x2 y2))]) en225 rfl (red_ok gq ht (dS (ckB false [(x1,x2),(y1,y2)]) (mulI x1 y1)) (dS (dB (ckB false [(x1,x2),(y1,y2)]) (mulI x1 y1)) (mulI x2 y2))) ?_);rintro _ _ ⟨fq,⟨iq,gv⟩,rfl⟩;have fe:=Blk.gr fq (by simp; omega) fe;have fg:=Blk.gr fq (by simp; omega) fg;have fh:=Blk.gr fq (by simp; omega) fh;have co:=low_gr co fq (bz co) (fun g hgg=>by cases hgg; omega);have ir:=fq.size;refine go ?_;refine SA fh (fun _ fw g6=>?_);have ⟨fe,fg,gv,co,_⟩:=pl3 fw fe fg gv co;refine go ?_
 refine f_out (v:=.tuple #[.agg #[S (rN (redW (dB (dB (ckB false [(x1,x2),(y1,y2)]) (mulI x1 y1)) (mulI x2 y2)) (dS (ckB false [(x1,x2),(y1,y2)]) (mulI x1 y1)) (dS (dB (ckB false [(x1,x2),(y1,y2)]) (mulI x1 y1)) (mulI x2 y2)))),S (rD (redW (dB (dB (ckB false [(x1,x2),(y1,y2)]) (mulI x1 y1)) (mulI x2 y2)) (dS (ckB false [(x1,x2),(y1,y2)]) (mulI x1 y1)) (dS (dB (ckB false [(x1,x2),(y1,y2)]) (mulI x1 y1)) (mulI x2 y2))))],.int .i64 (rER (redW (dB (dB (ckB false [(x1,x2),(y1,y2)]) (mulI x1 y1)) (mulI x2 y2)) (dS (ckB false [(x1,x2),(y1,y2)]) (mulI x1 y1)) (dS (dB (ckB false [(x1,x2),(y1,y2)]) (mulI x1 y1)) (mulI x2 y2))))]) (res2 (r1:=.cell 4 25) (r2:=.tmp 5) rfl ?_ ?_) co (mul_specm x1 x2 y1 y2);refine res_cellA (t:=4) (cs:=[S (rN (redW (dB (dB (ckB false [(x1,x2),(y1,y2)]) (mulI x1 y1)) (mulI x2 y2)) (dS (ckB false [(x1,x2),(y1,y2)]) (mulI x1 y1)) (dS (dB (ckB false [(x1,x2),(y1,y2)]) (mulI x1 y1)) (mulI x2 y2)))),S (rD (redW (dB (dB (ckB false [(x1,x2),(y1,y2)]) (mulI x1 y1)) (mulI x2 y2)) (dS (ckB false [(x1,x2),(y1,y2)]) (mulI x1 y1)) (dS (dB (ckB false [(x1,x2),(y1,y2)]) (mulI x1 y1)) (mulI x2 y2))))]) (b:=gl.heap.size) (o:=0) U36 rfl sz36 ?_ ?_;exact rfl;exact Blk.cells g6 (i:=0) rfl;exact res_tmp (t:=5) (by exact rfl) _
end Go.Proofs.YtonigegpknhdnaaGreatDoor
namespace Go.Proofs.YtonigegpknhdnaaGreatDoor
open Go Go.Eng Go.RowKit
theorem qMulX {a b c d:Int}{w:World}(h1:Q9 a b)(h2:Q9 c d)(ht:Tb w) : Calls Tryz.prog 17 #[.agg #[S (qR a b).1,S (qR a b).2],.agg #[S (qR c d).1,S (qR c d).2]] w (Ret w fun v _=>v=Qv (a*c) (b*d)):=cEq (rMul_ok _ _ _ _ _ ht) (congrArg resR (mulR_q h1 h2))
end Go.Proofs.YtonigegpknhdnaaGreatDoor
