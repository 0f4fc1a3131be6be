/- Part of the proof of a statement about decisions. -/
import Derived.Test.YtonigegpknhdnaaGreatDoorRi2ToRi8
import Derived.Test.YtonigegpknhdnaaGreatDoorSp16ToRi1
import Derived.Test.YtonigegpknhdnaaGreatDoorTie
import Derived.Test.YtonigegpknhdnaaGreatDoorCards
import Derived.ProofKit
import Derived.OpenShut
import Derived.LaidMore
import Derived.Lay
import Derived.SevenTiedAt
import Derived.Stop.Joined
import Derived.Deep.SlicePairs
import Derived.Deep.Frames
import Derived.Deep.Onto
import Derived.WideKeyArgs
import Derived.SizedLaws
set_option linter.all false
namespace Go.Proofs.YtonigegpknhdnaaGreatDoor
open Go Go.Eng Go.RowKit
def NmC (pl:Nat) (N D f c:Int) : Prop:=
  (N=0∧f=flI 1 2 (tenI pl)∧c=clI 1 2 (tenI pl)) ∨ (8*D≤N∧f=tenI pl - 1∧c=tenI pl) ∨ (N≤-8*D∧f=0∧c=1) ∨ (N≠0∧-8*D<N∧N<8*D∧FindR pl (nrmBd pl N D) f c)
def NrmC (N D:Int)(pl:Nat)(f c:Int) : Prop:=∀ w,Tb w→Calls Tryz.prog 43 #[.agg #[S (qR N D).1,S (qR N D).2],.int .i64 ((pl:Nat) : Int)] w (Ret w fun v _=>v=CellV pl f c)
theorem NmC.call {pl:Nat}{N D f c:Int}(h:NmC pl N D f c)(h1:0<D)(hN:N.natAbs<10 ^ 12)(hD:D<10 ^ 12)(h9:N.natAbs≤1000000*D.natAbs)(hp:pl≤12) : NrmC N D pl f c:=by
  intro w ht
  rcases h with ⟨h0,rfl,rfl⟩ | ⟨h0,rfl,rfl⟩ | ⟨h0,rfl,rfl⟩ | ⟨h0,h2,h3,hF⟩
  · exact normal_z h1 om h0 hp ht
  · exact normal_hi hN h1 hD h0 h9 hp ht
  · exact normal_lo hN h1 hD h0 h9 hp ht
  · exact normal_q hN h1 hD h0 h2 h3 hp hF ht
theorem ratio_le {a b c d k:Int}(hb:0<b)(hd:0<d)(e:a*d=c*b)(h:k*b≤a) : k*d≤c:=by
  refine Int.le_of_mul_le_mul_right (a:=b) ?_ hb
  rw [← e,show k*d*b=k*b*d by grind]
  exact Int.mul_le_mul_of_nonneg_right h (Int.le_of_lt hd)
theorem ratio_ge {a b c d k:Int}(hb:0<b)(hd:0<d)(e:a*d=c*b)(h:a≤k*b) : c≤k*d:=by
  refine Int.le_of_mul_le_mul_right (a:=b) ?_ hb
  rw [← e,show k*d*b=k*b*d by grind]
  exact Int.mul_le_mul_of_nonneg_right h (Int.le_of_lt hd)
theorem ratio_lt {a b c d k:Int}(hb:0<b)(hd:0<d)(e:a*d=c*b)(h:k*b<a) : k*d<c:=by
  refine Int.lt_of_mul_lt_mul_right (a:=b) ?_ (Int.le_of_lt hb)
  rw [← e,show k*d*b=k*b*d by grind]
  exact Int.mul_lt_mul_of_pos_right h hd
theorem ratio_gt {a b c d k:Int}(hb:0<b)(hd:0<d)(e:a*d=c*b)(h:a<k*b) : c<k*d:=by
  refine Int.lt_of_mul_lt_mul_right (a:=b) ?_ (Int.le_of_lt hb)
  rw [← e,show k*d*b=k*b*d by grind]
  exact Int.mul_lt_mul_of_pos_right h hd
theorem NmC.congr {pl:Nat}{a b c d f g:Int}(hb:0<b)(hd:0<d)(e:a*d=c*b)(h:NmC pl a b f g) : NmC pl c d f g:=by
  rcases h with ⟨h0,h1,h2⟩ | ⟨h0,h1,h2⟩ | ⟨h0,h1,h2⟩ | ⟨h0,h2,h3,hF⟩
  · refine Or.inl ⟨?_, h1, h2⟩
    rw [h0,Int.zero_mul] at e
    rcases Int.mul_eq_zero.1 e.symm with h | h
    · exact h
    · omega
  · exact Or.inr (Or.inl ⟨ratio_le hb hd e h0,h1,h2⟩)
  · exact Or.inr (Or.inr (Or.inl ⟨ratio_ge hb hd e h0,h1,h2⟩))
  · refine Or.inr (Or.inr (Or.inr ⟨fun h => h0 ?_, ratio_lt hb hd e h2, ratio_gt hb hd e h3, ?_⟩))
    · rw [h, Int.zero_mul] at e
      rcases Int.mul_eq_zero.1 e with h | h
      · exact h
      · omega
    · obtain ⟨e1, e2⟩ := red_congr hb hd e
      unfold nrmBd at *
      rw [← e1,← e2]; exact hF
theorem NmC.uniq {pl:Nat}{a b f c f' c' : Int}(hb:0<b)(h:NmC pl a b f c) (h' : NmC pl a b f' c') : f=f'∧c=c':=by
  rcases h with ⟨h0,h1,h2⟩ | ⟨h0,h1,h2⟩ | ⟨h0,h1,h2⟩ | ⟨h0,h2,h3,hF⟩ <;> rcases h' with ⟨k0,k1,k2⟩ | ⟨k0,k1,k2⟩ | ⟨k0,k1,k2⟩ | ⟨k0,k2,k3,kF⟩
  all_goals first | exact hF.uniq kF | (constructor <;> omega) | (exfalso; omega)
open Classical in
noncomputable def GfN (pl:Nat) (q:R) : R × R:=
  if h : ∃ y:Int × Int,∃ a b:Int,0<b∧q=qR a b∧NmC pl a b y.1 y.2 then (qR h.choose.1 (tenI pl),qR h.choose.2 (tenI pl)) else (q,q)
theorem NmC.gf {pl:Nat}{a b f c:Int}(hb:0<b)(h:NmC pl a b f c) : GfN pl (qR a b)=(qR f (tenI pl),qR c (tenI pl)):=by
  have hx : ∃ y:Int × Int,∃ a' b' : Int,0<b'∧qR a b=qR a' b'∧NmC pl a' b' y.1 y.2:=⟨(f,c),a,b,hb,rfl,h⟩
  unfold GfN
  rw [dif_pos hx]
  obtain ⟨a',b',hb',e,hy⟩:=hx.choose_spec
  obtain ⟨e1,e2⟩:=(hy.congr hb' hb (qR_inj hb hb' e).symm).uniq hb h
  rw [e1,e2]
def clp (n d:Int) : Int × Int:=if n<9*d then (if -9*d<n then (n,d) else (-9,1)) else (9,1)
theorem clp_pos {n d:Int}(hd:0<d) : 0<(clp n d).2:=by unfold clp; split <;> (try split) <;> simp_all
theorem clp_bd {n d:Int}(hd:0<d) : -9*(clp n d).2≤(clp n d).1∧(clp n d).1≤9*(clp n d).2:=by
  unfold clp; split
  · split
    · simp only; omega
    · simp only; omega
  · simp only; omega
def Sh (pl:Nat)(n d f c:Int) : Prop:=∃ f' c',NmC pl (flI (clp n d).1 (clp n d).2 (tenI 6)) (tenI 6) f c'∧NmC pl (clI (clp n d).1 (clp n d).2 (tenI 6)) (tenI 6) f' c∧f≤c∧0≤f∧c≤tenI pl
theorem fl_bd {n d t k:Int}(hd:0<d)(ht:0<t) (h1 : -k*d≤n)(h2:n≤k*d) : -k*t≤flI n d t∧clI n d t≤k*t:=by
  unfold flI clI
  have e1 : -k*t*d≤n*t:=by
    rw [show -k*t*d = -k*d*t by grind]; exact Int.mul_le_mul_of_nonneg_right h1 (Int.le_of_lt ht)
  have e2:n*t≤k*t*d:=by
    rw [show k*t*d=k*d*t by grind]; exact Int.mul_le_mul_of_nonneg_right h2 (Int.le_of_lt ht)
  generalize n*t=m at *
  generalize -k*t=a at *
  generalize k*t=b at *
  have h3:=Int.emod_add_mul_ediv m d
  have h4:=Int.emod_nonneg m (show d≠0 by omega)
  have h5:=Int.emod_lt_of_pos m hd
  refine ⟨Int.le_ediv_of_mul_le hd e1,?_⟩
  split
  · refine Int.le_of_mul_le_mul_right ?_ hd
    rename_i h6
    rw [Int.mul_comm (m / d) d]; omega
  · have : m / d < b := by
      refine Int.lt_of_mul_lt_mul_right (a:=d) ?_ (Int.le_of_lt hd)
      rw [Int.mul_comm (m / d) d]; omega
    omega
theorem q9_cell {f:Int}{pl:Nat}(h:f.natAbs<10 ^ 70)(hp:pl≤12) : Q9 f (tenI pl):=ten_q9 (Nat.lt_trans h dc) om
theorem ten_12 {pl:Nat}(h:pl≤12) : tenI pl≤1000000000000:=by
  have h1:(10:Nat) ^ pl≤10 ^ 12:=Nat.pow_le_pow_right dc h
  unfold tenI; omega
theorem ten6:tenI 6=1000000:=by decide
theorem minQ_T {k T:Int}(hT:0<T) : minQ 1 1 k T=qR (min k T) T:=by
  unfold minQ
  by_cases h:k<T
  · rw [mn_t (decide_eq_true (cmpI_lt0 om)),show min k T=k by omega]
  · rw [mn_f (decide_eq_false (cmpI_nlt om)), show min k T = T by omega]
    exact qR_congr dc hT om
theorem clp_min {n d:Int} : minQ 9 1 n d=qR (if n<9*d then n else 9) (if n<9*d then d else 1):=by
  unfold minQ
  by_cases h:n<9*d
  · rw [mn_t (decide_eq_true (cmpI_lt0 om)),if_pos h,if_pos h]
  · rw [mn_f (decide_eq_false (cmpI_nlt om)),if_neg h,if_neg h]
theorem clp_max {n d:Int} : maxQ (-9) 1 (if n<9*d then n else 9) (if n<9*d then d else 1)=qR (clp n d).1 (clp n d).2:=by
  unfold maxQ clp
  by_cases h:n<9*d
  · simp only [if_pos h]
    by_cases h2 : -9*d<n
    · rw [mn_t (decide_eq_true (cmpI_gt0 om)),if_pos h2]
    · rw [mn_f (decide_eq_false (cmpI_ngt om)),if_neg h2]
  · simp only [if_neg h]
    rw [mn_t (decide_eq_true dc)]
theorem clp_q9 {n d:Int}(h1:n.natAbs<10 ^ 12)(h2:0<d)(h3:d<10 ^ 12) : Q9 (if n<9*d then n else 9) (if n<9*d then d else 1)∧Q9 (clp n d).1 (clp n d).2:=by
  have q:Q9 n d:=q9_12 h1 h2 h3
  have a9:Q9 9 1:=⟨by decide,by decide,by decide⟩
  have b9:Q9 (-9) 1:=⟨by decide,by decide,by decide⟩
  constructor
  · by_cases h : n < 9 * d
    · rw [if_pos h,if_pos h]; exact q
    · rw [if_neg h,if_neg h]; exact a9
  · unfold clp; split
    · split
      · exact q
      · exact b9
    · exact a9
section
variable {va vb sa sb la lb ha hb n1 d1 n2 d2 f1 c1 f2 c2 : Int} {pl : Nat} {w : World}
theorem q9_24 {a b c d:Int}(h1:a.natAbs<10 ^ 12)(h2:b.natAbs<10 ^ 12)(h3:c.natAbs<10 ^ 12)(h4:d.natAbs<10 ^ 12) : (a*b - c*d).natAbs<10 ^ 25:=by
  have e1:(a*b).natAbs<10 ^ 24:=by rw [Int.natAbs_mul,show 10 ^ 24=10 ^ 12*10 ^ 12 by decide]; exact Nat.mul_lt_mul_of_lt_of_lt h1 h2
  have e2:(c*d).natAbs<10 ^ 24:=by rw [Int.natAbs_mul,show 10 ^ 24=10 ^ 12*10 ^ 12 by decide]; exact Nat.mul_lt_mul_of_lt_of_lt h3 h4
  omega
theorem q9_sub {a b c d:Int}(h1:a.natAbs<10 ^ 12)(h2:0<b) (h2' : b<10 ^ 12)(h3:c.natAbs<10 ^ 12)(h4:0<d) (h4' : d<10 ^ 12) : Q9 (a*d - c*b) (b*d):=by
  refine ⟨Nat.lt_trans (q9_24 h1 om h3 om) dc,Int.mul_pos h2 h4,?_⟩
  have e2:(b*d).natAbs<10 ^ 24:=by rw [Int.natAbs_mul,show 10 ^ 24=10 ^ 12*10 ^ 12 by decide]; exact Nat.mul_lt_mul_of_lt_of_lt om om
  omega
theorem ShR.mk {a b:Int}(h1:a.natAbs<10 ^ 12)(h2:0<b)(h3:b<10 ^ 12) : ShR (qR a b):=⟨a,b,rfl,q9_12 h1 h2 h3,h1,h3⟩
theorem IvR.cell {f c:Int}(h1:f≤c)(h2:0≤f)(h3:c≤tenI pl)(hp:pl≤12) : IvR (qR f (tenI pl),qR c (tenI pl)):=by
  have hT:=ten_12 hp
  have hT0:=ten_pos pl
  exact ⟨f,tenI pl,c,tenI pl,rfl,rfl,q9_cell om hp,q9_cell om hp,Int.mul_le_mul_of_nonneg_right h1 (Int.le_of_lt hT0)⟩
theorem outside_sh (p1:1≤pl) (p12:pl≤12) (v1:va.natAbs<10 ^ 12) (v2:0<vb) (v3:vb<10 ^ 12) (s1:0<sa) (s1' : sa<10 ^ 12) (s2:0<sb) (s3:sb<10 ^ 12) (l1:la.natAbs<10 ^ 12) (l2:0<lb) (l3:lb<10 ^ 12) (h1:ha.natAbs<10 ^ 12) (h2:0<hb) (h3:hb<10 ^ 12) (hlh:la*hb<ha*lb)
    (e1:(la*vb - va*lb)*sb*d1=n1*(lb*vb*sa)) (e2:(va*hb - ha*vb)*sb*d2=n2*(vb*hb*sa)) (m1:n1.natAbs<10 ^ 12) (m2:0<d1) (m3:d1<10 ^ 12) (k1:n2.natAbs<10 ^ 12) (k2:0<d2) (k3:d2<10 ^ 12) (x1:Sh pl n1 d1 f1 c1) (x2:Sh pl n2 d2 f2 c2) (ht:Tb w) :
    Calls Tryz.prog 59 #[.agg #[S (qR va vb).1,S (qR va vb).2],.agg #[S (qR sa sb).1,S (qR sa sb).2],.agg #[S (qR la lb).1,S (qR la lb).2],.agg #[S (qR ha hb).1,S (qR ha hb).2],.int .i64 ((pl:Nat) : Int)] w (Ret w fun v _=>v=.tuple #[.agg #[S (qR (min (f1+f2) (tenI pl)) (tenI pl)).1,S (qR (min (f1+f2) (tenI pl)) (tenI pl)).2,S (qR (min (c1+c2) (tenI pl)) (tenI pl)).1,S (qR (min (c1+c2) (tenI pl)) (tenI pl)).2],.int .i64 0]):=by
  obtain ⟨_,_,a1,b1,i1,j1,g1⟩:=x1
  obtain ⟨_,_,a2,b2,i2,j2,g2⟩:=x2
  have hT:=ten_12 p12
  have hT0:=ten_pos pl
  have z1:=clp_pos (n:=n1) m2
  have z2:=clp_pos (n:=n2) k2
  obtain ⟨y1,y2⟩:=clp_bd (n:=n1) m2
  obtain ⟨y3,y4⟩:=clp_bd (n:=n2) k2
  obtain ⟨_,_⟩:=fl_bd z1 (ten_pos 6) y1 y2
  obtain ⟨_,_⟩:=fl_bd z2 (ten_pos 6) y3 y4
  have t5:=cl_fl_le (a:=(clp n1 d1).1) (b:=(clp n1 d1).2) (t:=tenI 6)
  have t6:=cl_fl_le (a:=(clp n2 d2).1) (b:=(clp n2 d2).2) (t:=tenI 6)
  have cd : ∀ x:Int,-9*tenI 6≤x→x≤9*tenI 6→x.natAbs<10 ^ 12∧x.natAbs≤1000000*(tenI 6).natAbs:=by rw [ten6]; intro x h1 h2; omega
  have h6:tenI 6<10 ^ 12:=by rw [ten6]; decide
  have q1:=clp_q9 (n:=n1) m1 m2 m3
  have q2:=clp_q9 (n:=n2) k1 k2 k3
  have A1:=a1.call (ten_pos 6) (cd _ om om).1 h6 (cd _ om om).2 p12
  have B1:=b1.call (ten_pos 6) (cd _ om om).1 h6 (cd _ om om).2 p12
  have A2:=a2.call (ten_pos 6) (cd _ om om).1 h6 (cd _ om om).2 p12
  have B2:=b2.call (ten_pos 6) (cd _ om om).1 h6 (cd _ om om).2 p12
  have G1:=a1.gf (ten_pos 6)
  have G2:=b1.gf (ten_pos 6)
  have G3:=a2.gf (ten_pos 6)
  have G4:=b2.gf (ten_pos 6)
  have hX : ∀ n d f c, NrmC n d pl f c → GfN pl (qR n d) = (qR f (tenI pl), qR c (tenI pl)) → ∀ W, Tb W → Calls Tryz.prog 43 #[.agg #[S (qR n d).1, S (qR n d).2], .int .i64 ((pl : Nat) : Int)] W (Ret W fun v _ => v = .tuple #[.agg #[S (GfN pl (qR n d)).1.1, S (GfN pl (qR n d)).1.2, S (GfN pl (qR n d)).2.1, S (GfN pl (qR n d)).2.2], .int .i64 0]) := by
    intro n d f c hc hg W hW
    rw [hg]; exact hc W hW
  have R1 := outside_ok (va := va) (vb := vb) (sa := sa) (sb := sb) (la := la) (lb := lb) (ha := ha) (hb := hb) (ma := n1) (mb := d1) (na := n2) (nb := d2) (Gf := GfN pl) (w := w) (ea := f1 + f2) (eb := tenI pl) (fa := c1 + c2) (fb := tenI pl) p1 p12 (q9_12 v1 v2 v3) (q9_12 om s2 s3) (q9_12 l1 l2 l3) (q9_12 h1 h2 h3) (by
      intro q hq
      simp only [List.mem_cons,List.not_mem_nil,or_false] at hq
      rcases hq with rfl | rfl | rfl | rfl
      · exact ShR.mk v1 v2 v3
      · exact ShR.mk om s2 s3
      · exact ShR.mk l1 l2 l3
      · exact ShR.mk h1 h2 h3) s1 (decide_eq_true (cmpI_lt0 om)) (decide_eq_true (cmpI_lt0 hlh)) (q9_sub l1 l2 l3 v1 v2 v3) (q9_sub v1 v2 v3 h1 h2 h3)
    (qR_congr (Int.mul_pos (Int.mul_pos l2 v2) s1) m2 e1) (qR_congr (Int.mul_pos (Int.mul_pos v2 h2) s1) k2 e2)
    (q9_12 m1 m2 m3) q1.1 q1.2 clp_min clp_max (q9_12 k1 k2 k3) q2.1 q2.2 clp_min clp_max
    (hX _ _ _ _ A1 G1) (hX _ _ _ _ B1 G2) (hX _ _ _ _ A2 G3) (hX _ _ _ _ B2 G4)
    (by rw [G1,G2]; exact IvR.cell i1 j1 g1 p12) (by rw [G3,G4]; exact IvR.cell i2 j2 g2 p12)
    (a1:=f1) (b1:=tenI pl) (c1:=c1) (d1:=tenI pl) (a2:=f2) (b2:=tenI pl) (c2:=c2) (d2:=tenI pl)
    (by rw [G1]) (by rw [G2]) (q9_cell om p12) (q9_cell om p12) (by rw [G3]) (by rw [G4]) (q9_cell om p12) (q9_cell om p12)
    (qR_congr (Int.mul_pos hT0 hT0) hT0 (by grind)) (qR_congr (Int.mul_pos hT0 hT0) hT0 (by grind)) (q9_cell om p12) (q9_cell om p12) ht
  rw [minQ_T hT0,minQ_T hT0] at R1
  exact R1
end
theorem Cel.le {pl u f c:Nat}(h:Cel pl u f c) : f≤c:=by
  obtain ⟨⟨_,⟨r,_,w⟩ | ⟨r,r2,f1,c1,_,_,_,_,w⟩⟩,_⟩:=h
  · have:=w.fc; omega
  · have:=w.fc; omega
theorem Cel.nmc {pl u f c:Nat}(h:Cel pl u f c)(h0:0<u)(h8:u<8000000) : NmC pl (u:Int) (tenI 6) (f:Int) (c:Int):=by
  rw [ten6]
  exact Or.inr (Or.inr (Or.inr ⟨by omega,by omega,by omega,h.1⟩))
theorem Cel.nmn {pl u f c:Nat}(h:Cel pl u f c)(h0:0<u)(h8:u<8000000) : NmC pl (-(u:Int)) (tenI 6) (tenI pl - c) (tenI pl - f):=by
  rw [ten6]
  exact Or.inr (Or.inr (Or.inr ⟨by omega,by omega,by omega,h.2.1⟩))
theorem ten_mul {pl:Nat}(h:pl≤8) : tenI pl*tenI (8 - pl)=100000000:=by
  unfold tenI
  rw [← Int.natCast_mul,← Nat.pow_add,show pl+(8 - pl)=8 by omega]; rfl
theorem nat_ten {f k:Nat} : ((f*10 ^ k:Nat) : Int)=(f:Int)*tenI k:=by unfold tenI; rw [Int.natCast_mul]
theorem fl_nat {K S:Nat}(hS:0<S) : flI (K:Int) (((20*S:Nat)) : Int) (tenI 6)=((K*50000 / S:Nat) : Int):=by
  unfold flI
  rw [ten6,show (K:Int)*1000000=((20*(K*50000) : Nat) : Int) by omega,← Int.natCast_ediv,Nat.mul_div_mul_left _ _ dc]
theorem up_nat {a S:Nat}(hS:0<S) : (a+(S - 1)) / S=if a % S=0 then a / S else a / S+1:=by
  have h:=upn_eq (a:=a) hS
  unfold upn at h
  exact h.symm
theorem cl_nat {K S:Nat}(hS:0<S) : clI (K:Int) (((20*S:Nat)) : Int) (tenI 6)=(((K*50000+(S - 1)) / S:Nat) : Int):=by
  have h1:=fl_nat (K:=K) hS
  unfold flI at h1
  unfold clI
  rw [h1,up_nat hS,ten6,show (K:Int)*1000000=((20*(K*50000) : Nat) : Int) by omega,← Int.natCast_emod,Nat.mul_mod_mul_left]
  by_cases h:K*50000 % S=0
  · rw [if_pos h,if_pos om]
  · rw [if_neg h,if_neg om]; rfl
theorem le_of_ten {f c lo hi:Int}{k:Nat}(h1:f*tenI k≤lo)(h2:lo≤hi)(h3:hi≤c*tenI k) : f≤c:=by
  refine Int.le_of_mul_le_mul_right (a:=tenI k) ?_ (ten_pos k)
  omega
theorem ten_even' {pl:Nat}(h:1≤pl) : tenI pl=2*((10 ^ pl / 2:Nat) : Int):=by
  obtain ⟨k,rfl⟩ : ∃ k,pl=k+1:=⟨pl - 1,by omega⟩
  unfold tenI
  rw [Nat.pow_succ]
  omega
theorem half_fl' {pl:Nat}(h:1≤pl) : flI 1 2 (tenI pl)=((10 ^ pl / 2:Nat) : Int)∧clI 1 2 (tenI pl)=((10 ^ pl / 2:Nat) : Int):=by
  rw [ten_even' h]
  unfold flI clI
  rw [Int.one_mul,Int.mul_ediv_cancel_left _ dc,Int.mul_emod_right,if_pos rfl]
  exact ⟨rfl,rfl⟩
theorem clp_ge {n d:Int}(hd:0<d)(h:8*d≤n) : 8*(clp n d).2≤(clp n d).1:=by
  unfold clp; split
  · rw [if_pos om]; exact h
  · simp only; omega
theorem clp_le {n d:Int}(hd:0<d)(h:n≤-8*d) : (clp n d).1≤-8*(clp n d).2:=by
  unfold clp; rw [if_pos om]; split
  · exact h
  · simp only; omega
theorem prod_div {W D g:Nat}(h1:1≤W)(h2:W≤40)(h3:D≤50)(hg:g ∣ W*D)(g0:0<g) : prodB (W*D / g)=true:=by
  have a1:0<Nat.gcd g W:=Nat.gcd_pos_of_pos_left _ g0
  obtain ⟨u,hu⟩:=Nat.gcd_dvd_left g W
  obtain ⟨v,hv⟩:=Nat.gcd_dvd_right g W
  have hc:Nat.Coprime u v:=by
    have e:=Nat.gcd_mul_left (Nat.gcd g W) u v
    rw [← hu,← hv] at e
    have:Nat.gcd g W*1=Nat.gcd g W*Nat.gcd u v:=by omega
    exact (Nat.eq_of_mul_eq_mul_left a1 this).symm
  have hd:u ∣ D:=by
    refine hc.dvd_of_dvd_mul_left (m:=v) ?_
    obtain ⟨k,hk⟩:=hg
    refine ⟨k,Nat.eq_of_mul_eq_mul_left a1 ?_⟩
    rw [← Nat.mul_assoc,← hv,← Nat.mul_assoc,← hu]; exact hk
  obtain ⟨t,rfl⟩:=hd
  have e:W*(u*t) / g=v*t:=by
    have:W*(u*t)=g*(v*t):=by
      calc W * (u * t) = (Nat.gcd g W * v) * (u * t) := by rw [← hv]
        _=(Nat.gcd g W*u)*(v*t):=by grind
        _=g*(v*t):=by rw [← hu]
    rw [this,Nat.mul_div_cancel_left _ g0]
  rw [e]
  have v0:0<v:=by
    rcases Nat.eq_zero_or_pos v with h | h
    · rw [h,Nat.mul_zero] at hv; omega
    · exact h
  have vW:v≤W:=by
    calc v = 1 * v := (Nat.one_mul v).symm
      _≤Nat.gcd g W*v:=Nat.mul_le_mul_right _ a1
      _=W:=hv.symm
  have u0:0<u:=by
    rcases Nat.eq_zero_or_pos u with h | h
    · rw [h,Nat.mul_zero] at hu; omega
    · exact h
  have tD:t≤u*t:=by
    calc t = 1 * t := (Nat.one_mul t).symm
      _≤u*t:=Nat.mul_le_mul_right _ u0
  exact prodB_ok om om om
theorem up_lt {K S:Nat}(hS:0<S)(hS2:S≤30)(h:K<160*S) : (K*50000+(S - 1)) / S<8000000:=by
  refine (Nat.div_lt_iff_lt_mul hS).2 ?_
  omega
end Go.Proofs.YtonigegpknhdnaaGreatDoor
namespace Go.Proofs.YtonigegpknhdnaaGreatDoor
open Go Go.ChangeShapes Go.WideShapes Go.ChangeAt Go.RowKit Go.Deep Go.Eng
theorem cOwn : ownKnob Tryz.prog.godebug = none:=by kernel_rfl
theorem cLaid : laidOutB Tryz.prog = true:=by kernel_rfl
theorem c3 : Tryz.prog.cellsOf 3 = 1:=by kernel_rfl
theorem c2022 : Tryz.prog.cellsOf 22 = 7:=by kernel_rfl
theorem gPow : Tryz.prog.globalNamed "internal/strconv.uint64pow10" = some 3 := by kernel_rfl
theorem tPow : (Tryz.prog.globals[3]?).map (·.type) = some 257:=by kernel_rfl
theorem zPow0 : (((begin Tryz.prog (fun _ _=>0) default).world.heap[3]?).bind Obj.row?).map (·.2) = some 257:=by kernel_rfl
theorem zPow : ∃ z, (((begin Tryz.prog (fun _ _ => 0) default).world.heap[3]?).bind Obj.row?) = some (z, 257) := by
  obtain ⟨⟨z,t⟩,h,e⟩:=Option.map_eq_some_iff.1 zPow0
  cases e; exact ⟨z,h⟩
theorem nPow : 3 < Tryz.prog.globals.size:=of_decide_eq_true (by kernel_rfl)
theorem lPow : Rows.laid_internal_strconv_uint64pow10 = (.agg (Lib.pow10Tab.map fun z=>DataW.lit (.int .u64 z)) : DataW Unit):=by kernel_rfl
theorem cU : Tryz.prog.cellsOf 225 = 1:=by kernel_rfl
theorem uU : Tryz.prog.underlying 225 = some (.int .u64):=by kernel_rfl
theorem cA : Tryz.prog.cellsOf 257 = 20:=by kernel_rfl
theorem kPow : Lib.pow10Tab.length = 20:=by kernel_rfl
theorem trod_cons {H : Type} {enc : TypeId × Value→H} {P : Program} {w : World} {base : Nat} {sp : Nat→Bool} {hd : Bool} {t : TypeId} {ts : List TypeId} {vs : List Value} {ds : List (DataW H)} {ps : List MemPlace}
    (h : DataW.TrodAll enc P w base sp hd (t :: ts) vs ds ps) : ∃ v vs' d ds' p q,vs = v :: vs'∧ds = d :: ds'∧DataW.Trod enc P w base sp hd t v d p∧DataW.TrodAll enc P w base sp hd ts vs' ds' q:=by
  match vs,ds,h with
  | v :: vs', d :: ds', h =>
    obtain ⟨p,q,h1,h2,_⟩:=h
    exact ⟨v,vs',d,ds',p,q,rfl,rfl,h1,h2⟩
theorem trod_end {H : Type} {enc : TypeId × Value→H} {P : Program} {w : World} {base : Nat} {sp : Nat→Bool} {hd : Bool} {vs : List Value} {ds : List (DataW H)} {ps : List MemPlace}
    (h : DataW.TrodAll enc P w base sp hd [] vs ds ps) : vs = []∧ds = []:=by
  match vs,ds,h with
  | [],[],_=>exact ⟨rfl,rfl⟩
theorem all_again {H : Type} {enc : TypeId × Value→H} {W W' : World} {sp' : Nat→Bool} (k : Ext W W') : ∀ {ts : List TypeId} {vs : List Value} {ds : List (DataW H)} {ps : List MemPlace},
    (∀ t ∈ ts,Tryz.prog.readableRec t = true∧t < Tryz.prog.types.size)→DataW.TrodAll enc Tryz.prog W 0 (fun _=>true) true ts vs ds ps→(∀ p ∈ ps,p.block < W.heap.size)→(∀ p ∈ ps,sp' p.block = true)→DataW.TrodAll enc Tryz.prog W' 0 sp' true ts vs ds ps
  | [],[],[],_,_,h,_,_=>h
  | t :: ts, v :: vs, d :: ds, ps, hr, h, hl, hs => by
    obtain ⟨p,q,h1,h2,rfl⟩:=h
    refine ⟨p,q,WideElems.Trod_stays cLaid (hr t (by simp)).1 (hr t (by simp)).2 h1 (fun x hx=>?_) (fun x hx=>hs x (by simp [hx])),all_again k (fun u hu=>hr u (by simp [hu])) h2 (fun x hx=>hl x (by simp [hx])) (fun x hx=>hs x (by simp [hx])),rfl⟩
    have hb:=hl x (by simp [hx])
    cases x with
    | cell b o=>exact World.cell?_of_block (k.block b hb)
    | map b=>exact k.block b hb
  | [],[],_ :: _,_,_,h,_,_=>h.elim
  | [],_ :: _,_,_,_,h,_,_=>h.elim
  | _ :: _,[],_,_,_,h,_,_=>h.elim
  | _ :: _,_ :: _,[],_,_,h,_,_=>h.elim
theorem wf64 {n : Int} (h : (Lit.int .i64 n).wf = true) : In64 n:=by
  simp only [Lit.wf,Bool.and_eq_true,decide_eq_true_eq] at h
  have e1 : IntKind.i64.min = -9223372036854775808:=rfl
  have e2 : IntKind.i64.max = 9223372036854775807:=rfl
  rw [e1,e2] at h
  unfold In64; omega
section
variable {H : Type} {enc : TypeId × Value → H} {W : World} {base fuel b0 : Nat} {x : DataW H × List MemPlace}
set_option maxRecDepth 100000 in
theorem seven_of {v : Value} (hv : Value.okWide Tryz.prog W .any b0 22 v) (h : DataW.trod enc Tryz.prog W base (fun _ => true) true fuel 22 v.cells.toList = some x) :
    ∃ a b c d e f g : Int,v = .agg #[.int .i64 a,.int .i64 b,.int .i64 c,.int .i64 d,.int .i64 e,.int .i64 f,.int .i64 g]∧In64 a∧In64 b∧In64 c∧In64 d∧In64 e∧In64 f∧In64 g:=by
  unfold Value.okWide at hv
  rw [Tryz.underlying22] at hv
  obtain ⟨cs,rfl,hs,_⟩:=hv
  rw [c2022] at hs
  obtain ⟨xs,m,_,_,_,hl,hx⟩:=DataW.trod_array Tryz.underlying22 h
  have key : ∀ i u,i < 7→cs.toList[i]? = some u→∃ a,u = .int .i64 a∧In64 a:=by
    intro i u hi hu
    have h0:=hx i hi
    rw [c3,List.getElem?_eq_getElem (show i < xs.length by omega)] at h0
    obtain ⟨a,ea,_,wa⟩:=DataW.trod_int Tryz.underlying3 h0
    refine ⟨a,?_,wf64 wa⟩
    have e2 : (((Value.agg cs).cells.toList.drop (i * 1)).take 1)[0]? = some u:=by
      have hc : (Value.agg cs).cells = cs:=rfl
      rw [hc,Nat.mul_one,List.getElem?_take,if_pos (by decide),List.getElem?_drop,Nat.add_zero]; exact hu
    rw [ea] at e2
    exact (Option.some.inj e2).symm
  obtain ⟨l⟩:=cs
  match l,hs,key with
  | [u0, u1, u2, u3, u4, u5, u6], _, key =>
    obtain ⟨a0,rfl,k0⟩:=key 0 u0 (by decide) rfl
    obtain ⟨a1,rfl,k1⟩:=key 1 u1 (by decide) rfl
    obtain ⟨a2,rfl,k2⟩:=key 2 u2 (by decide) rfl
    obtain ⟨a3,rfl,k3⟩:=key 3 u3 (by decide) rfl
    obtain ⟨a4,rfl,k4⟩:=key 4 u4 (by decide) rfl
    obtain ⟨a5,rfl,k5⟩:=key 5 u5 (by decide) rfl
    obtain ⟨a6,rfl,k6⟩:=key 6 u6 (by decide) rfl
    exact ⟨a0,a1,a2,a3,a4,a5,a6,rfl,k0,k1,k2,k3,k4,k5,k6⟩
end
end Go.Proofs.YtonigegpknhdnaaGreatDoor
namespace Go.Proofs.YtonigegpknhdnaaGreatDoor
open Go Go.Eng Go.RowKit
def CelE (pl n d f c:Nat) : Prop:=FindR pl (nrmBd pl (n:Int) (d:Int)) (f:Int) (c:Int)∧FindR pl (nrmBd pl (-(n:Int)) (d:Int)) (tenI pl - c) (tenI pl - f)∧10 ^ pl≤2*f∧c≤10 ^ pl
def xalK (n d:Nat) (K:Nat→Nat→Bool) : Bool:=fz (Nat.gcd n d) fun g=>fz (Nat.div n g) fun a=>fz (Nat.div d g) fun b=>cel8 a b K
theorem xalK_ok {n d:Nat}{K:Nat→Nat→Bool}(hn:0<n)(hd:0<d)(h:xalK n d K=true) : ∃ lo hi,(∀ pl,1≤pl→pl≤8→∃ f c,CelE pl n d f c∧f*10 ^ (8 - pl)≤lo∧hi≤c*10 ^ (8 - pl))∧K lo hi=true:=by
  unfold xalK at h
  rw [fz_eq,fz_eq,fz_eq] at h
  have hg:0<Nat.gcd n d:=Nat.gcd_pos_of_pos_left _ hn
  have h1:0<n / Nat.gcd n d:=Nat.div_pos (Nat.le_of_dvd hn (Nat.gcd_dvd_left _ _)) hg
  have h2:0<d / Nat.gcd n d:=Nat.div_pos (Nat.le_of_dvd hd (Nat.gcd_dvd_right _ _)) hg
  obtain ⟨lo,hi,ha,hk⟩:=cel8_ok h1 h2 h
  refine ⟨lo,hi,fun pl p1 p8=>?_,hk⟩
  obtain ⟨f,c,a,b,e,g,k⟩:=ha.at p1 p8
  obtain ⟨r1,r2⟩:=posR_cel hd a
  exact ⟨f,c,⟨r1,r2,b,e⟩,g,k⟩
def tripK (S K : Nat) : Bool := fz (Nat.mul K 50000) fun a => fz (Nat.div a S) fun dn => fz (Nat.div (Nat.add a (Nat.pred S)) S) fun up => fz (Nat.mul 20 S) fun d =>
  valK dn fun lo1 hi1=>cond (Nat.beq dn up) (Nat.ble lo1 hi1) (xalK K d fun lo2 hi2=>valK up fun _ hi3=>and (and (Nat.ble lo1 hi3) (Nat.ble lo1 hi2)) (and (Nat.ble lo2 hi3) (Nat.ble lo2 hi2)))
def TrpR (dn up n d:Nat) : Prop:=∃ lo hi,lo≤hi∧(∀ pl,1≤pl→pl≤8→∃ f c f' c',Cel pl dn f c'∧Cel pl up f' c∧f*10 ^ (8 - pl)≤lo∧hi≤c*10 ^ (8 - pl)) ∧
  (∀ pl,1≤pl→pl≤8→∃ f c,(CelE pl n d f c ∨ (dn=up∧Cel pl dn f c))∧f*10 ^ (8 - pl)≤lo∧hi≤c*10 ^ (8 - pl))
theorem max_nat {a b c d:Nat}(h1:a≤d)(h2:a≤c)(h3:b≤d)(h4:b≤c) : ∃ lo hi,lo≤hi∧a≤lo∧b≤lo∧hi≤c∧hi≤d:=by
  rcases Nat.le_total a b with h | h
  · rcases Nat.le_total c d with k | k
    · exact ⟨b,c,h4,h,Nat.le_refl _,Nat.le_refl _,k⟩
    · exact ⟨b,d,h3,h,Nat.le_refl _,k,Nat.le_refl _⟩
  · rcases Nat.le_total c d with k | k
    · exact ⟨a,c,h2,Nat.le_refl _,h,Nat.le_refl _,k⟩
    · exact ⟨a,d,h1,Nat.le_refl _,h,k,Nat.le_refl _⟩
theorem trip_aux {dn up n d : Nat} (p1 : 0 < dn) (p2 : 0 < up) (hn : 0 < n) (hd : 0 < d) (h : (valK dn fun lo1 hi1 => cond (Nat.beq dn up) (Nat.ble lo1 hi1) (xalK n d fun lo2 hi2 => valK up fun _ hi3 => and (and (Nat.ble lo1 hi3) (Nat.ble lo1 hi2)) (and (Nat.ble lo2 hi3) (Nat.ble lo2 hi2)))) = true) : TrpR dn up n d := by
  obtain ⟨lo1,hi1,h1,h⟩:=valK_ok p1 h
  rcases cond_t h with ⟨e,hk⟩ | ⟨_,hk⟩
  · have e := Nat.eq_of_beq_eq_true e
    subst e
    refine ⟨lo1,hi1,Nat.le_of_ble_eq_true hk,fun pl a b=>?_,fun pl a b=>?_⟩
    · obtain ⟨f, c, x, y, z⟩ := h1 pl a b
      exact ⟨f,c,f,c,x,x,y,z⟩
    · obtain ⟨f, c, x, y, z⟩ := h1 pl a b
      exact ⟨f,c,.inr ⟨rfl,x⟩,y,z⟩
  · obtain ⟨lo2, hi2, h2, hk⟩ := xalK_ok hn hd hk
    obtain ⟨_,hi3,h3,hk⟩:=valK_ok p2 hk
    simp only [Bool.and_eq_true,Nat.ble_eq] at hk
    obtain ⟨lo,hi,q1,q2,q3,q4,q5⟩:=max_nat hk.1.1 hk.1.2 hk.2.1 hk.2.2
    refine ⟨lo,hi,q1,fun pl a b=>?_,fun pl a b=>?_⟩
    · obtain ⟨f, c', x, y, _⟩ := h1 pl a b
      obtain ⟨f',c,x',_,z⟩:=h3 pl a b
      exact ⟨f,c,f',c',x,x',by omega,by omega⟩
    · obtain ⟨f, c, x, y, z⟩ := h2 pl a b
      exact ⟨f,c,.inl x,by omega,by omega⟩
theorem tripK_ok {S K:Nat}(hS:0<S)(hK:S≤K*50000)(h:tripK S K=true) : TrpR (K*50000 / S) ((K*50000+(S - 1)) / S) K (20*S):=by
  unfold tripK at h
  rw [fz_eq,fz_eq,fz_eq,fz_eq] at h
  exact trip_aux (Nat.div_pos hK hS) (Nat.div_pos (Nat.le_trans hK (Nat.le_add_right _ _)) hS) (by omega) (by omega) h
def NmX (pl:Nat)(n d f c:Int) : Prop:=NmC pl n d f c∧0≤f∧f≤c∧c≤tenI pl
def ShX (n d:Int) : Prop:=∃ lo hi:Int,lo≤hi∧(n≤0→2*lo≤100000000)∧∀ pl,1≤pl→pl≤8→(∃ f c,Sh pl n d f c∧f*tenI (8 - pl)≤lo∧hi≤c*tenI (8 - pl))∧(∃ f c,NmX pl n d f c∧f*tenI (8 - pl)≤lo∧hi≤c*tenI (8 - pl))
theorem shX_aux {K S dn up:Nat}(hK:0<K)(hS:0<S)(h8:K<160*S)(hd0:0<dn)(hle:dn≤up)(hup:up<8000000)(hx:dn=up→(dn:Int)*((20*S:Nat) : Int)=(K:Int)*tenI 6) (e1:flI (K:Int) ((20*S:Nat) : Int) (tenI 6)=(dn:Int)) (e2:clI (K:Int) ((20*S:Nat) : Int) (tenI 6)=(up:Int)) (h:TrpR dn up K (20*S)) : ShX (K:Int) ((20*S:Nat) : Int)∧ShX (-(K:Int)) ((20*S:Nat) : Int):=by
  obtain ⟨lo,hi,_,ha,hb⟩:=h
  have c1:clp (K:Int) ((20*S:Nat) : Int)=((K:Int),((20*S:Nat) : Int)):=by
    unfold clp; rw [if_pos om,if_pos om]
  have c2:clp (-(K:Int)) ((20*S:Nat) : Int)=(-(K:Int),((20*S:Nat) : Int)):=by
    unfold clp; rw [if_pos om,if_pos om]
  constructor
  · refine ⟨lo, hi, by omega, fun h => by omega, fun pl h1 h2 => ⟨?_, ?_⟩⟩
    · obtain ⟨f, c, f', c', a, b, g1, g2⟩ := ha pl h1 h2
      have g1' : (f:Int)*tenI (8 - pl)≤lo:=by rw [← nat_ten]; omega
      have g2' : (hi:Int)≤(c:Int)*tenI (8 - pl):=by rw [← nat_ten]; omega
      have hT:((10 ^ pl:Nat) : Int)=tenI pl:=rfl
      have b4:=b.2.2.2
      refine ⟨f,c,⟨f',c',?_,?_,le_of_ten g1' om g2',by omega,by omega⟩,g1',g2'⟩
      · rw [c1]; simp only; rw [e1]; exact a.nmc hd0 om
      · rw [c1]; simp only; rw [e2]; exact b.nmc om hup
    · obtain ⟨f, c, a, g1, g2⟩ := hb pl h1 h2
      have g1' : (f:Int)*tenI (8 - pl)≤lo:=by rw [← nat_ten]; omega
      have g2' : (hi:Int)≤(c:Int)*tenI (8 - pl):=by rw [← nat_ten]; omega
      have hT:((10 ^ pl:Nat) : Int)=tenI pl:=rfl
      have hle2:=le_of_ten g1' om g2'
      rcases a with a | ⟨e,a⟩
      · have b4 := a.2.2.2
        exact ⟨f,c,⟨Or.inr (Or.inr (Or.inr ⟨by omega,by omega,by omega,a.1⟩)),by omega,hle2,by omega⟩,g1',g2'⟩
      · have b4 := a.2.2.2
        exact ⟨f,c,⟨(a.nmc hd0 om).congr (ten_pos 6) om (hx e),by omega,hle2,by omega⟩,g1',g2'⟩
  · have hh : 2 * (100000000 - (hi : Int)) ≤ 100000000 := by
      obtain ⟨f,c,f',c',a,b,g1,g2⟩:=ha 1 dc dc
      have b3:=a.2.2.1
      omega
    refine ⟨100000000 - hi,100000000 - lo,by omega,fun _=>hh,fun pl h1 h2=>⟨?_,?_⟩⟩
    · obtain ⟨f, c, f', c', a, b, g1, g2⟩ := ha pl h1 h2
      have g1' : (f:Int)*tenI (8 - pl)≤lo:=by rw [← nat_ten]; omega
      have g2' : (hi:Int)≤(c:Int)*tenI (8 - pl):=by rw [← nat_ten]; omega
      have hT:((10 ^ pl:Nat) : Int)=tenI pl:=rfl
      have hM:=ten_mul h2
      have b4:=b.2.2.2
      have hle2:=le_of_ten g1' om g2'
      refine ⟨tenI pl - c,tenI pl - f,⟨tenI pl - c',tenI pl - f',?_,?_,by omega,by omega,by omega⟩,by rw [Int.sub_mul,hM]; omega,by rw [Int.sub_mul,hM]; omega⟩
      · rw [c2]; simp only; rw [flI_neg om,e2]; exact b.nmn om hup
      · rw [c2]; simp only; rw [clI_neg om,e1]; exact a.nmn hd0 om
    · obtain ⟨f, c, a, g1, g2⟩ := hb pl h1 h2
      have g1' : (f:Int)*tenI (8 - pl)≤lo:=by rw [← nat_ten]; omega
      have g2' : (hi:Int)≤(c:Int)*tenI (8 - pl):=by rw [← nat_ten]; omega
      have hT:((10 ^ pl:Nat) : Int)=tenI pl:=rfl
      have hM:=ten_mul h2
      have hle2:=le_of_ten g1' om g2'
      rcases a with a | ⟨e,a⟩
      · have b4 := a.2.2.2
        exact ⟨tenI pl - c,tenI pl - f,⟨Or.inr (Or.inr (Or.inr ⟨by omega,by omega,by omega,a.2.1⟩)),by omega,by omega,by omega⟩,by rw [Int.sub_mul,hM]; omega,by rw [Int.sub_mul,hM]; omega⟩
      · have b4 := a.2.2.2
        exact ⟨tenI pl - c,tenI pl - f,⟨(a.nmn hd0 om).congr (ten_pos 6) om (by rw [Int.neg_mul,hx e,Int.neg_mul]),by omega,by omega,by omega⟩,by rw [Int.sub_mul,hM]; omega,by rw [Int.sub_mul,hM]; omega⟩
theorem dn_up {a S:Nat}(hS:0<S)(h:a / S=(a+(S - 1)) / S) : a / S*S=a:=by
  rw [up_nat hS] at h
  by_cases e:a % S=0
  · exact Nat.div_mul_cancel (Nat.dvd_of_mod_eq_zero e)
  · rw [if_neg e] at h; omega
theorem lin_x {m K S:Nat}(h:m*S=K*50000) : (m:Int)*((20*S:Nat) : Int)=(K:Int)*1000000:=by
  have h3:(m:Int)*(S:Int)=(K:Int)*50000:=by have:=congrArg Int.ofNat h; simpa using this
  rw [show ((20*S:Nat) : Int)=20*(S:Int) by omega]; grind
theorem shX_pos {K S:Nat}(hK:0<K)(hS:0<S)(hS50:S≤50000)(h8:K<160*S)(hup:(K*50000+(S - 1)) / S<8000000)(h:TrpR (K*50000 / S) ((K*50000+(S - 1)) / S) K (20*S)) : ShX (K:Int) ((20*S:Nat) : Int)∧ShX (-(K:Int)) ((20*S:Nat) : Int):=by
  refine shX_aux hK hS h8 (Nat.div_pos om hS) (Nat.div_le_div_right (Nat.le_add_right _ _)) hup (fun e=>?_) (fl_nat hS) (cl_nat hS) h
  rw [ten6]; exact lin_x (dn_up hS e)
theorem shX_zero {d:Int}(hd:0<d) : ShX 0 d:=by
  refine ⟨50000000,50000000,by omega,fun _=>by omega,fun pl h1 h2=>?_⟩
  obtain ⟨e1,e2⟩:=half_fl' h1
  have hE:=ten_even' h1
  have hT:=ten_pos pl
  have hM:=ten_mul h2
  have c1:clp 0 d=(0,d):=by unfold clp; rw [if_pos om,if_pos om]
  have z1:flI 0 d (tenI 6)=0:=by unfold flI; rw [Int.zero_mul,Int.zero_ediv]
  have z2:clI 0 d (tenI 6)=0:=by unfold clI; rw [Int.zero_mul,Int.zero_emod,if_pos rfl,Int.zero_ediv]
  generalize hH:((10 ^ pl / 2:Nat) : Int)=H at *
  rw [hE,Int.mul_assoc] at hM
  refine ⟨⟨H,H,⟨H,H,?_,?_,by omega,by omega,by omega⟩,by omega,by omega⟩,⟨H,H,⟨Or.inl ⟨rfl,e1.symm,e2.symm⟩,by omega,by omega,by omega⟩,by omega,by omega⟩⟩
  · rw [c1]; simp only; rw [z1]; exact Or.inl ⟨rfl,e1.symm,e2.symm⟩
  · rw [c1]; simp only; rw [z2]; exact Or.inl ⟨rfl,e1.symm,e2.symm⟩
theorem shX_hi {n d:Int}(hd:0<d)(h:8*d≤n) : ShX n d:=by
  have c0:=clp_pos (n:=n) hd
  have c8:=clp_ge hd h
  have h1:8*tenI 6≤flI (clp n d).1 (clp n d).2 (tenI 6):=by
    unfold flI
    refine Int.le_ediv_of_mul_le c0 ?_
    rw [show 8*tenI 6*(clp n d).2=8*(clp n d).2*tenI 6 by grind]
    exact Int.mul_le_mul_of_nonneg_right c8 (Int.le_of_lt (ten_pos 6))
  have h2:=cl_fl_le (a:=(clp n d).1) (b:=(clp n d).2) (t:=tenI 6)
  refine ⟨99999999,100000000,by omega,fun _=>by omega,fun pl _ p2=>?_⟩
  have hM:=ten_mul p2
  have hT:=ten_pos (8 - pl)
  have hT':=ten_pos pl
  have g:(tenI pl - 1)*tenI (8 - pl)≤99999999:=by rw [Int.sub_mul,hM]; omega
  exact ⟨⟨tenI pl - 1,tenI pl,⟨tenI pl - 1,tenI pl,Or.inr (Or.inl ⟨by omega,rfl,rfl⟩),Or.inr (Or.inl ⟨by omega,rfl,rfl⟩),by omega,by omega,by omega⟩,g,by omega⟩,⟨tenI pl - 1,tenI pl,⟨Or.inr (Or.inl ⟨h,rfl,rfl⟩),by omega,by omega,by omega⟩,g,by omega⟩⟩
theorem shX_lo {n d:Int}(hd:0<d)(h:n≤-8*d) : ShX n d:=by
  have c0:=clp_pos (n:=n) hd
  have c8:=clp_le hd h
  have h1:clI (clp n d).1 (clp n d).2 (tenI 6)≤-8*tenI 6:=by
    have e:clI (clp n d).1 (clp n d).2 (tenI 6) = -flI (-(clp n d).1) (clp n d).2 (tenI 6):=by rw [flI_neg c0]; omega
    rw [e]
    have:8*tenI 6≤flI (-(clp n d).1) (clp n d).2 (tenI 6):=by
      unfold flI
      refine Int.le_ediv_of_mul_le c0 ?_
      rw [show 8*tenI 6*(clp n d).2=8*(clp n d).2*tenI 6 by grind]
      exact Int.mul_le_mul_of_nonneg_right om (Int.le_of_lt (ten_pos 6))
    omega
  have h2:=cl_fl_le (a:=(clp n d).1) (b:=(clp n d).2) (t:=tenI 6)
  refine ⟨0,1,by omega,fun _=>by omega,fun pl _ _=>?_⟩
  have hT:=ten_pos (8 - pl)
  have hT':=ten_pos pl
  exact ⟨⟨0,1,⟨0,1,Or.inr (Or.inr (Or.inl ⟨by omega,rfl,rfl⟩)),Or.inr (Or.inr (Or.inl ⟨by omega,rfl,rfl⟩)),by omega,by omega,by omega⟩,by omega,by omega⟩,⟨0,1,⟨Or.inr (Or.inr (Or.inl ⟨h,rfl,rfl⟩)),by omega,by omega,by omega⟩,by omega,by omega⟩⟩
structure TabP (S:Nat) : Prop where
  rng : ∀ K,0<K→K≤2000→K<160*S→Nat.gcd K S=1→prodB K=true→tripK S K=true
theorem shX_frac (T : ∀ S,1≤S→S≤30→TabP S){W D s:Nat}(w1:1≤W)(w40:W≤40)(d50:D≤50)(s1:1≤s)(s30:s≤30) :
    ∃ n d:Nat,0<d∧d≤600∧n≤2000∧n*(20*s)=W*D*d∧(0<n ↔ 0<D)∧ShX (n:Int) (d:Int)∧ShX (-(n:Int)) (d:Int):=by
  have hm:W*D≤2000:=by
    calc W * D ≤ 40 * 50 := Nat.mul_le_mul w40 d50
      _=2000:=rfl
  rcases Nat.eq_zero_or_pos D with h0 | h0
  · subst h0
    exact ⟨0,20*s,by omega,by omega,by omega,by omega,by omega,shX_zero om,by rw [show -((0:Nat) : Int)=0 by decide]; exact shX_zero om⟩
  have hp:0<W*D:=Nat.mul_pos w1 h0
  have hg:0<Nat.gcd (W*D) s:=Nat.gcd_pos_of_pos_left _ hp
  obtain ⟨K,hK⟩:=Nat.gcd_dvd_left (W*D) s
  obtain ⟨S,hS⟩:=Nat.gcd_dvd_right (W*D) s
  have hpr:=prod_div w1 w40 d50 (Nat.gcd_dvd_left (W*D) s) hg
  have eK:W*D / Nat.gcd (W*D) s=K:=by
    conv=>lhs; lhs; rw [hK]
    exact Nat.mul_div_cancel_left _ hg
  rw [eK] at hpr
  have hgc:Nat.gcd K S=1:=by
    have e:=Nat.gcd_mul_left (Nat.gcd (W*D) s) K S
    rw [← hK,← hS] at e
    have:Nat.gcd (W*D) s*1=Nat.gcd (W*D) s*Nat.gcd K S:=by omega
    exact (Nat.eq_of_mul_eq_mul_left hg this).symm
  generalize hG:Nat.gcd (W*D) s=g at *
  have K0:0<K:=by
    rcases Nat.eq_zero_or_pos K with h | h
    · rw [h,Nat.mul_zero] at hK; omega
    · exact h
  have S0:0<S:=by
    rcases Nat.eq_zero_or_pos S with h | h
    · rw [h,Nat.mul_zero] at hS; omega
    · exact h
  have KW:K≤W*D:=by
    calc K = 1 * K := (Nat.one_mul K).symm
      _≤g*K:=Nat.mul_le_mul_right _ hg
      _=W*D:=hK.symm
  have Ss:S≤s:=by
    calc S = 1 * S := (Nat.one_mul S).symm
      _≤g*S:=Nat.mul_le_mul_right _ hg
      _=s:=hS.symm
  refine ⟨K,20*S,by omega,by omega,by omega,?_,by omega,?_⟩
  · rw [hK,hS]; grind
  · by_cases h8 : K < 160 * S
    · exact shX_pos K0 S0 om h8 (up_lt S0 om h8) (tripK_ok S0 om ((T S S0 om).rng K K0 om h8 hgc hpr))
    · exact ⟨shX_hi om om,shX_lo om om⟩
end Go.Proofs.YtonigegpknhdnaaGreatDoor
