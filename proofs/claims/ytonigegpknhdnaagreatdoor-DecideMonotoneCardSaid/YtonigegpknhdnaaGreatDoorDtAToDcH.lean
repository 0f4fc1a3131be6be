/- Part of the proof of a statement about decisions. -/
import Derived.Test.YtonigegpknhdnaaGreatDoorDcAToDe9
import Derived.Test.YtonigegpknhdnaaGreatDoorDtT1
import Derived.Test.YtonigegpknhdnaaGreatDoorDtT2
import Derived.Test.YtonigegpknhdnaaGreatDoorDtT3
import Derived.Test.YtonigegpknhdnaaGreatDoorDtT4
import Derived.Test.YtonigegpknhdnaaGreatDoorDtT5
import Derived.Test.YtonigegpknhdnaaGreatDoorDtT6
import Derived.Test.YtonigegpknhdnaaGreatDoorDtT7
import Derived.Test.YtonigegpknhdnaaGreatDoorDl4ToDcE
import Derived.Test.YtonigegpknhdnaaGreatDoorEngPToEngH
set_option linter.all false
namespace Go.Proofs.YtonigegpknhdnaaGreatDoor
open Go Go.Eng Go.RowKit
theorem tabS_of {S top : Nat} (h : Rng pairK S top) (ht : 2000≤top ∨ 160 * S≤top + 1) : TabS S:=⟨fun K a b c d e=>h K a (by omega) c d e⟩
theorem dt_all (S : Nat) (h1 : 1≤S) (h2 : S≤30) : TabS S:=by
  rcases (by omega : S = 1 ∨ S = 2 ∨ S = 3 ∨ S = 4 ∨ S = 5 ∨ S = 6 ∨ S = 7 ∨ S = 8 ∨ S = 9 ∨ S = 10 ∨ S = 11 ∨ S = 12 ∨ S = 13 ∨ S = 14 ∨ S = 15 ∨ S = 16 ∨ S = 17 ∨ S = 18 ∨ S = 19 ∨ S = 20 ∨ S = 21 ∨ S = 22 ∨ S = 23 ∨ S = 24 ∨ S = 25 ∨ S = 26 ∨ S = 27 ∨ S = 28 ∨ S = 29 ∨ S = 30) with rfl | rfl | rfl | rfl | rfl | rfl | rfl | rfl | rfl | rfl | rfl | rfl | rfl | rfl | rfl | rfl | rfl | rfl | rfl | rfl | rfl | rfl | rfl | rfl | rfl | rfl | rfl | rfl | rfl | rfl
  · exact tabS_of dt1 (by decide)
  · exact tabS_of dt2 (by decide)
  · exact tabS_of dt3 (by decide)
  · exact tabS_of dt4 (by decide)
  · exact tabS_of dt5 (by decide)
  · exact tabS_of dt6 (by decide)
  · exact tabS_of dt7 (by decide)
  · exact tabS_of dt8 (by decide)
  · exact tabS_of dt9 (by decide)
  · exact tabS_of dt10 (by decide)
  · exact tabS_of dt11 (by decide)
  · exact tabS_of dt12 (by decide)
  · exact tabS_of dt13 (by decide)
  · exact tabS_of dt14 (by decide)
  · exact tabS_of dt15 (by decide)
  · exact tabS_of dt16 (by decide)
  · exact tabS_of dt17 (by decide)
  · exact tabS_of dt18 (by decide)
  · exact tabS_of dt19 (by decide)
  · exact tabS_of dt20 (by decide)
  · exact tabS_of dt21 (by decide)
  · exact tabS_of dt22 (by decide)
  · exact tabS_of dt23 (by decide)
  · exact tabS_of dt24 (by decide)
  · exact tabS_of dt25 (by decide)
  · exact tabS_of dt26 (by decide)
  · exact tabS_of dt27 (by decide)
  · exact tabS_of dt28 (by decide)
  · exact tabS_of dt29 (by decide)
  · exact tabS_of dt30 (by decide)
theorem shAll_int {W D s : Int} (w1 : 1≤W) (w40 : W≤40) (d1 : -50≤D) (d50 : D≤50) (s1 : 1≤s) (s30 : s≤30) :
    ∃ n d : Int,0 < d∧d≤600∧-2000≤n∧n≤2000∧n * (20 * s) = W * D * d∧(0 < n ↔ 0 < D)∧ShAll n d:=by
  obtain ⟨W',rfl⟩ : ∃ W' : Nat,W = W':=⟨W.toNat,by omega⟩
  obtain ⟨s',rfl⟩ : ∃ s' : Nat,s = s':=⟨s.toNat,by omega⟩
  by_cases h : 0≤D
  · obtain ⟨D', rfl⟩ : ∃ D' : Nat, D = D' := ⟨D.toNat, by omega⟩
    obtain ⟨n,d,h1,h2,h3,h4,h5,h6,_⟩:=shAll_frac dt_all (W:=W') (D:=D') (s:=s') (by omega) (by omega) (by omega) (by omega) (by omega)
    exact ⟨n,d,by omega,by omega,by omega,by omega,by have:=congrArg Int.ofNat h4; simpa using this,by omega,h6⟩
  · obtain ⟨D', rfl⟩ : ∃ D' : Nat, D = -(D' : Int) := ⟨(-D).toNat, by omega⟩
    obtain ⟨n,d,h1,h2,h3,h4,h5,_,h6⟩:=shAll_frac dt_all (W:=W') (D:=D') (s:=s') (by omega) (by omega) (by omega) (by omega) (by omega)
    refine ⟨-(n : Int),d,by omega,by omega,by omega,by omega,?_,by omega,h6⟩
    have : ((n * (20 * s') : Nat) : Int) = ((W' * D' * d : Nat) : Int):=congrArg Int.ofNat h4
    simp only [Int.natCast_mul] at this
    have e : ((20 : Nat) : Int) = 20:=rfl
    rw [e] at this
    rw [Int.neg_mul,this,Int.mul_neg,Int.neg_mul]
section
variable {kd : Nat} {L W G gd R q S D : Int}
theorem MkP.out (m : MkP kd L W G gd R q S D) : ∃ n1 e1 n2 e2,OutA n1 e1 n2 e2∧Sz n1 e1∧Sz n2 e2∧n1 * (20 * S) = -(W * D) * e1∧n2 * (20 * S) = (W * D - 40 * W) * e2:=by
  obtain ⟨k1,k3,l1,l2,w1,w2,g0,g2,gk,r0,r1,q1,q2,s1,s2,d1,d2⟩:=m
  obtain ⟨n1,e1,a1,a2,a3,a4,a5,_,a7⟩:=shAll_int (W:=W) (D:=-D) (s:=S) w1 w2 (by omega) (by omega) s1 s2
  obtain ⟨n2,e2,b1,b2,b3,b4,b5,_,b7⟩:=shAll_int (W:=W) (D:=D - 40) (s:=S) w1 w2 (by omega) (by omega) s1 s2
  have z1 : Sz n1 e1:=sz_ (by omega) a1 (by omega)
  have z2 : Sz n2 e2:=sz_ (by omega) b1 (by omega)
  exact ⟨n1,e1,n2,e2,outA_of z1 z2 a7 b7,z1,z2,by rw [a5,Int.mul_neg],by rw [b5,Int.mul_sub,Int.mul_comm W 40]⟩
theorem MkP.outC (m : MkP kd L W G gd R q S D) : ∃ lo hi : Int,lo≤hi∧∀ pl,1≤pl→pl≤8→∃ k u,OutC pl (L * 40 + W * D) 400 S 20 L 10 (L + W) 10 k u∧k * tenI (8 - pl)≤lo∧hi≤u * tenI (8 - pl):=by
  obtain ⟨n1,e1,n2,e2,⟨lo,hi,hl,ha⟩,_,_,h1,h2⟩:=m.out
  obtain ⟨hv,hs,hs0⟩:=m.vs
  have w1:=m.w1
  have w2:=m.w2
  have l1:=m.l1
  have l2:=m.l2
  refine ⟨lo,hi,hl,fun pl p1 p8=>?_⟩
  obtain ⟨k,u,o,x,y⟩:=ha pl p1 p8
  exact ⟨k,u,o _ _ _ _ _ _ _ _ hv hs hs0 (sz_ (by omega) (by decide) (by decide)) (sz_ (by omega) (by decide) (by decide)) (by omega) (by grind) (by grind),x,y⟩
end
theorem sh_ex {pl u f c : Nat} {n d : Int} (hd : 0 < d) (e : n * 1000000 = u * d) (h0 : 0 < u) (h8 : u < 8000000) (h : Cel pl u f c) : Sh pl n d f c∧Sh pl (-n) d (tenI pl - c) (tenI pl - f):=by
  have hT : ((10 ^ pl : Nat) : Int) = tenI pl:=rfl
  have hn0 : 0 < n:=by
    rcases Int.lt_or_le 0 n with x | x
    · exact x
    · have:=Int.mul_pos (show (0 : Int) < u by omega) hd; omega
  have hn8 : n < 8 * d:=by
    have : (u : Int) * d < 8000000 * d:=Int.mul_lt_mul_of_pos_right (by omega) hd
    omega
  have c1 : clp n d = (n,d):=by unfold clp; rw [if_pos (by omega),if_pos (by omega)]
  have c2 : clp (-n) d = (-n,d):=by unfold clp; rw [if_pos (by omega),if_pos (by omega)]
  have e1 : flI n d (tenI 6) = u∧clI n d (tenI 6) = u:=by
    unfold flI clI
    rw [ten6,e,Int.mul_ediv_cancel _ (by omega),Int.mul_emod_left,if_pos rfl]; exact ⟨rfl,rfl⟩
  have hle:=h.le
  have h3:=h.2.2.1
  have h4:=h.2.2.2
  constructor
  · refine ⟨f, c, ?_, ?_, by omega, by omega, by omega⟩
    · rw [c1]; simp only; rw [e1.1]; exact h.nmc h0 h8
    · rw [c1]; simp only; rw [e1.2]; exact h.nmc h0 h8
  · refine ⟨tenI pl - c, tenI pl - f, ?_, ?_, by omega, by omega, by omega⟩
    · rw [c2]; simp only; rw [flI_neg hd,e1.2]; exact h.nmn h0 h8
    · rw [c2]; simp only; rw [clI_neg hd,e1.1]; exact h.nmn h0 h8
def oneK (ck : Nat→Nat→(Nat→Nat→Bool)→Bool) (T n d F C : Nat) : Bool:=ck n d fun f c=>and (and (Nat.beq f F) (Nat.beq c C)) (and (Nat.ble T (Nat.mul 2 F)) (Nat.ble C T))
theorem oneK_ok {pl u n d T F C : Nat} {ck : Nat→Nat→(Nat→Nat→Bool)→Bool} (hc : CkR pl ck) (hT : T = 10 ^ pl) (en : u / Nat.gcd u 1000000 = n) (ed : 1000000 / Nat.gcd u 1000000 = d) (hn : 0 < n) (hd : 0 < d) (h : oneK ck T n d F C = true) : Cel pl u F C:=by
  obtain ⟨f,c,hP,hk⟩:=hc n d _ hn hd h
  simp only [Bool.and_eq_true,Nat.ble_eq] at hk
  obtain ⟨⟨h1,h2⟩,h3,h4⟩:=hk
  have h1:=Nat.eq_of_beq_eq_true h1
  have h2:=Nat.eq_of_beq_eq_true h2
  subst h1 h2 en ed hT
  obtain ⟨r1,r2⟩:=posR_cel (by decide) hP
  exact ⟨r1,r2,h3,h4⟩
theorem ce1 : Cel 4 2000000 9772 9773:=oneK_ok (T:=10000) (n:=2) (d:=1) nmo4 (by decide) (by decide +kernel) (by decide +kernel) (by decide) (by decide) (by decide +kernel)
theorem ce2 : Cel 4 2500000 9937 9938:=oneK_ok (T:=10000) (n:=5) (d:=2) nmo4 (by decide) (by decide +kernel) (by decide +kernel) (by decide) (by decide) (by decide +kernel)
theorem ce3 : Cel 4 1500000 9331 9332:=oneK_ok (T:=10000) (n:=3) (d:=2) nmo4 (by decide) (by decide +kernel) (by decide +kernel) (by decide) (by decide) (by decide +kernel)
theorem ce4 : Cel 4 4500000 9999 10000:=oneK_ok (T:=10000) (n:=9) (d:=2) nmo4 (by decide) (by decide +kernel) (by decide +kernel) (by decide) (by decide) (by decide +kernel)
theorem ce5 : Cel 4 500000 6914 6915:=oneK_ok (T:=10000) (n:=1) (d:=2) nmo4 (by decide) (by decide +kernel) (by decide +kernel) (by decide) (by decide) (by decide +kernel)
theorem ce6 : Cel 4 3500000 9997 9998:=oneK_ok (T:=10000) (n:=7) (d:=2) nmo4 (by decide) (by decide +kernel) (by decide +kernel) (by decide) (by decide) (by decide +kernel)
theorem ce7 : Cel 3 2000000 977 978:=oneK_ok (T:=1000) (n:=2) (d:=1) nmo3 (by decide) (by decide +kernel) (by decide +kernel) (by decide) (by decide) (by decide +kernel)
theorem ce8 : Cel 8 2000000 97724986 97724987:=oneK_ok (T:=100000000) (n:=2) (d:=1) nmo8 (by decide) (by decide +kernel) (by decide +kernel) (by decide) (by decide) (by decide +kernel)
theorem szd {a b : Int} (h : (decide (-1000000≤a) && decide (a≤1000000) && decide (0 < b) && decide (b≤1000000)) = true) : Sz a b:=by
  simp only [Bool.and_eq_true,decide_eq_true_eq] at h
  exact ⟨by omega,h.1.2,by omega⟩
theorem out_ex {pl : Nat} {n1 d1 n2 d2 f1 c1 f2 c2 va vb : Int} (p1 : 1≤pl) (p12 : pl≤12) (z1 : Sz n1 d1) (z2 : Sz n2 d2) (h1 : Sh pl n1 d1 f1 c1) (h2 : Sh pl n2 d2 f2 c2) (v : Sz va vb) (e1 : ((-2) * vb - va * 1) * 1 * d1 = n1 * (1 * vb * 1)) (e2 : (va * 1 - 2 * vb) * 1 * d2 = n2 * (vb * 1 * 1)) :
    OutC pl va vb 1 1 (-2) 1 2 1 (min (f1 + f2) (tenI pl)) (min (c1 + c2) (tenI pl)):=
  outN_of p1 p12 z1 z2 h1 h2 va vb 1 1 (-2) 1 2 1 v (szd (by decide)) (by decide) (szd (by decide)) (szd (by decide)) (by decide) e1 e2
theorem rl1 : Rl 1 (-2) 1 2 1 0 1 1 20 (-2) 1 2 1:=⟨by decide,by decide,szd (by decide),szd (by decide),szd (by decide),szd (by decide),by decide,by decide,by decide,by decide,by decide,.inl (by decide)⟩
theorem rl2 : Rl 2 (-2) 1 2 1 1 1 1 20 (-1) 1 1 1:=⟨by decide,by decide,szd (by decide),szd (by decide),szd (by decide),szd (by decide),by decide,by decide,by decide,by decide,by decide,.inr (.inl (by decide))⟩
theorem rl3 : Rl 1 (-2) 1 2 1 0 1 455 10000 (-2) 1 2 1:=⟨by decide,by decide,szd (by decide),szd (by decide),szd (by decide),szd (by decide),by decide,by decide,by decide,by decide,by decide,.inl (by decide)⟩
theorem rl4 : Rl 3 (-2) 1 2 1 1 2 1 20 (-5) 2 5 2:=⟨by decide,by decide,szd (by decide),szd (by decide),szd (by decide),szd (by decide),by decide,by decide,by decide,by decide,by decide,.inr (.inr (by decide))⟩
theorem rl5 : Rl 2 (-2) 1 2 1 3 1 1 20 1 1 (-1) 1:=⟨by decide,by decide,szd (by decide),szd (by decide),szd (by decide),szd (by decide),by decide,by decide,by decide,by decide,by decide,.inr (.inl (by decide))⟩
theorem oc1 : OutC 4 0 1 1 1 (-2) 1 2 1 454 456:=out_ex (n1:=-2) (d1:=1) (n2:=-2) (d2:=1) (by decide) (by decide) (szd (by decide)) (szd (by decide)) (sh_ex (n:=2) (by decide) (by decide) (by decide) (by decide) ce1).2 (sh_ex (n:=2) (by decide) (by decide) (by decide) (by decide) ce1).2 (szd (by decide)) (by decide) (by decide)
theorem oc2 : OutC 4 1 2 1 1 (-2) 1 2 1 730 732:=out_ex (n1:=-5) (d1:=2) (n2:=-3) (d2:=2) (by decide) (by decide) (szd (by decide)) (szd (by decide)) (sh_ex (n:=5) (by decide) (by decide) (by decide) (by decide) ce2).2 (sh_ex (n:=3) (by decide) (by decide) (by decide) (by decide) ce3).2 (szd (by decide)) (by decide) (by decide)
theorem oc3 : OutC 4 5 2 1 1 (-2) 1 2 1 6914 6916:=out_ex (n1:=-9) (d1:=2) (n2:=1) (d2:=2) (by decide) (by decide) (szd (by decide)) (szd (by decide)) (sh_ex (n:=9) (by decide) (by decide) (by decide) (by decide) ce4).2 (sh_ex (n:=1) (by decide) (by decide) (by decide) (by decide) ce5).1 (szd (by decide)) (by decide) (by decide)
theorem oc4 : OutC 4 3 2 1 1 (-2) 1 2 1 3087 3089:=out_ex (n1:=-7) (d1:=2) (n2:=-1) (d2:=2) (by decide) (by decide) (szd (by decide)) (szd (by decide)) (sh_ex (n:=7) (by decide) (by decide) (by decide) (by decide) ce6).2 (sh_ex (n:=1) (by decide) (by decide) (by decide) (by decide) ce5).2 (szd (by decide)) (by decide) (by decide)
theorem oc5 : OutC 3 0 1 1 1 (-2) 1 2 1 44 46:=out_ex (n1:=-2) (d1:=1) (n2:=-2) (d2:=1) (by decide) (by decide) (szd (by decide)) (szd (by decide)) (sh_ex (n:=2) (by decide) (by decide) (by decide) (by decide) ce7).2 (sh_ex (n:=2) (by decide) (by decide) (by decide) (by decide) ce7).2 (szd (by decide)) (by decide) (by decide)
theorem oc6 : OutC 8 0 1 1 1 (-2) 1 2 1 4550026 4550028:=out_ex (n1:=-2) (d1:=1) (n2:=-2) (d2:=1) (by decide) (by decide) (szd (by decide)) (szd (by decide)) (sh_ex (n:=2) (by decide) (by decide) (by decide) (by decide) ce8).2 (sh_ex (n:=2) (by decide) (by decide) (by decide) (by decide) ce8).2 (szd (by decide)) (by decide) (by decide)
theorem sane_c {w : World} (ht : Tb w) : Calls Tryz.prog 8 #[] w (Ret w fun v _ => v = .bool true) :=
  sane16_ok (ka1:=454) (kb1:=tenI 4) (ua1:=456) (ub1:=tenI 4) (ka2:=730) (kb2:=tenI 4) (ua2:=732) (ub2:=tenI 4) (ka3:=6914) (kb3:=tenI 4) (ua3:=6916) (ub3:=tenI 4) (ka4:=3087) (kb4:=tenI 4) (ua4:=3089) (ub4:=tenI 4) (ka5:=44) (kb5:=tenI 3) (ua5:=46) (ub5:=tenI 3) (ka6:=4550026) (kb6:=tenI 8) (ua6:=4550028) (ub6:=tenI 8)
    (fun W hW=>decide_c rl1 (by decide) (szd (by decide)) (by decide) oc1 hW) (fun W hW=>decide_c rl1 (by decide) (szd (by decide)) (by decide) oc2 hW) (fun W hW=>decide_c rl1 (by decide) (szd (by decide)) (by decide) oc3 hW)
    (fun W hW=>decide_c rl2 (by decide) (szd (by decide)) (by decide) oc4 hW) (fun W hW=>decide_c rl3 (by decide) (szd (by decide)) (by decide) oc5 hW) (fun W hW=>decide_c rl3 (by decide) (szd (by decide)) (by decide) oc6 hW)
    (fun W hW=>rl4.accept (by decide) hW) (fun W hW=>rl5.acceptF (by decide) hW) (fun W hW=>contains_in (q9_cell (by decide) (by decide)) (q9_cell (by decide) (by decide)) (q9_12 (by decide) (by decide) (by decide)) (by decide) hW)
    (fun W hW=>rl1.valid hW) (fun W _=>validZ_ok) (fun W hW=>sound_c rl1 (by decide) (szd (by decide)) (by decide) oc1 hW) (fun W hW=>sound_c rl1 (by decide) (szd (by decide)) (by decide) oc1 hW) ht
end Go.Proofs.YtonigegpknhdnaaGreatDoor
namespace Go.Proofs.YtonigegpknhdnaaGreatDoor
open Go Go.Eng Go.RowKit
attribute [local irreducible] wpListIn Code.wpIn Oper.wpIn Exit.then Exit.inBlock Exit.noGoto
set_option maxHeartbeats 40000000
theorem q9n0 : Q9 0 1:=⟨by decide,by decide,by decide⟩
set_option maxRecDepth 100000 in
theorem monotone_walk {kd la lb ha hb ga gb ra rb va vb sa sb : Int} {x0 x1 x2 x3 x4 x5 x6 : Int} {w : World} {y mo gu v1 v2 rn rd gn gd : Int} {pl : Nat} (hy : In64 y) (hpl : 1 + pickI y 8 = (pl : Int)) (hmo : In64 mo) (hgu : In64 gu) (b1 : 1 ≤ v1) (b2 : 1 ≤ v2) (h11 : v1 = 1 → v2 = 1) (h22 : v1 ≠ 2 → v2 ≠ 2) (hSn : ∀ W, Tb W → Calls Tryz.prog 8 #[] W (Ret W fun v _ => v = .bool true)) (hMk : ∀ W, Tb W → Calls Tryz.prog 9 #[.agg #[.int .i64 (x0), .int .i64 (x1), .int .i64 (x2), .int .i64 (x3), .int .i64 (x4), .int .i64 (x5), .int .i64 (x6)]] W (Ret W fun v _ => v = .agg #[.int .i64 (kd), S ((qR la lb).1), S ((qR la lb).2), S ((qR ha hb).1), S ((qR ha hb).2), S ((qR ga gb).1), S ((qR ga gb).2), S ((qR ra rb).1), S ((qR ra rb).2), S ((qR va vb).1), S ((qR va vb).2), S ((qR sa sb).1), S ((qR sa sb).2)])) (hV1 : ∀ W, Tb W → Calls Tryz.prog 11 #[.agg #[.int .i64 (kd), S ((qR la lb).1), S ((qR la lb).2), S ((qR ha hb).1), S ((qR ha hb).2), S ((qR ga gb).1), S ((qR ga gb).2), S ((qR ra rb).1), S ((qR ra rb).2), S ((qR va vb).1), S ((qR va vb).2), S ((qR sa sb).1), S ((qR sa sb).2)], .int .i64 pl] W (Ret W fun v _ => v = .int .i64 v1)) (hV2 : ∀ W, Tb W → Calls Tryz.prog 11 #[.agg #[.int .i64 (kd), S ((qR la lb).1), S ((qR la lb).2), S ((qR ha hb).1), S ((qR ha hb).2), S ((qR gn gd).1), S ((qR gn gd).2), S ((qR rn rd).1), S ((qR rn rd).2), S ((qR va vb).1), S ((qR va vb).2), S ((qR sa sb).1), S ((qR sa sb).2)], .int .i64 pl] W (Ret W fun v _ => v = .int .i64 v2)) (qr : Q9 ra rb) (qmo : Q9 (pickI mo 20) 100) (qr1 : Q9 (ra * 100 + pickI mo 20 * rb) (rb * 100)) (qg : Q9 ga gb) (qby : Q9 (pickI gu 10) 20) (qgs : Q9 (ga * 20 - pickI gu 10 * gb) (gb * 20)) (qga : Q9 (ga * 20 + pickI gu 10 * gb) (gb * 20)) (hR1 : 0 < cmpI ((ra * 100 + pickI mo 20 * rb) * 1) (1 * (rb * 100)) → qR 1 1 = qR rn rd) (hR0 : ¬ 0 < cmpI ((ra * 100 + pickI mo 20 * rb) * 1) (1 * (rb * 100)) → qR (ra * 100 + pickI mo 20 * rb) (rb * 100) = qR rn rd) (hGa : kd = 2 → cmpI ((ga * 20 - pickI gu 10 * gb) * 1) (0 * (gb * 20)) < 0 → qR 0 1 = qR gn gd) (hGb : kd = 2 → ¬ cmpI ((ga * 20 - pickI gu 10 * gb) * 1) (0 * (gb * 20)) < 0 → qR (ga * 20 - pickI gu 10 * gb) (gb * 20) = qR gn gd) (hGc : kd = 3 → qR (ga * 20 + pickI gu 10 * gb) (gb * 20) = qR gn gd) (hGd : kd ≠ 2 → kd ≠ 3 → qR ga gb = qR gn gd) (ht : Tb w) :
    Calls Tryz.prog 4 #[.agg #[.int .i64 (x0),.int .i64 (x1),.int .i64 (x2),.int .i64 (x3),.int .i64 (x4),.int .i64 (x5),.int .i64 (x6)],.int .i64 (y),.int .i64 (mo),.int .i64 (gu)] w (Ret w fun v w'=>v = .bool true):=by
 have bd:=pick_bd y 8 dc;have bd2:=pick_bd mo 20 dc;have bd3:=pick_bd gu 10 dc;refine f_in Tryz.func4 rfl ?_;refine go ?_;refine bx (fun qy l0 fo=>?_);have fh:=l0.2;refine go ?_;refine cl en2008 ((hSn _ (ht.ext fh))) ?_;rintro q5 q6 j9 rfl;have ⟨fo,fh⟩:=be1 j9.2 fo fh;refine go ?_;refine l_op (k_loadA (cs:=[.int .i64 (x0),.int .i64 (x1),.int .i64 (x2),.int .i64 (x3),.int .i64 (x4),.int .i64 (x5),.int .i64 (x6)]) (b:=w.heap.size) (o:=0) U2022 rfl sz2022 rfl (Blk.cells fo (i:=0) rfl) ?_);refine cl en2009 ((hMk _ (ht.ext fh))) ?_;rintro q7 f7 ka rfl;have ⟨fo,fh⟩:=be1 ka.2 fo fh;refine al inf2029 (fun q8 kb l9=>?_);have ⟨fo,fh⟩:=be1 kb.2 fo fh;refine l_op (k_storeA (b:=f7.heap.size) (o:=0) (vs:=[.int .i64 (kd),S ((qR la lb).1),S ((qR la lb).2),S ((qR ha hb).1),S ((qR ha hb).2),S ((qR ga gb).1),S ((qR ga gb).2),S ((qR ra rb).1),S ((qR ra rb).2),S ((qR va vb).1),S ((qR va vb).2),S ((qR sa sb).1),S ((qR sa sb).2)]) sz2029 rfl rfl (by simp [Value.oneCell',S]) l9 (by first | decide | exact Nat.le_of_ble_eq_true rfl | simp) (fun re ji f6=>?_));have f6:=Blk.cst f6 (cs:=#[.int .i64 (kd),S ((qR la lb).1),S ((qR la lb).2),S ((qR ha hb).1),S ((qR ha hb).2),S ((qR ga gb).1),S ((qR ga gb).2),S ((qR ra rb).1),S ((qR ra rb).2),S ((qR va vb).1),S ((qR va vb).2),S ((qR sa sb).1),S ((qR sa sb).2)]) (by kernel_rfl);have ⟨fo,fh,rh⟩:=pl1 ji fo fh;refine go ?_;refine clb en2010 (hc:=pickL16_ok y 8 _ hy dc) (hk:=?_);rintro ri rk jj rfl
 have ⟨fo,f6,fh⟩:=be2 jj.2 fo f6 fh;refine l_op (k_add (a:=1) (b:=pickI y 8) (c:=(pl : Int)) rfl rfl (by unfold In64; omega) hpl ?_);refine go ?_;refine l_op (k_loadA (cs:=[.int .i64 (kd),S ((qR la lb).1),S ((qR la lb).2),S ((qR ha hb).1),S ((qR ha hb).2),S ((qR ga gb).1),S ((qR ga gb).2),S ((qR ra rb).1),S ((qR ra rb).2),S ((qR va vb).1),S ((qR va vb).2),S ((qR sa sb).1),S ((qR sa sb).2)]) (b:=f7.heap.size) (o:=0) U2029 rfl sz2029 rfl (Blk.cells f6 (i:=0) (by kernel_rfl)) ?_);refine go ?_;refine cl en2011 ((hV1 _ (ht.ext fh))) ?_;rintro rm co jk rfl;have ⟨fo,f6,fh⟩:=be2 jk.2 fo f6 fh;refine go ?_;refine l_op (k_loadA (cs:=[.int .i64 (kd),S ((qR la lb).1),S ((qR la lb).2),S ((qR ha hb).1),S ((qR ha hb).2),S ((qR ga gb).1),S ((qR ga gb).2),S ((qR ra rb).1),S ((qR ra rb).2),S ((qR va vb).1),S ((qR va vb).2),S ((qR sa sb).1),S ((qR sa sb).2)]) (b:=f7.heap.size) (o:=0) U2029 rfl sz2029 rfl (Blk.cells f6 (i:=0) (by kernel_rfl)) ?_);refine al inf2029 (fun rp jl mc=>?_);have ⟨fo,f6,fh⟩:=be2 jl.2 fo f6 fh;refine l_op (k_storeA (b:=co.heap.size) (o:=0) (vs:=[.int .i64 (kd),S ((qR la lb).1),S ((qR la lb).2),S ((qR ha hb).1),S ((qR ha hb).2),S ((qR ga gb).1),S ((qR ga gb).2),S ((qR ra rb).1),S ((qR ra rb).2),S ((qR va vb).1),S ((qR va vb).2),S ((qR sa sb).1),S ((qR sa sb).2)]) sz2029 rfl rfl (by simp [Value.oneCell',S]) mc (by first | decide | exact Nat.le_of_ble_eq_true rfl | simp) (fun me jb jm=>?_))
 have jm:=Blk.cst jm (cs:=#[.int .i64 (kd),S ((qR la lb).1),S ((qR la lb).2),S ((qR ha hb).1),S ((qR ha hb).2),S ((qR ga gb).1),S ((qR ga gb).2),S ((qR ra rb).1),S ((qR ra rb).2),S ((qR va vb).1),S ((qR va vb).2),S ((qR sa sb).1),S ((qR sa sb).2)]) (by kernel_rfl);have ⟨fo,f6,fh,rq⟩:=pl2 jb fo f6 fh;refine go ?_;refine c_dv hmix 12 [14,29,30,31,32,33,34,35,36,37,38] [some (30,.pointer (some ⟨f7.heap.size,0,none⟩)),some (31,.pointer (some ⟨f7.heap.size,7,none⟩)),some (32,.agg #[S ((qR ra rb).1),S ((qR ra rb).2)]),some (33,.int .i64 (mo)),some (34,.int .i64 (pickI mo 20)),some (35,.agg #[S ((qR (pickI mo 20) 100).1),S ((qR (pickI mo 20) 100).2)]),some (36,.tuple #[.agg #[S ((qR (ra * 100 + (pickI mo 20) * rb) (rb * 100)).1),S ((qR (ra * 100 + (pickI mo 20) * rb) (rb * 100)).2)],.int .i64 (0)]),some (29,.tuple #[.agg #[S ((qR (ra * 100 + (pickI mo 20) * rb) (rb * 100)).1),S ((qR (ra * 100 + (pickI mo 20) * rb) (rb * 100)).2)],.int .i64 (0)]),some (37,.agg #[S ((qR (ra * 100 + (pickI mo 20) * rb) (rb * 100)).1),S ((qR (ra * 100 + (pickI mo 20) * rb) (rb * 100)).2)]),some (38,.int .i64 (0)),none,none] (XA me 10 11 14 25 #[S ([]),S ([])] #[S ((qR (ra * 100 + (pickI mo 20) * rb) (rb * 100)).1),S ((qR (ra * 100 + (pickI mo 20) * rb) (rb * 100)).2)]) XA.start (by kernel_rfl) (by kernel_rfl) (by kernel_rfl) ?_ ?_;refine ⟨fun rr rt ru mf ry mg r6 r7 r8=>?_,?_⟩;obtain ⟨rr,rfl⟩:=ovE mf
 refine l_op (k_fieldAddr (b:=f7.heap.size) (o:=0) (off:=0) (oo:=0) U2029 rfl rfl sz2027 rfl rfl ?_);refine go ?_;exact dvA rfl mg (Ext.refl _);refine ⟨fun mh r9 sc sd mi mj se sh si=>?_,?_⟩;obtain ⟨mh,rfl⟩:=ovE sd;have mu:=zpv (mi 0 _ _ rfl rfl);refine l_op (k_fieldAddr (b:=f7.heap.size) (o:=0) (off:=7) (oo:=7) U2027 rfl rfl sz36 rfl mu ?_);refine go ?_;exact dvA rfl mj (Ext.refl _);refine ⟨fun mv sj sl sn mw ke sq sr ss=>?_,?_⟩;obtain ⟨mv,rfl⟩:=ovE sn;have mx:=zpv (mw 1 _ _ rfl rfl);have my:=(be ke.1 f6);refine go ?_;exact dvA rfl ke (Ext.refl _);refine ⟨fun su sy ta mz tc m5 td te tg=>?_,?_⟩;obtain ⟨su,rfl⟩:=ovE mz;refine go ?_;exact dvA rfl m5 (Ext.refl _);refine ⟨fun m6 th tj tl m7 kf tp tq tu=>?_,?_⟩;obtain ⟨m6,rfl⟩:=ovE tl;have m9:=zpv (m7 3 _ _ rfl rfl);refine clb en2010 (hc:=pickL16_ok mo 20 _ hmo dc) (hk:=?_) (hv:=cons_eq m9 (cons_eq rfl rfl));rintro tw tz kh rfl;refine go ?_;exact dvA rfl kf kh.2;refine ⟨fun nc t7 t8 ua nd ki ub ud ue=>?_,?_⟩;obtain ⟨nc,rfl⟩:=ovE ua;have nf:=zpv (nd 4 _ _ rfl rfl);refine clb en2014 (hc:=l16of_ok om om) (hk:=?_) (hv:=cons_eq nf (cons_eq rfl rfl));rintro uf ug km rfl;refine go ?_;exact dvA rfl ki km.2;refine ⟨fun kn uh ui uj ko kp uk ul um=>?_,?_⟩;obtain ⟨kn,rfl⟩:=ovE uj;have nh:=zpv (ko 2 _ _ rfl rfl);have ni:=zpv (ko 5 _ _ rfl rfl);have jn:=xt fh kp.1;refine cl en217 (qAddX qr qmo (ht.ext jn)) ?_ (cons_eq nh (cons_eq ni rfl));rintro un uo kq rfl
 refine go ?_;exact dvA rfl kp kq.2;refine ⟨fun nj uq ut uu nk nl uv uw ux=>?_,?_⟩;obtain ⟨nj,rfl⟩:=ovE uu;have nn:=zpv (nk 6 _ _ rfl rfl);refine go ?_;exact dvA rfl nl (Ext.refl _);refine ⟨fun nu uy uz u7 nw nz u9 vd ve=>?_,?_⟩;obtain ⟨nu,rfl⟩:=ovE u7;have n4:=zpv (nw 7 _ _ rfl rfl);refine go ?_;exact dvA rfl nz (Ext.refl _);refine ⟨fun n6 vg vh vi n7 n8 vj vk vl=>?_,?_⟩;obtain ⟨n6,rfl⟩:=ovE vi;have n9:=zpv (n7 7 _ _ rfl rfl);refine go ?_;exact dvA rfl n8 (Ext.refl _);refine ⟨fun vm vn vo vq vr kr oa oc vt=>?_,?_⟩;obtain ⟨vm,rfl⟩:=ovE vq;have jo:=xt fh kr.1;have vu:=bz jo;refine al inf36 (fun vw ks oe=>?_);refine go ?_;exact dvAa rfl kr (unl oa (i:=10) (j:=11) rfl oc) ks.2 oe;refine ⟨fun og vx vy vz oh jp v8 oi ol=>?_,?_⟩;obtain ⟨og,rfl⟩:=ovE vz;have ot:=zpv (oh 8 _ _ rfl rfl);have jq:=xt fh jp.1;have wc:=bz jq;obtain ⟨ou,jc,ow,ox⟩:=XA.opn jp (ol 10 rfl) oi;have jc:=zpv jc;have we:=bz fh;refine SA ox (fun wh jr oy=>?_);have wi:=psz jr;refine go ?_;exact dvAs (.inr rfl) jp jc ow jr oy;exact trivial;intro kt ku wj kv gh oz ia;obtain ⟨kt,rfl⟩:=ovE gh;have kw:=(be ia.1 fo);have wk:=bt kw;have ky:=(be ia.1 f6);have wl:=bt ky;have kz:=(be ia.1 jm);have wm:=bt kz;have js:=xt fh ia.1;have wn:=bz js;have wo:=bz ia.1;obtain ⟨gy,jt,wp,ju⟩:=XA.fin ia (kv 10 rfl) (.inl (kv 11 rfl));have jt:=zpv jt;have ws:=bt ju;have o0:=zpv (oz 9 _ _ rfl rfl);refine go ?_
 have jv : kt 14 = .pointer (some ⟨gy,0,none⟩):=(jt);refine c_dv hmix 2 [39,40] [some (39,.agg #[S ((qR (ra * 100 + (pickI mo 20) * rb) (rb * 100)).1),S ((qR (ra * 100 + (pickI mo 20) * rb) (rb * 100)).2)]),some (40,.agg #[S ((qR 1 1).1),S ((qR 1 1).2)])] (XE ku) (Ext.drew ku) (by kernel_rfl) (by kernel_rfl) (by kernel_rfl) ?_ ?_;refine ⟨fun wt wu wv o5 ww ld wx wy xc=>?_,?_⟩;obtain ⟨wt,rfl⟩:=ovE o5;have o6:=(be ld ju);refine go ?_;exact dvE rfl ld (Ext.refl _);refine ⟨fun xd xe xf xg xh lg xi xj xk=>?_,?_⟩;obtain ⟨xd,rfl⟩:=ovE xg;refine clb en2014 (hc:=l16of_ok om om) (hk:=?_);rintro xl xm lj rfl;refine go ?_;exact dvE rfl lg lj.2;exact trivial;intro fm xn xo xp fq lk ic;obtain ⟨fm,rfl⟩:=ovE fq;have fe:=(be ic kw);have xq:=bt fe;have fg:=(be ic ky);have xr:=bt fg;have gi:=(be ic kz);have xu:=bt gi;have g7:=(be ic ju);have xv:=bt g7;have gj:=xt js ic;have xw:=bz gj;have xx:=bz ic;have o7:=zpv (lk 0 _ _ rfl rfl);have o8:=zpv (lk 1 _ _ rfl rfl);refine cl en49 (qCmpX qr1 q1l1 (ht.ext gj)) ?_ (cons_eq o7 (cons_eq o8 rfl));rintro xy o9 iu rfl;have ⟨fe,fg,gi,g7,gj⟩:=be4 iu.2 fe fg gi g7 gj;refine l_op (k_gtr (k:=.i64) (a:=(cmpI ((ra * 100 + (pickI mo 20) * rb) * 1) (1 * (rb * 100)))) (b:=0) (q:=decide (0 < (cmpI ((ra * 100 + (pickI mo 20) * rb) * 1) (1 * (rb * 100))))) rfl rfl rfl ?_);refine l_nil ?_;refine n_then ?_
 refine c_jn [(43,43)] (fun e W=>(Ext w W)∧(o9.heap.size≤W.heap.size)∧(Blk W (w.heap.size) 22 #[.int .i64 (x0),.int .i64 (x1),.int .i64 (x2),.int .i64 (x3),.int .i64 (x4),.int .i64 (x5),.int .i64 (x6)])∧(Blk W (f7.heap.size) 29 #[.int .i64 (kd),S ((qR la lb).1),S ((qR la lb).2),S ((qR ha hb).1),S ((qR ha hb).2),S ((qR ga gb).1),S ((qR ga gb).2),S ((qR ra rb).1),S ((qR ra rb).2),S ((qR va vb).1),S ((qR va vb).2),S ((qR sa sb).1),S ((qR sa sb).2)])∧(Blk W (co.heap.size) 29 #[.int .i64 (kd),S ((qR la lb).1),S ((qR la lb).2),S ((qR ha hb).1),S ((qR ha hb).2),S ((qR ga gb).1),S ((qR ga gb).2),S ((qR ra rb).1),S ((qR ra rb).2),S ((qR va vb).1),S ((qR va vb).2),S ((qR sa sb).1),S ((qR sa sb).2)])∧(Blk W (gy) 25 #[S ((qR rn rd).1),S ((qR rn rd).2)])) ?_ ?_;by_cases jd : 0 < (cmpI ((ra * 100 + (pickI mo 20) * rb) * 1) (1 * (rb * 100)));refine go ?_;refine clb en2014 (hc:=l16of_ok om om) (hk:=?_);rintro xz x7 iv rfl;have ⟨fe,fg,gi,g7,gj⟩:=be4 iv.2 fe fg gi g7 gj;refine SA g7 (fun x8 iw pf=>?_);have ⟨fe,fg,gi,gj,x9⟩:=pl3 iw fe fg gi gj;refine go ?_;exact jend ⟨gj,om,fe,fg,gi,(by rw [← hR1 jd]; exact pf)⟩;refine go ?_;exact jend ⟨gj,om,fe,fg,gi,(by rw [← hR0 jd]; exact g7)⟩;rintro yc yd ⟨fj,ye,fe,fg,gi,fk⟩;have yf:=bz fj;refine go ?_;refine l_op (k_fieldAddr (b:=co.heap.size) (o:=0) (off:=0) (oo:=0) U2029 rfl rfl sz2027 rfl rfl ?_)
 refine l_op (k_fieldAddr (b:=co.heap.size) (o:=0) (off:=7) (oo:=7) U2027 rfl rfl sz36 rfl rfl ?_);refine SA gi (fun yg ix fp=>?_);have ⟨fe,fg,fk,fj,yh⟩:=pl3 ix fe fg fk fj;refine go ?_;refine clb en2010 (hc:=pickL16_ok gu 10 _ hgu dc) (hk:=?_);rintro yi yj iy rfl;have ⟨fe,fg,fp,fk,fj⟩:=be4 iy.2 fe fg fp fk fj;refine clb en2014 (hc:=l16of_ok om om) (hk:=?_);rintro yl je iz rfl;have ⟨fe,fg,fp,fk,fj⟩:=be4 iz.2 fe fg fp fk fj;refine al inf36 (fun ym ja pm=>?_);have ⟨fe,fg,fp,fk,fj⟩:=be4 ja.2 fe fg fp fk fj;refine SA pm (fun pn ie fw=>?_);have ⟨fe,fg,fp,fk,fj,yn⟩:=pl4 ie fe fg fp fk fj;refine go ?_;refine l_op (k_fieldAddr (b:=co.heap.size) (o:=0) (off:=0) (oo:=0) U2029 rfl rfl sz2027 rfl rfl ?_);refine l_op (k_fieldAddr (b:=co.heap.size) (o:=0) (off:=0) (oo:=0) U2027 rfl rfl sz3 rfl rfl ?_);refine l_op (k_load (v:=.int .i64 (kd)) (b:=co.heap.size) (o:=0) U3 rfl rfl (Blk.cell fp rfl) ?_);refine l_nil ?_;refine n_then ?_
 refine c_jn [(17,17),(53,85)] (fun e W=>(e 17 = .int .i64 (0))∧(Ext w W)∧(pn.heap.size≤W.heap.size)∧(Blk W (w.heap.size) 22 #[.int .i64 (x0),.int .i64 (x1),.int .i64 (x2),.int .i64 (x3),.int .i64 (x4),.int .i64 (x5),.int .i64 (x6)])∧(Blk W (f7.heap.size) 29 #[.int .i64 (kd),S ((qR la lb).1),S ((qR la lb).2),S ((qR ha hb).1),S ((qR ha hb).2),S ((qR ga gb).1),S ((qR ga gb).2),S ((qR ra rb).1),S ((qR ra rb).2),S ((qR va vb).1),S ((qR va vb).2),S ((qR sa sb).1),S ((qR sa sb).2)])∧(Blk W (gy) 25 #[S ((qR rn rd).1),S ((qR rn rd).2)])∧(Blk W (je.heap.size) 25 #[S ((qR (pickI gu 10) 20).1),S ((qR (pickI gu 10) 20).2)])∧(Blk W (co.heap.size) 29 #[.int .i64 (kd),S ((qR la lb).1),S ((qR la lb).2),S ((qR ha hb).1),S ((qR ha hb).2),S ((qR gn gd).1),S ((qR gn gd).2),S ((qR rn rd).1),S ((qR rn rd).2),S ((qR va vb).1),S ((qR va vb).2),S ((qR sa sb).1),S ((qR sa sb).2)])) ?_ ?_;refine go ?_;by_cases jf : kd = 2;refine go ?_;refine l_op (k_fieldAddr (b:=co.heap.size) (o:=0) (off:=0) (oo:=0) U2029 rfl rfl sz2027 rfl rfl ?_);refine l_op (k_fieldAddr (b:=co.heap.size) (o:=0) (off:=5) (oo:=5) U2027 rfl rfl sz36 rfl rfl ?_);refine go ?_;refine clb en220 (hc:=qSubX qg qby (ht.ext fj)) (hk:=?_);rintro yo yp ig rfl;have ⟨fe,fg,fp,fk,fw,fj⟩:=be5 ig.2 fe fg fp fk fw fj;refine go ?_;refine l_op (k_fieldAddr (b:=co.heap.size) (o:=0) (off:=0) (oo:=0) U2029 rfl rfl sz2027 rfl rfl ?_)
 refine l_op (k_fieldAddr (b:=co.heap.size) (o:=0) (off:=5) (oo:=5) U2027 rfl rfl sz36 rfl rfl ?_);refine SA fp (fun ll ii ln=>?_);have ⟨fe,fg,fk,fw,fj,yq⟩:=pl4 ii fe fg fk fw fj;refine go ?_;refine c_dv hmix 4 [65,66,67,68] [some (65,.pointer (some ⟨co.heap.size,0,none⟩)),some (66,.pointer (some ⟨co.heap.size,5,none⟩)),some (67,.agg #[S ((qR (ga * 20 - (pickI gu 10) * gb) (gb * 20)).1),S ((qR (ga * 20 - (pickI gu 10) * gb) (gb * 20)).2)]),some (68,.agg #[S ((qR 0 1).1),S ((qR 0 1).2)])] (XE ll) (Ext.drew ll) (by kernel_rfl) (by kernel_rfl) (by kernel_rfl) ?_ ?_;refine ⟨fun yr yt yu po yv pp yw yx yy=>?_,?_⟩;obtain ⟨yr,rfl⟩:=ovE po;refine l_op (k_fieldAddr (b:=co.heap.size) (o:=0) (off:=0) (oo:=0) U2029 rfl rfl sz2027 rfl rfl ?_);refine go ?_;exact dvE rfl pp (Ext.refl _);refine ⟨fun pq yz y5 y6 pr pt y7 y8 y9=>?_,?_⟩;obtain ⟨pq,rfl⟩:=ovE y6;have pu:=zpv (pr 0 _ _ rfl rfl);refine l_op (k_fieldAddr (b:=co.heap.size) (o:=0) (off:=5) (oo:=5) U2027 rfl rfl sz36 rfl pu ?_);refine go ?_;exact dvE rfl pt (Ext.refl _);refine ⟨fun pw za zc zd px lu ze zg zh=>?_,?_⟩;obtain ⟨pw,rfl⟩:=ovE zd;have py:=zpv (px 1 _ _ rfl rfl);have p0:=(be lu ln);refine go ?_;exact dvE rfl lu (Ext.refl _);refine ⟨fun zi zj zm zn zp lv zq zr zt=>?_,?_⟩;obtain ⟨zi,rfl⟩:=ovE zn;refine clb en2014 (hc:=l16of_ok om om) (hk:=?_);rintro zu zv lx rfl;refine go ?_;exact dvE rfl lv lx.2;exact trivial;intro jw zw zx zy jx lz g8
 obtain ⟨jw,rfl⟩:=ovE jx;have gp:=(be g8 fe);have zz:=bt gp;have gq:=(be g8 fg);have z6:=bt gq;have g9:=(be g8 ln);have z7:=bt g9;have gv:=(be g8 fk);have z8:=bt gv;have gw:=(be g8 fw);have aaa:=bt gw;have gl:=xt fj g8;have aab:=bz gl;have aac:=bz g8;have p7:=zpv (lz 2 _ _ rfl rfl);have p9:=zpv (lz 3 _ _ rfl rfl);refine cl en49 (qCmpX qgs q9n0 (ht.ext gl)) ?_ (cons_eq p7 (cons_eq p9 rfl));rintro aad aae ij rfl;have ⟨gp,gq,g9,gv,gw,gl⟩:=be5 ij.2 gp gq g9 gv gw gl;refine go ?_;by_cases jg : (cmpI ((ga * 20 - (pickI gu 10) * gb) * 1) (0 * (gb * 20))) < 0;refine go ?_;refine clb en2014 (hc:=l16of_ok om om) (hk:=?_);rintro aaf aag ik rfl;have ⟨gp,gq,g9,gv,gw,gl⟩:=be5 ik.2 gp gq g9 gv gw gl;refine l_op (k_fieldAddr (b:=co.heap.size) (o:=0) (off:=0) (oo:=0) U2029 rfl rfl sz2027 rfl rfl ?_);refine l_op (k_fieldAddr (b:=co.heap.size) (o:=0) (off:=5) (oo:=5) U2027 rfl rfl sz36 rfl rfl ?_);refine SA g9 (fun aah il qb=>?_);have ⟨gp,gq,gv,gw,gl,aai⟩:=pl4 il gp gq gv gw gl;refine go ?_;exact jend ⟨rfl,gl,om,gp,gq,gv,gw,(by rw [← hGa jf jg]; exact qb)⟩;refine go ?_;exact jend ⟨rfl,gl,om,gp,gq,gv,gw,(by rw [← hGb jf jg]; exact g9)⟩;refine go ?_;by_cases jy : kd = 3;refine go ?_;refine l_op (k_fieldAddr (b:=co.heap.size) (o:=0) (off:=0) (oo:=0) U2029 rfl rfl sz2027 rfl rfl ?_);refine l_op (k_fieldAddr (b:=co.heap.size) (o:=0) (off:=5) (oo:=5) U2027 rfl rfl sz36 rfl rfl ?_);refine go ?_
 refine clb en217 (hc:=qAddX qg qby (ht.ext fj)) (hk:=?_);rintro aaj aak im rfl;have ⟨fe,fg,fp,fk,fw,fj⟩:=be5 im.2 fe fg fp fk fw fj;refine go ?_;refine l_op (k_fieldAddr (b:=co.heap.size) (o:=0) (off:=0) (oo:=0) U2029 rfl rfl sz2027 rfl rfl ?_);refine l_op (k_fieldAddr (b:=co.heap.size) (o:=0) (off:=5) (oo:=5) U2027 rfl rfl sz36 rfl rfl ?_);refine SA fp (fun aal io qc=>?_);have ⟨fe,fg,fk,fw,fj,aam⟩:=pl4 io fe fg fk fw fj;refine go ?_;exact jend ⟨rfl,fj,om,fe,fg,fk,fw,(by rw [← hGc jy]; exact qc)⟩;refine go ?_;exact jend ⟨rfl,fj,om,fe,fg,fk,fw,(by rw [← hGd om om]; exact fp)⟩;rintro aan aao ⟨jh,g6,aap,fe,fg,fk,fw,jz⟩;have aaq:=bz g6;refine go ?_;refine l_op (k_loadA (cs:=[.int .i64 (kd),S ((qR la lb).1),S ((qR la lb).2),S ((qR ha hb).1),S ((qR ha hb).2),S ((qR gn gd).1),S ((qR gn gd).2),S ((qR rn rd).1),S ((qR rn rd).2),S ((qR va vb).1),S ((qR va vb).2),S ((qR sa sb).1),S ((qR sa sb).2)]) (b:=co.heap.size) (o:=0) U2029 rfl sz2029 rfl (Blk.cells jz (i:=0) (by kernel_rfl)) ?_);refine go ?_;refine cl en2011 ((hV2 _ (ht.ext g6))) ?_;rintro aar aas ip rfl;have g6:=xt g6 ip.2;refine go ?_;by_cases gc : v1 = 1;by_cases iq : v1 = 2;refine go ?_;exact f_ret1 (t:=8) (v:=.bool (true)) rfl g6 rfl rfl;refine go ?_;exact f_ret1 (t:=8) (v:=.bool (!decide (v2 = 2))) rfl g6 (by rw [decide_eq_false (show ¬ v2 = 2 by omega)]; rfl) rfl;by_cases ir : v1 = 2;refine go ?_
 exact f_ret1 (t:=8) (v:=.bool (true)) rfl g6 rfl rfl;refine go ?_;exact f_ret1 (t:=8) (v:=.bool (!decide (v2 = 2))) rfl g6 (by rw [decide_eq_false (show ¬ v2 = 2 by omega)]; rfl) rfl
end Go.Proofs.YtonigegpknhdnaaGreatDoor
namespace Go.Proofs.YtonigegpknhdnaaGreatDoor
open Go Go.Eng Go.RowKit
theorem mono_v {i1 i2 : Bool} {k u T r1 q1 r2 q2 : Int} (hi : i1 = true→i2 = true) (hq1 : 0 < q1) (hq2 : 0 < q2) (hT : 0 < T) (hr : r1 * q2≤r2 * q1) (hku : k≤u) :
    (vdct (rejB i1 k T r1 q1) (acpB i1 u T r1 q1) = 1→vdct (rejB i2 k T r2 q2) (acpB i2 u T r2 q2) = 1)∧(vdct (rejB i1 k T r1 q1) (acpB i1 u T r1 q1) ≠ 2→vdct (rejB i2 k T r2 q2) (acpB i2 u T r2 q2) ≠ 2):=by
  have key : ∀ x : Int,x * q1≤r1 * T→x * q2≤r2 * T:=by
    intro x hx
    refine Int.le_of_mul_le_mul_right (a:=q1) ?_ hq1
    have h1:=Int.mul_le_mul_of_nonneg_right hx (Int.le_of_lt hq2)
    have h2:=Int.mul_le_mul_of_nonneg_right hr (Int.le_of_lt hT)
    rw [show x * q2 * q1 = x * q1 * q2 by grind,show r2 * T * q1 = r2 * q1 * T by grind]
    rw [show r1 * T * q2 = r1 * q2 * T by grind] at h1
    omega
  have hk:=Int.mul_le_mul_of_nonneg_right hku (Int.le_of_lt hq1)
  simp only [vdct_1,vdct_2,ne_eq]
  unfold rejB acpB
  cases i1 with
  | false=>simp
  | true =>
    rw [hi rfl]
    simp only [Bool.not_true,Bool.false_or,Bool.true_and,decide_eq_true_eq,decide_eq_false_iff_not]
    exact ⟨fun h=>⟨by have:=key k (by omega); omega,key u h.2⟩,fun h=>by have:=key k (by omega); omega⟩
theorem mono_r {R q mo : Int} (bm : 0≤pickI mo 20∧pickI mo 20 < 20) (r0 : 0≤R) (r1 : R≤100) (q1 : 100≤q) (q2 : q≤900) : ∃ rn rd : Int,(0 < cmpI ((R * 100 + pickI mo 20 * q) * 1) (1 * (q * 100))→qR 1 1 = qR rn rd)∧(¬ 0 < cmpI ((R * 100 + pickI mo 20 * q) * 1) (1 * (q * 100))→qR (R * 100 + pickI mo 20 * q) (q * 100) = qR rn rd)∧Sz rn rd∧0≤rn∧rn≤rd∧R * rd≤rn * q:=by
  have b0 : 0≤pickI mo 20 * q:=Int.mul_nonneg bm.1 (by omega)
  have b2 : pickI mo 20 * q≤20 * q:=Int.mul_le_mul_of_nonneg_right (by omega) (by omega)
  by_cases h : 0 < cmpI ((R * 100 + pickI mo 20 * q) * 1) (1 * (q * 100))
  · exact ⟨1,1,fun _=>rfl,fun h'=>absurd h h',sz_ (by decide) (by decide) (by decide),by decide,by decide,by omega⟩
  · have h2 : (R * 100 + pickI mo 20 * q) * 1 ≤ 1 * (q * 100) := Int.not_lt.1 fun x => h (cmpI_p.2 x)
    have b3:=Int.mul_nonneg b0 (show 0≤q by omega)
    exact ⟨_,_,fun h'=>absurd h' h,fun _=>rfl,sz_ (by omega) (by omega) (by omega),by omega,by omega,by rw [show R * (q * 100) = R * 100 * q by grind,Int.add_mul]; omega⟩
theorem mono_g {kd : Nat} {L W G gd R q S D xa xb ya yb gu : Int} (m : MkP kd L W G gd R q S D) (rl : Rl kd L 10 (L + W) 10 G gd R q xa xb ya yb) (bg : 0≤pickI gu 10∧pickI gu 10 < 10) : ∃ gn gd' : Int,(((kd : Nat) : Int) = 2→cmpI ((G * 20 - pickI gu 10 * gd) * 1) (0 * (gd * 20)) < 0→qR 0 1 = qR gn gd')∧(((kd : Nat) : Int) = 2→¬ cmpI ((G * 20 - pickI gu 10 * gd) * 1) (0 * (gd * 20)) < 0→qR (G * 20 - pickI gu 10 * gd) (gd * 20) = qR gn gd')∧(((kd : Nat) : Int) = 3→qR (G * 20 + pickI gu 10 * gd) (gd * 20) = qR gn gd')∧(((kd : Nat) : Int) ≠ 2→((kd : Nat) : Int) ≠ 3→qR G gd = qR gn gd')∧Sz gn gd'∧0≤gn∧(kd = 1→gn = 0) ∧
      ∃ xa' xb' ya' yb',AccN kd L 10 (L + W) 10 gn gd' xa' xb' ya' yb'∧xa' * yb'≤ya' * xb'∧(insB xa xb ya yb (L * 40 + W * D) 400 = true→insB xa' xb' ya' yb' (L * 40 + W * D) 400 = true):=by
  obtain ⟨k1,k3,l1,l2,w1,w2,g0,g2,gk,r0,r1,q1,q2,s1,s2,d1,d2⟩:=m
  have hac:=rl.acc
  unfold AccN insB at *
  simp only [Bool.and_eq_true,decide_eq_true_eq]
  generalize W * D = wd at *
  rcases (by omega : kd = 1 ∨ kd = 2 ∨ kd = 3) with rfl | rfl | rfl
  · refine ⟨G, gd, fun h => by omega, fun h => by omega, fun h => by omega, fun _ _ => rfl, rl.g, g0, fun _ => by omega, L, 10, L + W, 10, .inl ⟨rfl, rfl, rfl, rfl, rfl⟩, by omega, fun h => ?_⟩
    rcases hac with ⟨_,rfl,rfl,rfl,rfl⟩ | ⟨h0,_⟩ | ⟨h0,_⟩
    · exact h
    · omega
    · omega
  · obtain rfl : gd = 10 := by omega
    obtain ⟨rfl,rfl,rfl,rfl⟩ : xa = L * 10 + G * 10∧xb = 10 * 10∧ya = (L + W) * 10 - G * 10∧yb = 10 * 10:=by omega
    by_cases h : cmpI ((G * 20 - pickI gu 10 * 10) * 1) (0 * (10 * 20)) < 0
    · exact ⟨0,1,fun _ _=>rfl,fun _ h'=>absurd h h',fun h=>by omega,fun h=>by omega,sz_ (by decide) (by decide) (by decide),by decide,fun _=>rfl,_,_,_,_,.inr (.inl ⟨rfl,rfl,rfl,rfl,rfl⟩),by omega,fun h=>by omega⟩
    · have h2 : 0 ≤ G * 20 - pickI gu 10 * 10 := by
        rcases Int.lt_or_le (G * 20 - pickI gu 10 * 10) 0 with x | x
        · exact absurd (cmpI_lt0 (by omega)) h
        · exact x
      exact ⟨_,_,fun _ h'=>absurd h' h,fun _ _=>rfl,fun h=>by omega,fun h=>by omega,sz_ (by omega) (by decide) (by decide),h2,fun h=>by omega,_,_,_,_,.inr (.inl ⟨rfl,rfl,rfl,rfl,rfl⟩),by omega,fun h=>by omega⟩
  · obtain rfl : gd = 10 := by omega
    obtain ⟨rfl,rfl,rfl,rfl⟩ : xa = L * 10 - G * 10∧xb = 10 * 10∧ya = (L + W) * 10 + G * 10∧yb = 10 * 10:=by omega
    exact ⟨_,_,fun h=>by omega,fun h=>by omega,fun _=>rfl,fun h h'=>by omega,sz_ (by omega) (by decide) (by decide),by omega,fun h=>by omega,_,_,_,_,.inr (.inr ⟨rfl,rfl,rfl,rfl,rfl⟩),by omega,fun h=>by omega⟩
theorem mono_q {mo gu R q G gd : Int} (bm : 0≤pickI mo 20∧pickI mo 20 < 20) (bg : 0≤pickI gu 10∧pickI gu 10 < 10) (r0 : 0≤R) (r1 : R≤100) (q1 : 100≤q) (q2 : q≤900) (g0 : 0≤G) (g1 : G≤1000) (d0 : 1≤gd) (d1 : gd≤1000) :
    Q9 (pickI mo 20) 100∧Q9 (R * 100 + pickI mo 20 * q) (q * 100)∧Q9 (pickI gu 10) 20∧Q9 (G * 20 - pickI gu 10 * gd) (gd * 20)∧Q9 (G * 20 + pickI gu 10 * gd) (gd * 20):=by
  have wq:=Int.mul_nonneg bm.1 (show 0≤q by omega)
  have wq2 : pickI mo 20 * q≤20 * q:=Int.mul_le_mul_of_nonneg_right (by omega) (by omega)
  have wg:=Int.mul_nonneg bg.1 (show 0≤gd by omega)
  have wg2 : pickI gu 10 * gd≤10 * gd:=Int.mul_le_mul_of_nonneg_right (by omega) (by omega)
  exact ⟨q9_12 (by omega) (by decide) (by decide),q9_12 (by omega) (by omega) (by omega),q9_12 (by omega) (by decide) (by decide),q9_12 (by omega) (by omega) (by omega),q9_12 (by omega) (by omega) (by omega)⟩
theorem decideMonotone_law {x0 x1 x2 x3 x4 x5 x6 y mo gu : Int} {w : World} (hx0 : In64 x0) (hx1 : In64 x1) (hx2 : In64 x2) (hx3 : In64 x3) (hx4 : In64 x4) (hx5 : In64 x5) (hx6 : In64 x6) (hy : In64 y) (hmo : In64 mo) (hgu : In64 gu) (ht : Tb w) :
    Calls Tryz.prog 4 #[.agg #[.int .i64 x0,.int .i64 x1,.int .i64 x2,.int .i64 x3,.int .i64 x4,.int .i64 x5,.int .i64 x6],.int .i64 y,.int .i64 mo,.int .i64 gu] w (Ret w fun v _=>v = .bool true):=by
  obtain ⟨kd,L,W,G,gd,R,q,S,D,m,hMk⟩:=make_c hx0 hx1 hx2 hx3 hx4 hx5 hx6
  obtain ⟨xa,xb,ya,yb,rl,hv⟩:=m.rl
  obtain ⟨v,_,_⟩:=m.vs
  obtain ⟨lo,hi,hl,ha⟩:=m.outC
  obtain ⟨pl,hpl,p1,p8⟩:=pl_of hy
  obtain ⟨k,u,o,a1,b1⟩:=ha pl p1 p8
  have bm:=pick_bd mo 20 (by decide)
  have bg:=pick_bd gu 10 (by decide)
  have hku : k≤u:=le_of_ten a1 hl b1
  have m':=m
  obtain ⟨k1,k3,l1,l2,w1,w2,g0,g2,gk,r0,r1,q1,q2,s1,s2,d1,d2⟩:=m
  obtain ⟨q1',q2',q3',q4',q5'⟩:=mono_q (G:=G) (gd:=gd) bm bg r0 r1 q1 q2 g0 (by omega) (by omega) (by omega)
  have q0 : 0 < q:=by omega
  obtain ⟨rn,rd,hR1,hR0,rz,rn0,rn1,rle⟩:=mono_r (mo:=mo) bm r0 r1 q1 q2
  obtain ⟨gn,gd',hGa,hGb,hGc,hGd,gz,gn0,gn1,xa',xb',ya',yb',hacc,hv',hin⟩:=mono_g (gu:=gu) m' rl bg
  have rl2 : Rl kd L 10 (L + W) 10 gn gd' rn rd xa' xb' ya' yb':=⟨k1,k3,rl.l,rl.h,gz,rz,gn0,gn1,rn0,rn1,rl.lh,hacc⟩
  obtain ⟨e1,e2⟩:=mono_v hin q0 rz.2.1 (ten_pos pl) rle hku
  have p12 : pl≤12:=Nat.le_trans p8 (by decide)
  have V1:=fun W hW=>verdict_c (w:=W) rl hv v p12 o hW
  have V2:=fun W hW=>verdict_c (w:=W) rl2 hv' v p12 o hW
  have g1:=vdct_ge (r:=rejB (insB xa xb ya yb (L * 40 + W * D) 400) k (tenI pl) R q) (a:=acpB (insB xa xb ya yb (L * 40 + W * D) 400) u (tenI pl) R q)
  have g2:=vdct_ge (r:=rejB (insB xa' xb' ya' yb' (L * 40 + W * D) 400) k (tenI pl) rn rd) (a:=acpB (insB xa' xb' ya' yb' (L * 40 + W * D) 400) u (tenI pl) rn rd)
  have qr:=rl.r.q9
  have qg:=rl.g.q9
  generalize vdct (rejB (insB xa xb ya yb (L * 40 + W * D) 400) k (tenI pl) R q) (acpB (insB xa xb ya yb (L * 40 + W * D) 400) u (tenI pl) R q) = v1 at *
  generalize vdct (rejB (insB xa' xb' ya' yb' (L * 40 + W * D) 400) k (tenI pl) rn rd) (acpB (insB xa' xb' ya' yb' (L * 40 + W * D) 400) u (tenI pl) rn rd) = v2 at *
  exact monotone_walk hy hpl hmo hgu g1 g2 e1 e2 (fun W hW=>sane_c hW) (fun W _=>hMk W) V1 V2 qr q1' q2' qg q3' q4' q5' hR1 hR0 hGa hGb hGc hGd ht
end Go.Proofs.YtonigegpknhdnaaGreatDoor
