/- Part of the proof of a statement about the special functions. -/
import Derived.Test.YteojhdahhaodoaaGreatDoorCardAToQtK
import Derived.Test.YteojhdahhaodoaaGreatDoorQtT0
import Derived.Test.YteojhdahhaodoaaGreatDoorQtT1
import Derived.Test.YteojhdahhaodoaaGreatDoorQtT2
set_option linter.all false
namespace Go.Proofs.YteojhdahhaodoaaGreatDoor
open Go Go.Eng Go.RowKit
theorem qt_all {pl M : Nat} (hp : pl ≤ 2) (h1 : 1 ≤ M) (h2 : M ≤ 999) (h3 : M ≠ 500) : QtR (10 ^ pl) M := by
  rcases (by omega : pl = 0 ∨ pl = 1 ∨ pl = 2) with rfl | rfl | rfl
  · exact qtT0 h1 h2 h3
  · exact qtT1 h1 h2 h3
  · exact qtT2 h1 h2 h3
theorem qnt_q {pl M : Nat} {f c : Int} (hp : pl ≤ 2) (h1 : 1 ≤ M) (h2 : M ≤ 999) (h3 : M ≠ 500) (hq : qnF ((10 ^ pl : Nat) : Int) M 1000 100 (-5 * ((10 ^ pl : Nat) : Int)) (5 * ((10 ^ pl : Nat) : Int)) = some (f, c)) : QntC (M : Int) 1000 pl f c := by
  intro w ht
  have hne : ¬ qR (M : Int) ((1000 : Nat) : Int) = (([49], [50]) : R) := fun h => by
    have := qR_inj (by decide) (by decide) (h.trans q12); omega
  have h := Quantile_ok (a := M) (b := 1000) (pl := pl) (w := w) (q9_12 (by omega) (by decide) (by decide)) (by omega) (by decide) (by omega) (rightB_ok (by omega) (by omega) (by omega)) hne hq ht
  have e : ((1000 : Nat) : Int) = 1000 := rfl
  rw [e] at h
  unfold CellV tenI
  exact h
theorem ten_le100 {pl : Nat} (h : pl ≤ 2) : tenI pl ≤ 100 := by
  have h1 : (10 : Nat) ^ pl ≤ 10 ^ 2 := Nat.pow_le_pow_right (by decide) h
  unfold tenI; omega
theorem qnt_half {pl : Nat} (hp : pl ≤ 2) : QntC 500 1000 pl 0 0 := by
  intro w ht
  have h := Quantile_half (a := 500) (b := 1000) (pl := pl) (w := w) (q9_12 (by decide) (by decide) (by decide)) (by decide) (by decide) (by omega) (rightB_ok (by omega) (by decide) (by decide)) (by decide +kernel) ht
  have e : (([48], [49]) : R) = qR 0 (tenI pl) := q01.trans (qR_congr (by decide) (ten_pos pl) (by omega))
  rw [show ([48] : List UInt8) = (qR 0 (tenI pl)).1 from congrArg Prod.fst e, show ([49] : List UInt8) = (qR 0 (tenI pl)).2 from congrArg Prod.snd e] at h
  exact h
theorem specialQuantile_law {n m : Int} {w : World} (hn : In64 n) (hm : In64 m) (ht : Tb w) :
    Calls Tryz.prog 4 #[.int .i64 n, .int .i64 m] w (Ret w fun v _ => v = .bool true) := by
  have bn := pick_bd n 999 (by decide)
  have bm := pick_bd m 3 (by decide)
  obtain ⟨pl, hpl⟩ : ∃ pl : Nat, pickI m 3 = ((pl : Nat) : Int) := ⟨(pickI m 3).toNat, by omega⟩
  obtain ⟨M, hM⟩ : ∃ M : Nat, 1 + pickI n 999 = ((M : Nat) : Int) := ⟨(1 + pickI n 999).toNat, by omega⟩
  have p2 : pl ≤ 2 := by omega
  have eT : tenI 10 = 10000000000 := by decide
  have hT := ten_pos pl
  by_cases h5 : M = 500
  · subst h5
    have hN : NrmC 0 (tenI pl) 10 5000000000 5000000000 := fun w ht => normal_z hT (by have := ten_le100 p2; omega) rfl (by decide) ht
    have q1 := qnt_half p2
    exact quantile_law hn hm (by omega) hM hpl q1 (show QntC (1000 - ((500 : Nat) : Int)) 1000 pl 0 0 from q1) hN hN (by decide) (by decide) (by decide) (by decide) (by decide) (by decide) (by decide) (by decide) (by decide) (by decide) ht
  · obtain ⟨f, u, v, s, t, q1, q2, hf, n1, n2, b1, b2, l1, l2⟩ := qt_all p2 (M := M) (by omega) (by omega) h5
    have c1 := qnt_q p2 (by omega) (by omega) h5 q1
    have c2 := qnt_q (M := 1000 - M) p2 (by omega) (by omega) (by omega) q2
    rw [show (((1000 - M : Nat)) : Int) = 1000 - (M : Int) by omega] at c2
    exact quantile_law hn hm (by omega) hM hpl c1 c2 n1 n2 (by omega) (by omega) b1 b2 (by omega) (by omega) (by omega) (by omega) (by rw [eT]; exact l1) (by rw [eT]; exact l2) ht
end Go.Proofs.YteojhdahhaodoaaGreatDoor
