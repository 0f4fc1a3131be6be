/- Part of the proof of a statement about decisions. -/
import Derived.Test.YtonigegpknhdnaaGreatDoorSp16ToRi1
set_option linter.all false
namespace Go.Proofs.YtonigegpknhdnaaGreatDoor
open Go Go.Eng Go.RowKit
def rowO (s lo n : Nat) : Bool:=allN (fun i=>fz (Nat.add lo i) fun k=>cond (Nat.beq (Nat.gcd k s) 1) (pairK s (Nat.mul 2 k)) true) n
theorem rowO_ok {s lo n k : Nat} (h : rowO s lo n = true) (h1 : lo < k) (h2 : k≤lo + n) (h4 : Nat.gcd k s = 1) : pairK s (2 * k) = true:=by
  have h6:=allN_ok h (k - lo) (by omega) (by omega)
  rw [fz_eq,show Nat.add lo (k - lo) = k by show lo + (k - lo) = k; omega,h4] at h6
  exact h6
def RngO (s m : Nat) : Prop:=∀ k,0 < k→k≤m→Nat.gcd k s = 1→pairK s (2 * k) = true
theorem RngO.zero {s : Nat} : RngO s 0:=fun k h1 h2=>by omega
theorem RngO.next {s m n : Nat} (h : RngO s m) (h2 : rowO s m n = true) : RngO s (m + n) := fun k a b d => by
  by_cases h3 : k≤m
  · exact h k a h3 d
  · exact rowO_ok h2 (by omega) b d
end Go.Proofs.YtonigegpknhdnaaGreatDoor
