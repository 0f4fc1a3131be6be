/- Part of the proof of a statement about decisions. -/
import Derived.Test.YtonigegpknhdnaaGreatDoorDl4ToDm1
set_option linter.all false
namespace Go.Proofs.YtonigegpknhdnaaGreatDoor
open Go Go.Eng Go.RowKit
theorem rej_acp {ins : Bool} {k u T T' ra rb : Int} (h : ¬ (u * rb ≤ ra * T ∧ ra * T' < k * rb)) : acpB ins u T ra rb = true → rejB ins k T' ra rb = false := by
  unfold acpB rejB
  cases ins <;> simp
  intro h1
  rcases Int.lt_or_le (ra * T') (k * rb) with h2 | h2
  · exact absurd ⟨h1, h2⟩ h
  · exact h2
theorem decideConsistent_law {x0 x1 x2 x3 x4 x5 x6 y z : Int} {w : World} (hx0 : In64 x0) (hx1 : In64 x1) (hx2 : In64 x2) (hx3 : In64 x3) (hx4 : In64 x4) (hx5 : In64 x5) (hx6 : In64 x6) (hy : In64 y) (hz : In64 z) (ht : Tb w) :
    Calls Tryz.prog 3 #[.agg #[.int .i64 x0, .int .i64 x1, .int .i64 x2, .int .i64 x3, .int .i64 x4, .int .i64 x5, .int .i64 x6], .int .i64 y, .int .i64 z] w (Ret w fun v _ => v = .bool true) := by
  obtain ⟨kd, L, W, G, gd, R, q, S, D, m, hMk⟩ := make_c hx0 hx1 hx2 hx3 hx4 hx5 hx6
  obtain ⟨xa, xb, ya, yb, rl, hv⟩ := m.rl
  obtain ⟨v, _, _⟩ := m.vs
  obtain ⟨lo, hi, hl, ha⟩ := m.outC
  obtain ⟨pl, hpl, p1, p8⟩ := pl_of hy
  obtain ⟨ml, hml, m1, m8⟩ := pl_of hz
  obtain ⟨k1, u1, o1, a1, b1⟩ := ha pl p1 p8
  obtain ⟨k2, u2, o2, a2, b2⟩ := ha ml m1 m8
  have hq : 0 < q := by have := m.q1; omega
  have e11 := rej_acp (ra := R) (ins := insB xa xb ya yb (L * 40 + W * D) 400) (fun h => out_le p8 p8 hl a1 b1 hq h.1 h.2)
  have e12 := rej_acp (ra := R) (ins := insB xa xb ya yb (L * 40 + W * D) 400) (fun h => out_le p8 m8 hl a2 b1 hq h.1 h.2)
  have e21 := rej_acp (ra := R) (ins := insB xa xb ya yb (L * 40 + W * D) 400) (fun h => out_le m8 p8 hl a1 b2 hq h.1 h.2)
  have V1 := fun W hW => verdict_c (w := W) rl hv v (by omega) o1 hW
  have V2 := fun W hW => verdict_c (w := W) rl hv v (by omega) o2 hW
  have S1 := fun x W hW => sound_c (w := W) (x := x) rl hv v (by omega) o1 hW
  have S2 := fun x W hW => sound_c (w := W) (x := x) rl hv v (by omega) o2 hW
  generalize rejB (insB xa xb ya yb (L * 40 + W * D) 400) k1 (tenI pl) R q = r1 at *
  generalize acpB (insB xa xb ya yb (L * 40 + W * D) 400) u1 (tenI pl) R q = c1 at *
  generalize rejB (insB xa xb ya yb (L * 40 + W * D) 400) k2 (tenI ml) R q = r2 at *
  generalize acpB (insB xa xb ya yb (L * 40 + W * D) 400) u2 (tenI ml) R q = c2 at *
  refine consistent_walk hy hpl hz hml (vdct_ge (r := r1) (a := c1)) (vdct_ge (r := r2) (a := c2)) ?_ (fun W hW => sane_c hW) (fun W _ => hMk W) V1 V2 (fun W hW => cB (S2 _ W hW) ?_) (fun W hW => cB (S1 _ W hW) ?_) (fun W hW => cB (S1 _ W hW) ?_) (fun W hW => cB (S1 _ W hW) ?_) (fun W hW => cB (S1 _ W hW) ?_) ht
  all_goals revert e11 e12 e21; cases r1 <;> cases c1 <;> cases r2 <;> cases c2 <;> decide
end Go.Proofs.YtonigegpknhdnaaGreatDoor
