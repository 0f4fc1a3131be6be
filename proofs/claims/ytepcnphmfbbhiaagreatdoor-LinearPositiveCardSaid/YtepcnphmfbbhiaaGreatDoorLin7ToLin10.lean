/- Part of the proof that all functions of the layer agree with the reference implementation. -/
import Derived.Test.YtepcnphmfbbhiaaGreatDoorLinVToLinX
import Derived.Test.YtepcnphmfbbhiaaGreatDoorLin5
import Derived.Test.YtepcnphmfbbhiaaGreatDoorLin2
import Derived.Test.YtepcnphmfbbhiaaGreatDoorEngH
import Derived.Test.YtepcnphmfbbhiaaGreatDoorLinYToLinR
set_option linter.all false
set_option linter.all false
namespace Go.Proofs.YtepcnphmfbbhiaaGreatDoor
open Go Go.Eng Go.RowKit
attribute [local irreducible] wpListIn Code.wpIn Oper.wpIn Exit.then Exit.inBlock Exit.noGoto
set_option maxHeartbeats 40000000
set_option maxRecDepth 100000 in
theorem un13_ok {n : Nat} {w : World} (hn : n ≤ 16) :
    Calls Tryz.prog 23 #[.int .i64 n] w (Ret w fun v w' => MatR w.heap.size w' v n (fun i => uR i n)) := by
 refine f_in Tryz.func23 rfl ?_;refine go ?_;have f8 : World.ownsRow w w.heap.size 26 1 (.slice none 0 0) 0 [] := own_nil;have f9 : Wr w w.heap.size w.heap.size 0 (fun _ => .nilIface) (fun i => uR i n) := Wr.nil;have gc := Ext.refl w;refine c_lp [(3, 31)] (fun kk e W => ∃ i : Nat, ∃ H2 : Nat → Value, ∃ vo : Value, (n - i = kk) ∧ (e 4 = .int .i64 i) ∧ (e 3 = vo) ∧ (i ≤ n) ∧ (∀ zz, zz < i → OwnNe vo (H2 zz)) ∧ (w.heap.size ≤ W.heap.size) ∧ (Ext w W) ∧ (W.ownsRow w.heap.size 26 1 vo i ((List.range i).map H2)) ∧ (Wr W (w.heap.size) W.heap.size i H2 (fun i => uR i n))) (n - (0)) ⟨0, (fun _ => .nilIface), .slice none 0 0, rfl, rfl, rfl, (Nat.zero_le _), (fun j hj => by omega), (Nat.le_refl _), gc, f8, f9⟩ ?_;rintro g7 g8 fc ⟨i, H2, vo, rfl, fj, fw, hi_i, hap, g9, fq, hout, hwr⟩;have ia := bz fq;by_cases hli : i < n;refine go ?_;have gd : World.ownsRow fc fc.heap.size 41 2 (.slice none 0 0) 0 (cellsR []) := own_nil;refine c_lp [(5, 6), (12, 27)] (fun kk e W => ∃ k : Nat, ∃ ac : List R, ∃ vrow : Value, (n - k = kk) ∧ (e 6 = .int .i64 k) ∧ (e 5 = vrow) ∧ (k ≤ n) ∧ (ac.length = k) ∧ (ac = uR i k) ∧ (fc.heap.size ≤ W.heap.size) ∧ (OwnNe (vo) (vrow)) ∧ (Ext w W) ∧ (W.ownsRow w.heap.size 26 1 vo i ((List.range i).map H2)) ∧ (Wr W w.heap.size fc.heap.size i H2 (fun i => uR i n)) ∧ (W.ownsRow fc.heap.size 41 2 vrow ac.length (cellsR ac))) (n - (0)) ⟨0, [], .slice none 0 0, rfl, rfl, rfl, (Nat.zero_le _), rfl, rfl, (Nat.le_refl _), (OwnNe.symm OwnNe.nil), fq, hout, hwr, gd⟩ ?_
 rintro ib ic ie ⟨k, ac, vrow, rfl, fe, fu, hi_k, hal_ac, hac, ig, fd, e8, hout, hwr, hrow⟩;have ii := bz e8;by_cases hl_k : k < n;refine go ?_;by_cases fx : (i : Int) = (k : Int);refine go ?_;refine l_op (k_move (v := vrow) fu ?_);refine cl en44 (r13One_ok _) ?_;rintro ij ik fk rfl;have hout := own_ext fk.2 hout;have hwr := Wr.ext fk.2 hwr;have hrow := own_ext fk.2 hrow;have e8 := xt e8 fk.2;refine BS (fun il fg im gg => ?_);have io := own_ne_new hout;have ip := own_ne_new hrow;have hout := own_ext fg hout;have hwr := Wr.ext fg hwr;have hrow := own_ext fg hrow;have e8 := xt e8 fg;have iq := bz fg;refine AP hrow (Rw.of_own gg) (fun fy ir gh fl gi => ?_);have gj := OwnNe.app gi (OwnNe.symm fd) hout;have hout := OwnNe.gr (OwnNe.symm fd) fl hout;have hwr := Wr.gr fl (fun g e => Or.inr (Nat.le_trans om (own_ge hrow g e))) hwr;have e8 := low_app hrow om om e8 fl;have iu := fl.size;refine l_op (k_assign (v := fy) rfl ?_);refine go ?_;refine adi ?_;refine go ?_;exact lend ⟨k + 1, ac ++ [o1], fy, rfl, rfl, rfl, om, (by simp; omega), (by rw [hac, uR_eq om]), om, (OwnNe.symm gj), e8, hout, hwr, (own_cast gh (by simp) (cellsR_snoc _ _))⟩;refine go ?_;refine l_op (k_move (v := vrow) fu ?_);refine cl en43 (r13Zero_ok _) ?_;rintro iv iw fm rfl;have hout := own_ext fm.2 hout;have hwr := Wr.ext fm.2 hwr;have hrow := own_ext fm.2 hrow;have e8 := xt e8 fm.2;refine BS (fun ix fh iy gk => ?_);have iz := own_ne_new hout
 have i6 := own_ne_new hrow;have hout := own_ext fh hout;have hwr := Wr.ext fh hwr;have hrow := own_ext fh hrow;have e8 := xt e8 fh;have i7 := bz fh;refine AP hrow (Rw.of_own gk) (fun f6 i8 gl fo gm => ?_);have gn := OwnNe.app gm (OwnNe.symm fd) hout;have hout := OwnNe.gr (OwnNe.symm fd) fo hout;have hwr := Wr.gr fo (fun g e => Or.inr (Nat.le_trans om (own_ge hrow g e))) hwr;have e8 := low_app hrow om om e8 fo;have ja := fo.size;refine l_op (k_assign (v := f6) rfl ?_);refine go ?_;refine adi ?_;refine go ?_;exact lend ⟨k + 1, ac ++ [z0], f6, rfl, rfl, rfl, om, (by simp; omega), (by rw [hac, uR_ne om]), om, (OwnNe.symm gn), e8, hout, hwr, (own_cast gl (by simp) (cellsR_snoc _ _))⟩;refine go ?_;refine l_op (k_move (v := vo) fw ?_);refine l_op (k_move (v := vrow) fu ?_);refine l_op (k_buildSlice (vs := [(0, vrow)]) (cells := #[vrow]) U22 inf23 rfl dc dc (fill_one _ (own_one hrow)) rfl dc (fun jb fi jc gp => ?_));have jd := own_ne_new hout;have je := own_ne_new hrow;have hout := own_ext fi hout;have hwr := Wr.ext fi hwr;have hrow := own_ext fi hrow;have e8 := xt e8 fi;have jf := bz fi;refine AP hout (Rw.of_own gp) (fun fv gq gu fp f7 => ?_) (h1 := al1 (own_one hrow));have gv : ∀ jx, jx < i → OwnNe fv (H2 jx) := fun jx hi => OwnNe.app f7 (hap jx hi) (Wr.own hwr jx hi);have hwr := Wr.grOut fp hap hwr;have gw := OwnNe.app f7 fd hrow;have hrow := OwnNe.gr fd fp hrow;have e8 := low_app hout om om e8 fp
 have jg := fp.size;refine l_op (k_assign (v := fv) rfl ?_);refine go ?_;refine adi ?_;refine go ?_;have gy : World.ownsRow gq fc.heap.size 41 2 (vrow) ((fun i => uR i n) i).length (cellsR ((fun i => uR i n) i)) := own_cast hrow (by rw [uR_len]; omega) (by rw [hac, show k = n by omega]);have gz := own_mono (lo' := w.heap.size) om gy;have g6 : ∀ zz, zz < i → OwnNe (vrow) (H2 zz) := Wr.far hwr hrow om;refine go ?_;exact lend ⟨i + 1, updF H2 i (vrow), fv, rfl, rfl, rfl, om, (fun j hj => ap_push gv gw j hj), om, e8, (own_cast gu rfl (range_snoc H2 i (vrow)).symm), (by have h := Wr.push hwr gz g6; rwa [updF_id] at h)⟩;refine go ?_;refine l_op (k_move (v := vo) fw ?_);refine l_op (k_assign (v := vo) rfl ?_);refine go ?_;exact f_ret1 (t := 2) (v := vo) rfl fq (by have e : i = n := om; subst e; exact (matR_own hout hwr).mono om) rfl
end Go.Proofs.YtepcnphmfbbhiaaGreatDoor
set_option linter.all false
namespace Go.Proofs.YtepcnphmfbbhiaaGreatDoor
open Go Go.Eng Go.RowKit
attribute [local irreducible] wpListIn Code.wpIn Oper.wpIn Exit.then Exit.inBlock Exit.noGoto
set_option maxHeartbeats 40000000
theorem rank_no {n : Nat} {L : Rows} (h : vM n L = false) : Value.tuple #[.int .i64 0, .int .i64 130] = resK (rankS n L) := by
  unfold rankS; rw [if_neg (by rw [h]; simp)]; rfl
theorem det_no {n : Nat} {L : Rows} (h : ¬ sqB n L = true) : Value.tuple #[.agg #[S [], S []], .int .i64 130] = resQ (detS n L) := by
  unfold detS; rw [if_neg h]; rfl
end Go.Proofs.YtepcnphmfbbhiaaGreatDoor
set_option linter.all false
namespace Go.Proofs.YtepcnphmfbbhiaaGreatDoor
open Go Go.Eng Go.RowKit
attribute [local irreducible] wpListIn Code.wpIn Oper.wpIn Exit.then Exit.inBlock Exit.noGoto
set_option maxHeartbeats 40000000
section
variable {n : Nat} {L : Rows} {b : List R} {s : El} {lo : Nat} {w : World}
theorem solS_no (h : ¬ (vM n L = true ∧ b.all okR = true ∧ n = b.length)) : OutV lo w (solS n L b) (.tuple #[.slice none 0 0, .bool false, .int .i64 130]) := by unfold solS; rw [if_neg h]; rfl
theorem solS_none (h : vM n L = true ∧ b.all okR = true ∧ n = b.length) (e : elim n ((L 0).length + 1) (L 0).length (besC L b) = none) : OutV lo w (solS n L b) (.tuple #[.slice none 0 0, .bool false, .int .i64 130]) := by unfold solS; rw [if_pos h, e]; rfl
theorem solS_bad (h : vM n L = true ∧ b.all okR = true ∧ n = b.length) (e : elim n ((L 0).length + 1) (L 0).length (besC L b) = some s) (hp : fstI (pz s.L s.piv.length (L 0).length) (n - s.piv.length) 0 < n - s.piv.length) : OutV lo w (solS n L b) (.tuple #[.slice none 0 0, .bool false, .int .i64 130]) := by
  unfold solS; rw [if_pos h, e]; show OutV lo w (solE n _ s) _; unfold solE; rw [if_pos hp]; rfl
theorem solS_ok {v : Value} {xs : List R} {q : Bool} (h : vM n L = true ∧ b.all okR = true ∧ n = b.length) (e : elim n ((L 0).length + 1) (L 0).length (besC L b) = some s) (hp : ¬ fstI (pz s.L s.piv.length (L 0).length) (n - s.piv.length) 0 < n - s.piv.length)
    (hx : solF s.cols s.L (L 0).length s.cols.length 0 (zs (L 0).length) = xs) (ho : w.ownsRow lo 41 2 v xs.length (cellsR xs)) (hq : q = decide (s.piv.length = (L 0).length)) : OutV lo w (solS n L b) (.tuple #[v, .bool q, .int .i64 0]) := by
  unfold solS; rw [if_pos h, e]; show OutV lo w (solE n _ s) _; unfold solE; rw [if_neg hp, hx, hq]
  exact ⟨sA v, sC v, by rw [← own_eta ho], own_rw ho⟩
theorem invS_no (h : ¬ sqB n L = true) : OutM lo w n (invS n L) (.tuple #[.slice none 0 0, .int .i64 130]) := by unfold invS; rw [if_neg h]; rfl
theorem invS_none (h : sqB n L = true) (e : elim n (n + n) n (besU n L) = none) : OutM lo w n (invS n L) (.tuple #[.slice none 0 0, .int .i64 130]) := by unfold invS; rw [if_pos h, e]; rfl
theorem invS_few (h : sqB n L = true) (e : elim n (n + n) n (besU n L) = some s) (hp : s.piv.length < n) : OutM lo w n (invS n L) (.tuple #[.slice none 0 0, .int .i64 130]) := by
  unfold invS; rw [if_pos h, e]; show OutM lo w n (invE n s) _; unfold invE; rw [if_pos hp]; rfl
theorem invS_ok {v : Value} (h : sqB n L = true) (e : elim n (n + n) n (besU n L) = some s) (hp : ¬ s.piv.length < n) (hM : MatR lo w v n (fun i => (s.L i).drop n)) : OutM lo w n (invS n L) (.tuple #[v, .int .i64 0]) := by
  unfold invS; rw [if_pos h, e]; show OutM lo w n (invE n s) _; unfold invE; rw [if_neg hp]; exact ⟨v, rfl, hM⟩
end
theorem okR_det {n : Nat} {L : Rows} {d : R} (h : detS n L = some d) : okR d = true := by
  unfold detS at h
  split at h
  · rename_i hs
    obtain ⟨hv, hn⟩ := sqB_T hs
    cases e : elim n n n L with
    | none => rw [e] at h; cases h
    | some s =>
      rw [e] at h
      change detE n s = some d at h
      unfold detE at h
      split at h
      · cases h; exact okz
      · cases e2 : prodF s.piv s.piv.length 0 o1 with
        | none => rw [e2] at h; cases h
        | some p =>
          rw [e2] at h; simp only [Option.map_some, Option.some.injEq] at h
          have hp := okR_prod oko e2
          split at h
          · subst h; exact okR_neg hp
          · subst h; exact hp
  · cases h
theorem posF_step {L : Rows} {n k : Nat} {T : Option Bool} {d : R} (h : k < n) (hT : posF L (n - k) k = T) (h1 : detS (k + 1) (fun i => (L i).take (k + 1)) = some d) (h2 : ¬ sgnI (valZ d.1) ≤ 0) : posF L (n - (k + 1)) (k + 1) = T := by
  rw [sub1 h] at hT; unfold posF at hT; rw [h1] at hT; dsimp only at hT; rw [if_neg h2] at hT; exact hT
theorem posF_none {L : Rows} {n k : Nat} {T : Option Bool} (h : k < n) (hT : posF L (n - k) k = T) (h1 : detS (k + 1) (fun i => (L i).take (k + 1)) = none) : T = none := by
  rw [sub1 h] at hT; unfold posF at hT; rw [h1] at hT; exact hT.symm
theorem posF_no {L : Rows} {n k : Nat} {T : Option Bool} {d : R} (h : k < n) (hT : posF L (n - k) k = T) (h1 : detS (k + 1) (fun i => (L i).take (k + 1)) = some d) (h2 : sgnI (valZ d.1) ≤ 0) : T = some false := by
  rw [sub1 h] at hT; unfold posF at hT; rw [h1] at hT; dsimp only at hT; rw [if_pos h2] at hT; exact hT.symm
theorem posF_end {L : Rows} {n k : Nat} {T : Option Bool} (h : ¬ k < n) (hT : posF L (n - k) k = T) : T = some true := by rw [show n - k = 0 by omega] at hT; exact hT.symm
theorem posS_no {n : Nat} {L : Rows} (h : ¬ sqB n L = true) : Value.tuple #[.bool false, .int .i64 130] = resB (posS n L) := by unfold posS; rw [if_neg h]; rfl
theorem posS_ns {n : Nat} {L : Rows} (h : sqB n L = true) (h2 : ¬ Sym n L) : Value.tuple #[.bool false, .int .i64 0] = resB (posS n L) := by unfold posS; rw [if_pos h, if_neg h2]; rfl
theorem posS_some {n : Nat} {L : Rows} {q : Bool} (h : sqB n L = true) (h2 : Sym n L) (h3 : posF L n 0 = some q) : Value.tuple #[.bool q, .int .i64 0] = resB (posS n L) := by unfold posS; rw [if_pos h, if_pos h2, h3]; rfl
theorem posS_none {n : Nat} {L : Rows} (h : sqB n L = true) (h2 : Sym n L) (h3 : posF L n 0 = none) : Value.tuple #[.bool false, .int .i64 130] = resB (posS n L) := by unfold posS; rw [if_pos h, if_pos h2, h3]; rfl
theorem VM.bd {n : Nat} {L : Rows} (h : VM n L) : Bd n L := ⟨by have := h.2.1; omega, fun i hi => ⟨by have := (h.2.2.2.2 i hi).1; have := h.2.2.2.1; omega, fun k hk => lenR_ok (all_rAt.1 (h.2.2.2.2 i hi).2 k hk)⟩⟩
theorem Bd.takes {n k : Nat} {L : Rows} (h : Bd n L) (hk : k ≤ n) : Bd k (fun i => (L i).take k) := ⟨by have := h.1; omega, fun i hi => by
  have := h.2 i om
  refine ⟨by simp; omega, fun j hj => ?_⟩
  rw [List.length_take] at hj
  have hjl : j < (L i).length := by omega
  have : rAt ((L i).take k) j = rAt (L i) j := by unfold rAt; simp [List.getD, List.getElem?_take, show j < k by omega]
  show lenR (rAt ((L i).take k) j)
  rw [this]; exact (h.2 i om).2 j hjl⟩
end Go.Proofs.YtepcnphmfbbhiaaGreatDoor
set_option linter.all false
namespace Go.Proofs.YtepcnphmfbbhiaaGreatDoor
open Go Go.Eng Go.RowKit
attribute [local irreducible] wpListIn Code.wpIn Oper.wpIn Exit.then Exit.inBlock Exit.noGoto
set_option maxHeartbeats 40000000
theorem bd_of {n m : Nat} {L : Rows} (h : OkL n m L) (hn : n ≤ 1000000) (hm : m ≤ 1000000) : Bd n L := ⟨hn, fun i hi => ⟨by rw [(h i hi).1]; exact hm, fun k hk => lenR_ok ((h i hi).2 k (by rw [← (h i hi).1]; exact hk))⟩⟩
end Go.Proofs.YtepcnphmfbbhiaaGreatDoor
