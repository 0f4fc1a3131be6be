/- Part of the proof that all functions of the layer agree with the reference implementation. -/
import Derived.Test.YtepcnphmfbbhiaaGreatDoorLinYToLinR
import Derived.Test.YtepcnphmfbbhiaaGreatDoorEngH
set_option linter.all false
set_option linter.all false
namespace Go.Proofs.YtepcnphmfbbhiaaGreatDoor
set_option maxRecDepth 100000
open Go Go.Eng Go.RowKit
attribute [local irreducible] wpListIn Code.wpIn Oper.wpIn Exit.then Exit.inBlock Exit.noGoto
set_option maxHeartbeats 40000000
theorem Rw.takeR {W : World} {lo : Nat} {A : Option Addr} {xs : List R} (h : Rw W lo A (cellsR xs)) (c : Nat) : Rw W lo A (cellsR (xs.take c)) := by
  have := Rw.take (c * 2) h; rwa [cellsR_take] at this
def e0 : R := ([], [])
theorem made_cellsR (m : Nat) : (madeCells (Value.agg #[S [], S []]).cells (m * 2)).toList = cellsR (List.replicate m e0) := by
  induction m with
  | zero => simp [madeCells, cellsR]
  | succ m ih =>
    rw [List.replicate_succ', ← cellsR_app, ← ih]
    apply List.ext_getElem
    · simp [madeCells, cellsR]; omega
    · intro i h1 h2
      simp only [madeCells, Value.cells, Array.toList_map, List.getElem_map, Array.toList_range, List.getElem_range, List.getElem_append, List.length_map, List.length_range]
      by_cases hi : i < m * 2
      · rw [dif_pos hi]
      · rw [dif_neg hi]
        have hlen : (madeCells (Value.agg #[S [], S []]).cells ((m + 1) * 2)).toList.length = (m + 1) * 2 := by simp [madeCells]
        have hi2 : i < (m + 1) * 2 := by rw [hlen] at h1; exact h1
        have : i = m * 2 ∨ i = m * 2 + 1 := by omega
        rcases this with rfl | rfl
        · simp [cellsR, e0, Nat.mul_mod_left]
        · simp [cellsR, e0, Nat.add_mod, Nat.mul_mod_left]
theorem rep_len {xs : List R} {c n m : Nat} (hl : xs.length = n) (hc : c + m ≤ n) (hm : m ≤ c) : (xs.take c ++ (xs.take c).take m ++ xs.drop (c + m)).length = n := by
  simp only [List.length_append, List.length_take, List.length_drop]; omega
theorem rep_at {xs : List R} {c n m : Nat} (hl : xs.length = n) (hc : c + m ≤ n) (hm : m ≤ c) (h : ∀ k, k < c → rAt xs k = z0) : ∀ k, k < c + m → rAt (xs.take c ++ (xs.take c).take m ++ xs.drop (c + m)) k = z0 := by
  intro k hk
  have htc : ∀ j, j < c → rAt (xs.take c) j = z0 := fun j hj => by
    have : rAt (xs.take c) j = rAt xs j := by unfold rAt; simp [List.getD, List.getElem?_take, hj]
    rw [this]; exact h j hj
  have h1 : (xs.take c).length = c := by rw [List.length_take]; omega
  rw [rAt_appL (by simp only [List.length_append, List.length_take]; omega)]
  by_cases hkc : k < c
  · rw [rAt_appL om]; exact htc k hkc
  · rw [rAt_appR om, h1]
    have : rAt ((xs.take c).take m) (k - c) = rAt (xs.take c) (k - c) := by unfold rAt; simp [List.getD, List.getElem?_take, show k - c < m by omega]
    rw [this]; exact htc _ om
theorem rep_all {xs : List R} {c n : Nat} (hl : xs.length = n) (hc : ¬ c < n) (h : ∀ k, k < c → rAt xs k = z0) : xs = zs n := by
  refine eq_of_rAt (by rw [hl]; unfold zs; simp) fun j hj => ?_
  rw [h j om, rAt_get (by unfold zs; simp; omega)]
  simp [zs]
theorem zs_lenL (n : Nat) : (zs n).length = n := by unfold zs; exact List.length_replicate
def catL (L : Rows) : Nat → List R
  | 0 => []
  | k + 1 => catL L k ++ L k
theorem mul64_ok {n : Nat} {w : World} (hn : n ≤ 16) :
    Calls Tryz.prog 116 #[.int .u64 (((1 : Nat) : Int)), .int .u64 n] w (Ret w fun v w' => v = .tuple #[.int .u64 ((0 : Nat) : Int), .int .u64 n]) := by
 refine f_in Tryz.func116 rfl ?_;refine go ?_;refine l_op (k_and (m := 1) rfl rfl om ?_);refine go ?_;refine l_op (k_shr32 (m := 1) rfl rfl om ?_);refine go ?_;refine l_op (k_and (m := n) rfl rfl om ?_);refine go ?_;refine l_op (k_shr32 (m := n) rfl rfl om ?_);refine go ?_;refine l_op (k_mulU (a := ((1 : Nat) : Int)) (b := (n : Int)) (c := (n : Int)) rfl rfl (by simp) om ?_);refine go ?_;refine l_op (k_mulU (a := ((0 : Nat) : Int)) (b := (n : Int)) (c := ((0 : Nat) : Int)) rfl rfl (by simp) om ?_);refine go ?_;refine l_op (k_shr32 (m := n) rfl rfl om ?_);refine l_op (k_addU (a := ((0 : Nat) : Int)) (b := ((0 : Nat) : Int)) (c := ((0 : Nat) : Int)) rfl rfl (by simp) om ?_);refine go ?_;refine l_op (k_and (m := 0) rfl rfl om ?_);refine go ?_;refine l_op (k_shr32 (m := 0) rfl rfl om ?_);refine go ?_;refine l_op (k_mulU (a := ((1 : Nat) : Int)) (b := ((0 : Nat) : Int)) (c := ((0 : Nat) : Int)) rfl rfl (by simp) om ?_);refine l_op (k_addU (a := ((0 : Nat) : Int)) (b := ((0 : Nat) : Int)) (c := ((0 : Nat) : Int)) rfl rfl (by simp) om ?_);refine go ?_;refine l_op (k_mulU (a := ((0 : Nat) : Int)) (b := ((0 : Nat) : Int)) (c := ((0 : Nat) : Int)) rfl rfl (by simp) om ?_);refine go ?_;refine l_op (k_addU (a := ((0 : Nat) : Int)) (b := ((0 : Nat) : Int)) (c := ((0 : Nat) : Int)) rfl rfl (by simp) om ?_);refine go ?_;refine l_op (k_shr32 (m := 0) rfl rfl om ?_)
 refine l_op (k_addU (a := ((0 : Nat) : Int)) (b := ((0 : Nat) : Int)) (c := ((0 : Nat) : Int)) rfl rfl (by simp) om ?_);refine go ?_;refine l_op (k_mulU (a := ((1 : Nat) : Int)) (b := (n : Int)) (c := (n : Int)) rfl rfl (by simp) om ?_);refine go ?_;exact f_ret2 (t := 4) (u := 5) (v1 := .int .u64 (((0 : Nat) : Int))) (v2 := .int .u64 n) rfl (Ext.refl _) rfl rfl rfl
theorem bmul_ok {n : Nat} {w : World} (hn : n ≤ 16) :
    Calls Tryz.prog 88 #[.int .u64 (((1 : Nat) : Int)), .int .u64 n] w (Ret w fun v w' => v = .tuple #[.int .u64 ((0 : Nat) : Int), .int .u64 n]) := by
 refine f_in Tryz.func88 rfl ?_;refine go ?_;refine cl en118 (mul64_ok hn) ?_;rintro fd fe e8 rfl;have fc := e8.2;refine go ?_;exact f_ret2 (t := 4) (u := 5) (v1 := .int .u64 (((0 : Nat) : Int))) (v2 := .int .u64 n) rfl fc rfl rfl rfl
theorem rep_ok {A : Option Addr} {c n lo : Nat} {w : World} (hx : Rw w lo A (cellsR [z0])) (hn : 1 ≤ n) (hn16 : n ≤ 16) :
    Calls Tryz.prog 50 #[.slice (A) (1) (c), .int .i64 n] w (Ret w fun v w' => World.ownsRow w' w.heap.size 41 2 v n (cellsR (zs n))) := by
 refine f_in Tryz.func50 rfl ?_;refine go ?_;refine l_op (k_convert (k := .i64) (k' := .u64) (a := ((1 : Nat) : Int)) (c := ((1 : Nat) : Int)) U3 U112 rfl (wrap_u64 om) ?_);refine go ?_;refine l_op (k_convert (k := .i64) (k' := .u64) (a := (n : Int)) (c := (n : Int)) U3 U112 rfl (wrap_u64 om) ?_);refine clb en93 (hc := bmul_ok om) (hk := ?_);rintro gh fe fv rfl;have fd := fv.2;refine go ?_;refine l_op (k_convert (k := .u64) (k' := .i64) (a := (n : Int)) (c := (n : Int)) U112 U3 rfl (wrap_in (by unfold In64; omega)) ?_);refine l_op (k_make (m := n) U23 inf36 rfl rfl om (by simp only [maxLen]; omega) (fun fw fk gi fh => ?_));rw [made_cellsR] at fh;have fd := xt fd fk;have gj := bz fk;obtain ⟨e8, fi⟩ : ∃ x, x = some (⟨fe.heap.size, 0, none⟩ : Addr) := ⟨_, rfl⟩;rw [← fi] at fh;have fx : World.ownsRow fw (fe.heap.size) 41 2 (.slice e8 n n) (List.replicate n e0).length (cellsR (List.replicate n e0)) := by rw [List.length_replicate]; exact fh
 have hAo : e8 = some ⟨bkOf (sA (.slice e8 n n)), 0, none⟩ := by rw [fi]; rfl
 refine l_op (k_assign (v := .slice (e8) (n) (n)) (congrArg (fun a => Value.slice a n n) fi.symm) ?_);refine go ?_;refine l_op (k_copyR (o := 0) (l := List.replicate n e0) (src := [z0]) fx (by rw [Nat.zero_mul]; exact hAo) rfl (by simp) om rfl (hx.ext fd) rfl dc (fun fy fl gk gl f6 => ?_));have fd := plw fl fd;have gm := psz fl;refine go ?_;have hm1 : Nat.min 1 n = 1 := by show min 1 n = 1; omega
 refine c_lp [(8, 8), (34, 46)] (fun kk e W => ∃ j : Nat, ∃ xs : List R, (n - j = kk) ∧ (e 8 = .int .i64 j) ∧ (1 ≤ j) ∧ (j ≤ n) ∧ (xs.length = n) ∧ (∀ k, k < j → rAt xs k = z0) ∧ (fy.heap.size ≤ W.heap.size) ∧ (Ext w W) ∧ (W.ownsRow fe.heap.size 41 2 (.slice (e8) (n) (n)) xs.length (cellsR xs))) (n - (1)) ⟨1, ((List.replicate n e0).take 0 ++ [z0].take (Nat.min 1 n) ++ (List.replicate n e0).drop (0 + Nat.min 1 n)), rfl, (by rw [hm1]; rfl), (Nat.le_refl _), om, (by simp [hm1]; omega), (fun k hk => by rw [hm1, show k = 0 by omega]; simp [rAt]), (Nat.le_refl _), fd, f6⟩ ?_;rintro gn gp fm ⟨j, xs, rfl, fg, hjp, hjn, hxl, hz, gq, fc, hnw⟩;have gu := bz fc;by_cases hlj : j < n;have hj1 : Nat.min j (n - j) ≤ j := Nat.min_le_left _ _;have hj2 : j + Nat.min j (n - j) ≤ n := by have : Nat.min j (n - j) ≤ n - j := Nat.min_le_right _ _; omega
 have hj3 : 1 ≤ Nat.min j (n - j) := by show 1 ≤ min j (n - j); omega
 refine go ?_;have gv := own_lt hnw;have fj := Ext.drew fm;refine c_sd 8 (fun ls e W => (Ext w W) ∧ (fm.heap.size ≤ W.heap.size) ∧ (ls 7 = false → (W.ownsRow fe.heap.size 41 2 (.slice (e8) (n) (n)) xs.length (cellsR xs))) ∧ (ls 7 = true → (W.ownsRow fe.heap.size 41 2 (.slice (e8) (n) (n)) ((xs.take j ++ (xs.take j).take (Nat.min j (n - j)) ++ xs.drop (j + Nat.min j (n - j))).length) (cellsR (xs.take j ++ (xs.take j).take (Nat.min j (n - j)) ++ xs.drop (j + Nat.min j (n - j))))))) ⟨(xt fc fj), (bz fj), (fun _ => (own_ext fj hnw)), (fun h  => ff rfl h)⟩ ?_;refine sf ?_;refine sf_pw (fun il im io _ ip iq _ => by refine l_op (k_from (A := e8) (m := n) (c := n) (i := j) U23 sz36 rfl rfl om (Nat.le_refl _) ?_);refine go ?_;exact finp) ?_;refine sf ?_;refine sf_pw (fun ja jb jc _ jd je _ => by refine l_op (k_cut (A := e8) (m := n) (c := n) (j := j) U23 sz36 rfl rfl om ?_);refine go ?_;exact finp) ?_;refine sf_sv (V := .int .i64 (((Nat.min j (n - j) : Nat) : Int))) (fun jf jg jh f7 ji f8 jj => ?_) ?_;obtain ⟨fc, zst, fo, fp⟩ := f7;have jk := bz fc;have fq := fo f8;refine l_op (k_copyR (o := j) (l := xs) (src := xs.take j) fq (by unfold dropA; rw [if_neg om, hAo]; simp [Addr.add_mid, sA, bkOf]) rfl om om rfl (Rw.takeR (own_rw fq) j) (by rw [List.length_take]; omega) om (fun jl fu jm jn f9 => ?_));have fc := plw fu fc;have jo := psz fu;refine go ?_;exact fs ⟨rfl, fc, om, (fun gc => tf rfl gc), (fun _ => f9)⟩
 refine sf ?_;rintro jp jq jr gd ⟨fc, zst, fo, fp⟩;have js := bz fc;have gg := fp (gd 7 rfl);refine l_op (k_add (a := (j : Int)) (b := ((Nat.min j (n - j) : Nat) : Int)) (c := ((j + Nat.min j (n - j) : Nat) : Int)) rfl rfl (by unfold In64; omega) om ?_);refine go ?_;exact lend ⟨(j + Nat.min j (n - j)), (xs.take j ++ (xs.take j).take (Nat.min j (n - j)) ++ xs.drop (j + Nat.min j (n - j))), rfl, rfl, om, om, (rep_len hxl hj2 hj1), (rep_at hxl hj2 hj1 hz), om, fc, gg⟩;have hxs := rep_all hxl hlj hz;refine go ?_;exact f_ret1 (t := 4) (v := .slice (e8) (n) (n)) rfl fc (by have h := hnw; rw [hxs, zs_lenL] at h; exact own_mono om h) rfl
end Go.Proofs.YtepcnphmfbbhiaaGreatDoor
