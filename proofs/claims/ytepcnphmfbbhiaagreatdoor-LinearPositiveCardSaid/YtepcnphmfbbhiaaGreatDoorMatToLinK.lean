/- Part of the proof that all functions of the layer agree with the reference implementation. -/
import Derived.Test.YtepcnphmfbbhiaaGreatDoorRef6
import Derived.Test.YtepcnphmfbbhiaaGreatDoorEngPToEngF
set_option linter.all false
set_option linter.all false
namespace Go.Proofs.YtepcnphmfbbhiaaGreatDoor
open Go Go.Eng Go.RowKit
def sA : Value → Option Addr
  | .slice A _ _ => A
  | _ => none
def sC : Value → Nat
  | .slice _ _ c => c
  | _ => 0
def bkOf : Option Addr → Nat
  | some a => a.block
  | none => 0
def ofOf : Option Addr → Nat
  | some a => a.off
  | none => 0
def updF {α : Type} (f : Nat → α) (i : Nat) (a : α) : Nat → α := fun j => if j = i then a else f j
theorem updF_eq {α : Type} (f : Nat → α) (i : Nat) (a : α) : updF f i a i = a := by simp [updF]
theorem updF_ne {α : Type} (f : Nat → α) {i j : Nat} (a : α) (h : j ≠ i) : updF f i a j = f j := by simp [updF, h]
theorem rw_at {W : World} {lo j : Nat} {A : Option Addr} {cs : List Value} {u : Value} (h : Rw W lo A cs) (hu : cs[j]? = some u) : A = some ⟨bkOf A, ofOf A, none⟩ ∧ W.cell? ⟨bkOf A, ofOf A + j, none⟩ = some u := by
  obtain ⟨b, o, rfl, hc⟩ := h.cells j u hu
  exact ⟨rfl, hc⟩
theorem rw_pairF {W : World} {lo k : Nat} {A : Option Addr} {l : List R} (h : Rw W lo A (cellsR l)) (hk : k < l.length) :
    A = some ⟨bkOf A, ofOf A, none⟩ ∧ ∀ j u, [S (rAt l k).1, S (rAt l k).2][j]? = some u → W.cell? ⟨bkOf A, ofOf A + k * 2 + j, none⟩ = some u := by
  obtain ⟨b, o, rfl, hc⟩ := rw_pair h hk
  exact ⟨rfl, hc⟩
theorem own_eta {W : World} {lo sz n : Nat} {t : TypeId} {v : Value} {cs : List Value} (h : W.ownsRow lo t sz v n cs) : v = .slice (sA v) n (sC v) := by
  obtain ⟨hl, ⟨rfl, rfl⟩ | ⟨g, cap, cur, rfl, _⟩⟩ := h <;> rfl
theorem own_rw {W : World} {lo sz n : Nat} {t : TypeId} {v : Value} {cs : List Value} (h : W.ownsRow lo t sz v n cs) : Rw W lo (sA v) cs := by
  have h2 := h
  rw [own_eta h] at h2
  exact Rw.of_own h2
theorem own_lt {W : World} {lo sz n : Nat} {t : TypeId} {v : Value} {cs : List Value} (h : W.ownsRow lo t sz v n cs) : ∀ g, v.ownBlock = some g → g < W.heap.size := by
  obtain ⟨hl, ⟨rfl, rfl⟩ | ⟨g, cap, cur, rfl, hg, hh, _⟩⟩ := h
  · intro g e; cases e
  · intro g' e; cases e; exact (Array.getElem?_eq_some_iff.1 hh).1
theorem own_mono {W : World} {lo lo' sz n : Nat} {t : TypeId} {v : Value} {cs : List Value} (hl : lo' ≤ lo) (h : W.ownsRow lo t sz v n cs) : W.ownsRow lo' t sz v n cs := by
  obtain ⟨h1, h2 | ⟨g, cap, cur, rfl, hg, r⟩⟩ := h
  · exact ⟨h1, .inl h2⟩
  · exact ⟨h1, .inr ⟨g, cap, cur, rfl, Nat.le_trans hl hg, r⟩⟩
structure Mt (W : World) (lo : Nat) (A : Option Addr) (n : Nat) (H : Nat → Value) (L : Nat → List R) : Prop where
  out : Rw W lo A ((List.range n).map H)
  hdr : ∀ i, i < n → H i = .slice (sA (H i)) (L i).length (sC (H i))
  row : ∀ i, i < n → Rw W lo (sA (H i)) (cellsR (L i))
  cap : ∀ i, i < n → (L i).length ≤ sC (H i)
theorem own_cap {W : World} {base sz k : Nat} {et : TypeId} {v : Value} {cs : List Value} (h : W.ownsRow base et sz v k cs) : k ≤ sC v := by
  obtain ⟨hl, ⟨rfl, rfl⟩ | ⟨g, cap, cur, rfl, hg, hh, hc, r⟩⟩ := h
  · exact Nat.le_refl _
  · exact hc
section
variable {W W' : World} {lo hi n m : Nat} {A : Option Addr} {H : Nat → Value} {L : Nat → List R}
theorem Mt.ext (k : Ext W W') (h : Mt W lo A n H L) : Mt W' lo A n H L := ⟨h.out.ext k, h.hdr, fun i hi => (h.row i hi).ext k, h.cap⟩
theorem Mt.put {b : Nat} (k : Put W W' b) (hb : b < lo) (h : Mt W lo A n H L) : Mt W' lo A n H L := ⟨h.out.put k hb, h.hdr, fun i hi => (h.row i hi).put k hb, h.cap⟩
theorem Mt.mono {lo' : Nat} (hl : lo' ≤ lo) (h : Mt W lo A n H L) : Mt W lo' A n H L := ⟨h.out.mono hl, h.hdr, fun i hi => (h.row i hi).mono hl, h.cap⟩
theorem Mt.cell {i : Nat} (h : Mt W lo A n H L) (hi : i < n) : A = some ⟨bkOf A, ofOf A, none⟩ ∧ W.cell? ⟨bkOf A, ofOf A + i, none⟩ = some (.slice (sA (H i)) (L i).length (sC (H i))) := by
  rw [← h.hdr i hi]
  exact rw_at h.out (by simp [hi])
theorem Mt.elem {i k : Nat} (h : Mt W lo A n H L) (hi : i < n) (hk : k < (L i).length) :
    sA (H i) = some ⟨bkOf (sA (H i)), ofOf (sA (H i)), none⟩ ∧ ∀ j u, [S (rAt (L i) k).1, S (rAt (L i) k).2][j]? = some u → W.cell? ⟨bkOf (sA (H i)), ofOf (sA (H i)) + k * 2 + j, none⟩ = some u :=
  rw_pairF (h.row i hi) hk
theorem Mt.congr {L' : Nat → List R} (h : Mt W lo A n H L) (hL : ∀ i, i < n → L i = L' i) : Mt W lo A n H L' :=
  ⟨h.out, fun i hi => by rw [← hL i hi]; exact h.hdr i hi, fun i hi => by rw [← hL i hi]; exact h.row i hi, fun i hi => by rw [← hL i hi]; exact h.cap i hi⟩
structure Wr (W : World) (lo hi n : Nat) (H : Nat → Value) (L : Nat → List R) : Prop where
  own : ∀ i, i < n → W.ownsRow lo 41 2 (H i) (L i).length (cellsR (L i))
  hi : ∀ i, i < n → ∀ g, (H i).ownBlock = some g → g < hi
  ne : ∀ i j, i < n → j < n → i ≠ j → OwnNe (H i) (H j)
theorem Wr.nil : Wr W lo hi 0 H L := ⟨fun i h => by omega, fun i h => by omega, fun i j h => by omega⟩
theorem Wr.ext (k : Ext W W') (h : Wr W lo hi n H L) : Wr W' lo hi n H L := ⟨fun i hi => own_ext k (h.own i hi), h.hi, h.ne⟩
theorem Wr.put {b : Nat} (k : Put W W' b) (hb : b < lo ∨ hi ≤ b) (h : Wr W lo hi n H L) : Wr W' lo hi n H L :=
  ⟨fun i hi' => own_put k (fun e => by have h1 := h.hi i hi' b e; have h2 := own_ge (h.own i hi') b e; omega) (h.own i hi'), h.hi, h.ne⟩
theorem Wr.gr {row : Option Nat} (k : W.grownBy W' row) (hb : ∀ g, row = some g → g < lo ∨ hi ≤ g) (h : Wr W lo hi n H L) : Wr W' lo hi n H L :=
  ⟨fun i hi' => own_gr k (fun g e e2 => by have h1 := h.hi i hi' g e; have h2 := own_ge (h.own i hi') g e; have h3 := hb g e2.symm; omega) (h.own i hi'), h.hi, h.ne⟩
theorem Wr.grOut {v : Value} (k : W.grownBy W' v.ownBlock) (hne : ∀ i, i < n → OwnNe v (H i)) (h : Wr W lo hi n H L) : Wr W' lo hi n H L :=
  ⟨fun i hi' => own_gr k (fun g e e2 => hne i hi' g e2.symm e) (h.own i hi'), h.hi, h.ne⟩
theorem Wr.putOut {b : Nat} (k : Put W W' b) (hne : ∀ i, i < n → (H i).ownBlock ≠ some b) (h : Wr W lo hi n H L) : Wr W' lo hi n H L :=
  ⟨fun i hi' => own_put k (hne i hi') (h.own i hi'), h.hi, h.ne⟩
theorem Wr.mono {hi' : Nat} (hl : hi ≤ hi') (h : Wr W lo hi n H L) : Wr W lo hi' n H L := ⟨h.own, fun i hi g e => Nat.lt_of_lt_of_le (h.hi i hi g e) hl, h.ne⟩
theorem Wr.top (h : Wr W lo hi n H L) : Wr W lo W.heap.size n H L := ⟨h.own, fun i hi g e => own_lt (h.own i hi) g e, h.ne⟩
theorem Wr.hdr {i : Nat} (h : Wr W lo hi n H L) (hi : i < n) : H i = .slice (sA (H i)) (L i).length (sC (H i)) := own_eta (h.own i hi)
theorem Wr.elem {i k : Nat} (h : Wr W lo hi n H L) (hi : i < n) (hk : k < (L i).length) :
    sA (H i) = some ⟨bkOf (sA (H i)), ofOf (sA (H i)), none⟩ ∧ ∀ j u, [S (rAt (L i) k).1, S (rAt (L i) k).2][j]? = some u → W.cell? ⟨bkOf (sA (H i)), ofOf (sA (H i)) + k * 2 + j, none⟩ = some u :=
  rw_pairF (own_rw (h.own i hi)) hk
theorem Wr.mt (h : Wr W lo hi n H L) (ho : Rw W lo A ((List.range n).map H)) : Mt W lo A n H L := ⟨ho, fun i hi => h.hdr hi, fun i hi => own_rw (h.own i hi), fun i hi => own_cap (h.own i hi)⟩
theorem Wr.congr {L' : Nat → List R} (h : Wr W lo hi n H L) (hL : ∀ i, i < n → L i = L' i) : Wr W lo hi n H L' :=
  ⟨fun i hi => by rw [← hL i hi]; exact h.own i hi, h.hi, h.ne⟩
theorem Wr.push {r : Value} {l : List R} (h : Wr W lo hi n H L) (hr : W.ownsRow lo 41 2 r l.length (cellsR l)) (hne : ∀ i, i < n → OwnNe r (H i)) : Wr W lo W.heap.size (n + 1) (updF H n r) (updF L n l) := by
  refine ⟨fun i hi => ?_, fun i hi g e => ?_, fun i j hi hj hij => ?_⟩
  · by_cases e : i = n
    · subst e; rw [updF_eq, updF_eq]; exact hr
    · rw [updF_ne _ _ e, updF_ne _ _ e]; exact h.own i (by omega)
  · by_cases e' : i = n
    · subst e'; rw [updF_eq] at e; exact own_lt hr g e
    · rw [updF_ne _ _ e'] at e; exact own_lt (h.own i (by omega)) g e
  · by_cases e : i = n
    · subst e; rw [updF_eq, updF_ne _ _ (Ne.symm hij)]; exact hne j (by omega)
    · by_cases e2 : j = n
      · subst e2; rw [updF_eq, updF_ne _ _ e]; exact OwnNe.symm (hne i (by omega))
      · rw [updF_ne _ _ e, updF_ne _ _ e2]; exact h.ne i j (by omega) (by omega) hij
theorem range_snoc {α : Type} (H : Nat → α) (n : Nat) (r : α) : (List.range (n + 1)).map (updF H n r) = (List.range n).map H ++ [r] := by
  rw [List.range_succ, List.map_append]
  congr 1
  · exact List.map_congr_left fun i hi => updF_ne _ _ (by have := List.mem_range.1 hi; omega)
  · simp [updF_eq]
theorem Wr.app {j : Nat} {v' : Value} {l' : List R} (h : Wr W lo hi n H L) (hj : j < n) (hg : W.grownBy W' (H j).ownBlock) (ho : W'.ownsRow lo 41 2 v' l'.length (cellsR l'))
    (ha : v'.ownBlock = (H j).ownBlock ∨ v'.ownBlock = some W.heap.size) : Wr W' lo W'.heap.size n (updF H j v') (updF L j l') := by
  have hother : ∀ i, i < n → i ≠ j → W'.ownsRow lo 41 2 (H i) (L i).length (cellsR (L i)) := fun i hi hij =>
    OwnNe.gr (h.ne j i hj hi (Ne.symm hij)) hg (h.own i hi)
  have hnew : ∀ i, i < n → i ≠ j → OwnNe v' (H i) := fun i hi hij => OwnNe.app ha (h.ne j i hj hi (Ne.symm hij)) (h.own i hi)
  refine ⟨fun i hi => ?_, fun i hi g e => ?_, fun i k hi hk hik => ?_⟩
  · by_cases e : i = j
    · subst e; rw [updF_eq, updF_eq]; exact ho
    · rw [updF_ne _ _ e, updF_ne _ _ e]; exact hother i hi e
  · by_cases e' : i = j
    · subst e'; rw [updF_eq] at e; exact own_lt ho g e
    · rw [updF_ne _ _ e'] at e; exact own_lt (hother i hi e') g e
  · by_cases e : i = j
    · subst e; rw [updF_eq, updF_ne _ _ (Ne.symm hik)]; exact hnew k hk (Ne.symm hik)
    · by_cases e2 : k = j
      · subst e2; rw [updF_eq, updF_ne _ _ e]; exact OwnNe.symm (hnew i hi e)
      · rw [updF_ne _ _ e, updF_ne _ _ e2]; exact h.ne i k hi hk hik
theorem Wr.perm (f : Nat → Nat) (hf : ∀ i, i < n → f i < n) (hi' : ∀ i j, i < n → j < n → f i = f j → i = j) (h : Wr W lo hi n H L) : Wr W lo hi n (fun i => H (f i)) (fun i => L (f i)) :=
  ⟨fun i hi => h.own _ (hf i hi), fun i hi => h.hi _ (hf i hi), fun i j hi hj hij => h.ne _ _ (hf i hi) (hf j hj) (fun e => hij (hi' i j hi hj e))⟩
theorem Wr.far {base sz k : Nat} {t : TypeId} {v : Value} {cs : List Value} (h : Wr W lo hi n H L) (hr : W.ownsRow base t sz v k cs) (hb : hi ≤ base) : ∀ i, i < n → OwnNe v (H i) :=
  fun i hi' g e e2 => by have h1 := h.hi i hi' g e2; have h2 := own_ge hr g e; omega
theorem ap_push {n : Nat} {v r : Value} {H : Nat → Value} (h : ∀ i, i < n → OwnNe v (H i)) (hr : OwnNe v r) : ∀ i, i < n + 1 → OwnNe v (updF H n r i) := fun i hi => by
  by_cases e : i = n
  · subst e; rw [updF_eq]; exact hr
  · rw [updF_ne _ _ e]; exact h i (by omega)
end
end Go.Proofs.YtepcnphmfbbhiaaGreatDoor
set_option linter.all false
namespace Go.Proofs.YtepcnphmfbbhiaaGreatDoor
open Go Go.Eng Go.RowKit
theorem okR_mk {n d : Int} (hn : fits n = true) (hd : fits d = true) (hg : Int.gcd n d = 1) (hp : 0 < d) : okR (showI n, showI d) = true := by
  unfold okR
  have h2 := isInt_showI hd
  have h1 := isInt_showI hn
  show (isInt (showI n) && isInt (showI d) && !decide (cmpS (showI d) [48] ≤ 0) && decide (gcdI (showI n) (showI d) = some [49])) = true
  rw [h1, h2]
  have h3 : ¬ cmpS (showI d) [48] ≤ 0 := by
    rw [cmpS_zero h2, cmpI_nonpos, valZ_showI]; omega
  have h4 : gcdI (showI n) (showI d) = some [49] := by
    unfold gcdI
    rw [h1, h2, Bool.and_self, if_pos rfl, valZ_showI, valZ_showI, hg]
    decide +kernel
  simp [h3, h4]
theorem okR_make {n d : Int} {q : R} (hn : fits n = true) (hd : fits d = true) (h : makeR n d = some q) : okR q = true := by
  unfold makeR at h
  by_cases h0 : d = 0
  · rw [if_pos h0] at h; cases h
  · rw [if_neg h0] at h
    cases h
    have hg : 0 < Int.gcd n d := Int.gcd_pos_of_ne_zero_right _ h0
    have hc := Int.gcd_ediv_gcd_ediv_gcd hg
    obtain ⟨g, hgg⟩ : ∃ g : Nat, Int.gcd n d = g := ⟨_, rfl⟩
    rw [hgg] at hc hg
    have hdv1 : (g : Int) ∣ n := by rw [← hgg]; exact Int.gcd_dvd_left ..
    have hdv2 : (g : Int) ∣ d := by rw [← hgg]; exact Int.gcd_dvd_right ..
    have hf1 : fits (n / (g : Int)) = true := fits_le hn (ediv_abs_le _ _ (by omega) hdv1)
    have hf2 : fits (d / (g : Int)) = true := fits_le hd (ediv_abs_le _ _ (by omega) hdv2)
    have hne : d / (g : Int) ≠ 0 := fun e => h0 (by have := Int.mul_ediv_cancel' hdv2; rw [e] at this; omega)
    unfold redN redD
    rw [hgg]
    by_cases hs : d < 0
    · rw [if_pos hs, if_pos hs, Int.neg_ediv_of_dvd hdv1, Int.neg_ediv_of_dvd hdv2]
      have h5 : d / (g : Int) < 0 := by
        have := Int.mul_ediv_cancel' hdv2
        refine Int.lt_of_not_ge fun h6 => ?_
        have h7 : 0 ≤ (g : Int) * (d / (g : Int)) := Int.mul_nonneg (by omega) h6
        omega
      refine okR_mk ?_ ?_ ?_ (by omega)
      · unfold fits at *; rwa [Int.natAbs_neg]
      · unfold fits at *; rwa [Int.natAbs_neg]
      · rw [Int.neg_gcd, Int.gcd_neg]; exact hc
    · rw [if_neg hs, if_neg hs]
      have h5 : 0 ≤ d / (g : Int) := Int.ediv_nonneg (by omega) (by omega)
      exact okR_mk hf1 hf2 hc (by omega)
theorem okR_both {n d : Int} {q : R} (h : bothF n d = some q) : okR q = true := by
  unfold bothF at h
  cases h1 : fits n with
  | false => rw [h1] at h; simp at h
  | true =>
    cases h2 : fits d with
    | false => rw [h1, h2] at h; simp at h
    | true => rw [h1, h2, Bool.and_self, if_pos rfl] at h; exact okR_make h1 h2 h
theorem okR_mul {a b q : R} (h : mulR a b = some q) : okR q = true := by unfold mulR at h; split at h <;> first | exact okR_both h | cases h
theorem okR_div {a b q : R} (h : divR a b = some q) : okR q = true := by unfold divR at h; split at h <;> first | exact okR_both h | cases h
theorem okR_add {a b q : R} (h : addR a b = some q) : okR q = true := by
  unfold addR at h; split at h
  · split at h <;> first | exact okR_both h | cases h
  · cases h
theorem okR_sub {a b q : R} (h : subR a b = some q) : okR q = true := by
  unfold subR at h; split at h
  · split at h <;> first | exact okR_both h | cases h
  · cases h
theorem okR_len {a : R} (h : okR a = true) : a.1.length ≤ 1000000 ∧ a.2.length ≤ 1000000 := by
  have h1 := (isInt_len (okR_1 h)).2
  have h2 := (isInt_len (okR_2 h)).2
  omega
theorem neg_ok {a : R} (h : okR a = true) : (subR ([48], [49]) a).isSome = true := by
  have hz : valZ [48] = 0 := by decide +kernel
  have ho : valZ [49] = 1 := by decide +kernel
  unfold subR
  rw [okR_zero, h, Bool.and_self, if_pos rfl]
  simp only [hz, ho, Int.zero_mul, Int.mul_one, Int.one_mul, Int.zero_sub]
  have f0 : fits 0 = true := by decide +kernel
  have f1 := fits_val (okR_1 h)
  have f2 := fits_val (okR_2 h)
  have f3 : fits (-valZ a.1) = true := by unfold fits at *; rwa [Int.natAbs_neg]
  rw [f0, f1, Bool.and_self, if_pos rfl]
  unfold bothF
  rw [f3, f2, Bool.and_self, if_pos rfl]
  unfold makeR
  rw [if_neg (by have := okR_pos h; omega)]
  rfl
def z0 : R := ([48], [49])
def o1 : R := ([49], [49])
abbrev Rows := Nat → List R
def divL (r : Nat) (pv : R) : Nat → Nat → Rows → Option Rows
  | 0, _, L => some L
  | f + 1, k, L => match divR (rAt (L r) k) pv with
    | none => none
    | some q => divL r pv f (k + 1) (updF L r ((L r).set k q))
def subL (r i : Nat) (by_ : R) : Nat → Nat → Rows → Option Rows
  | 0, _, L => some L
  | f + 1, k, L => match mulR by_ (rAt (L r) k) with
    | none => none
    | some p => match subR (rAt (L i) k) p with
      | none => none
      | some d => subL r i by_ f (k + 1) (updF L i ((L i).set k d))
def clrL (m r c : Nat) : Nat → Nat → Rows → Option Rows
  | 0, _, L => some L
  | f + 1, i, L => if i = r ∨ rAt (L i) c = z0 then clrL m r c f (i + 1) L else match subL r i (rAt (L i) c) (m - c) c L with
    | none => none
    | some L' => clrL m r c f (i + 1) L'
def pivL (c : Nat) (L : Rows) : Nat → Nat → Nat
  | 0, p => p
  | f + 1, p => if rAt (L p) c = z0 then pivL c L f (p + 1) else p
theorem pivL_bd (c : Nat) (L : Rows) : ∀ (f p : Nat), p ≤ pivL c L f p ∧ pivL c L f p ≤ p + f
  | 0, p => ⟨Nat.le_refl _, Nat.le_refl _⟩
  | f + 1, p => by
    unfold pivL
    split
    · have := pivL_bd c L f (p + 1); omega
    · omega
def swF (p r i : Nat) : Nat := if i = p then r else if i = r then p else i
def swL (p r : Nat) (L : Rows) : Rows := fun i => L (swF p r i)
structure El where
  L : Rows
  piv : List R
  cols : List Nat
  sw : Nat
def colE (n m c : Nat) (s : El) : Option El :=
  if pivL c s.L (n - s.piv.length) s.piv.length = n then some s
  else match divL s.piv.length (rAt (s.L (pivL c s.L (n - s.piv.length) s.piv.length)) c) (m - c) c (swL (pivL c s.L (n - s.piv.length) s.piv.length) s.piv.length s.L) with
    | none => none
    | some L2 => match clrL m s.piv.length c n 0 L2 with
      | none => none
      | some L3 => some ⟨L3, s.piv ++ [rAt (s.L (pivL c s.L (n - s.piv.length) s.piv.length)) c], s.cols ++ [c], if pivL c s.L (n - s.piv.length) s.piv.length = s.piv.length then s.sw else s.sw + 1⟩
def elimF (n m : Nat) : Nat → Nat → El → Option El
  | 0, _, s => some s
  | f + 1, c, s => match colE n m c s with
    | none => none
    | some s' => elimF n m f (c + 1) s'
def elim (n m cols : Nat) (L : Rows) : Option El := elimF n m cols 0 ⟨L, [], [], 0⟩
def OkL (n m : Nat) (L : Rows) : Prop := ∀ i, i < n → (L i).length = m ∧ ∀ k, k < m → okR (rAt (L i) k) = true
theorem rAt_set {l : List R} {k j : Nat} {q : R} (hk : k < l.length) : rAt (l.set k q) j = if j = k then q else rAt l j := by
  unfold rAt
  rw [List.getD, List.getD, List.getElem?_set]
  by_cases h : k = j
  · subst h; simp [hk]
  · simp [h, Ne.symm h]
theorem OkL.set {n m i k : Nat} {L : Rows} {q : R} (h : OkL n m L) (hk : k < m) (hi : i < n) (hq : okR q = true) : OkL n m (updF L i ((L i).set k q)) := by
  intro j hj
  by_cases e : j = i
  · subst e
    rw [updF_eq]
    refine ⟨by rw [List.length_set]; exact (h j hj).1, fun k' hk' => ?_⟩
    rw [rAt_set (by rw [(h j hj).1]; exact hk)]
    split
    · exact hq
    · exact (h j hj).2 k' hk'
  · rw [updF_ne _ _ e]; exact h j hj
theorem OkL.sw {n m p r : Nat} {L : Rows} (h : OkL n m L) (hp : p < n) (hr : r < n) : OkL n m (swL p r L) := by
  intro i hi
  refine h _ ?_
  unfold swF
  split
  · exact hr
  · split
    · exact hp
    · exact hi
theorem swF_lt {n p r i : Nat} (hp : p < n) (hr : r < n) (hi : i < n) : swF p r i < n := by
  unfold swF; split
  · exact hr
  · split <;> omega
theorem swF_inj {p r i j : Nat} (h : swF p r i = swF p r j) : i = j := by
  unfold swF at h
  split at h <;> split at h <;> (try split at h) <;> (try split at h) <;> omega
theorem swF_self (r i : Nat) : swF r r i = i := by unfold swF; split <;> (try split) <;> omega
theorem swL_self (r : Nat) (L : Rows) : swL r r L = L := funext fun i => by unfold swL; rw [swF_self]
section steps
variable {r i c k n m p cols : Nat} {pv q by_ d : R} {L L1 L2 L3 : Rows} {T : Option Rows} {E : Option El} {piv : List R} {cs : List Nat} {sw sw' : Nat}
theorem sub1 (h : k < m) : m - k = (m - (k + 1)) + 1 := by omega
theorem divL_some (hk : k < m) (h : divL r pv (m - k) k L = T) (hd : divR (rAt (L r) k) pv = some q) : divL r pv (m - (k + 1)) (k + 1) (updF L r ((L r).set k q)) = T := by
  rw [sub1 hk] at h; unfold divL at h; rw [hd] at h; exact h
theorem divL_none (hk : k < m) (h : divL r pv (m - k) k L = T) (hd : divR (rAt (L r) k) pv = none) : T = none := by
  rw [sub1 hk] at h; unfold divL at h; rw [hd] at h; exact h.symm
theorem divL_end (hk : ¬ k < m) (h : divL r pv (m - k) k L = T) : T = some L := by
  rw [show m - k = 0 by omega] at h; exact h.symm
theorem subL_some (hk : k < m) (h : subL r i by_ (m - k) k L = T) (hp : mulR by_ (rAt (L r) k) = some q) (hd : subR (rAt (L i) k) q = some d) : subL r i by_ (m - (k + 1)) (k + 1) (updF L i ((L i).set k d)) = T := by
  rw [sub1 hk] at h; unfold subL at h; rw [hp] at h; dsimp only at h; rw [hd] at h; exact h
theorem subL_none1 (hk : k < m) (h : subL r i by_ (m - k) k L = T) (hp : mulR by_ (rAt (L r) k) = none) : T = none := by
  rw [sub1 hk] at h; unfold subL at h; rw [hp] at h; exact h.symm
theorem subL_none2 (hk : k < m) (h : subL r i by_ (m - k) k L = T) (hp : mulR by_ (rAt (L r) k) = some q) (hd : subR (rAt (L i) k) q = none) : T = none := by
  rw [sub1 hk] at h; unfold subL at h; rw [hp] at h; dsimp only at h; rw [hd] at h; exact h.symm
theorem subL_end (hk : ¬ k < m) (h : subL r i by_ (m - k) k L = T) : T = some L := by
  rw [show m - k = 0 by omega] at h; exact h.symm
theorem clrL_skip (hi : i < n) (h : clrL m r c (n - i) i L = T) (hs : i = r ∨ rAt (L i) c = z0) : clrL m r c (n - (i + 1)) (i + 1) L = T := by
  rw [sub1 hi] at h; unfold clrL at h; rw [if_pos hs] at h; exact h
theorem clrL_some (hi : i < n) (h : clrL m r c (n - i) i L = T) (hs1 : ¬ i = r) (hs2 : ¬ rAt (L i) c = z0) (hd : subL r i (rAt (L i) c) (m - c) c L = some L1) : clrL m r c (n - (i + 1)) (i + 1) L1 = T := by
  rw [sub1 hi] at h; unfold clrL at h; rw [if_neg (by rintro (h | h) <;> contradiction), hd] at h; exact h
theorem clrL_none (hi : i < n) (h : clrL m r c (n - i) i L = T) (hs1 : ¬ i = r) (hs2 : ¬ rAt (L i) c = z0) (hd : subL r i (rAt (L i) c) (m - c) c L = none) : T = none := by
  rw [sub1 hi] at h; unfold clrL at h; rw [if_neg (by rintro (h | h) <;> contradiction), hd] at h; exact h.symm
theorem clrL_end (hi : ¬ i < n) (h : clrL m r c (n - i) i L = T) : T = some L := by
  rw [show n - i = 0 by omega] at h; exact h.symm
theorem swL_top (h : L1 = swL p r L) : L1 r = L p := by
  rw [h]; unfold swL swF; split <;> simp_all
theorem el_skip (hc : c < cols) (h : elimF n m (cols - c) c ⟨L, piv, cs, sw⟩ = E) (hp : pivL c L (n - piv.length) piv.length = n) : elimF n m (cols - (c + 1)) (c + 1) ⟨L, piv, cs, sw⟩ = E := by
  rw [sub1 hc] at h; unfold elimF colE at h; rw [if_pos hp] at h; exact h
theorem el_none1 (hc : c < cols) (h : elimF n m (cols - c) c ⟨L, piv, cs, sw⟩ = E) (hp : pivL c L (n - piv.length) piv.length = p) (hpn : p < n) (hL1 : L1 = swL p piv.length L)
    (hd : divL piv.length (rAt (L1 piv.length) c) (m - c) c L1 = none) : E = none := by
  rw [sub1 hc] at h; unfold elimF colE at h
  dsimp only at h
  rw [hp, if_neg (by omega), ← hL1, ← swL_top hL1, hd] at h; exact h.symm
theorem el_none2 (hc : c < cols) (h : elimF n m (cols - c) c ⟨L, piv, cs, sw⟩ = E) (hp : pivL c L (n - piv.length) piv.length = p) (hpn : p < n) (hL1 : L1 = swL p piv.length L)
    (hd : divL piv.length (rAt (L1 piv.length) c) (m - c) c L1 = some L2) (hcl : clrL m piv.length c n 0 L2 = none) : E = none := by
  rw [sub1 hc] at h; unfold elimF colE at h
  dsimp only at h
  rw [hp, if_neg (by omega), ← hL1, ← swL_top hL1, hd] at h
  dsimp only at h
  rw [hcl] at h; exact h.symm
theorem el_some (hc : c < cols) (h : elimF n m (cols - c) c ⟨L, piv, cs, sw⟩ = E) (hp : pivL c L (n - piv.length) piv.length = p) (hpn : p < n) (hL1 : L1 = swL p piv.length L) (hsw : sw' = if p = piv.length then sw else sw + 1)
    (hd : divL piv.length (rAt (L1 piv.length) c) (m - c) c L1 = some L2) (hcl : clrL m piv.length c n 0 L2 = some L3) :
    elimF n m (cols - (c + 1)) (c + 1) ⟨L3, piv ++ [rAt (L1 piv.length) c], cs ++ [c], sw'⟩ = E := by
  rw [sub1 hc] at h; unfold elimF colE at h
  dsimp only at h
  rw [hp, if_neg (by omega), ← hL1, ← swL_top hL1, hd] at h
  dsimp only at h
  rw [hcl, ← hsw] at h; exact h
theorem el_end (hc : ¬ c < cols) {s : El} (h : elimF n m (cols - c) c s = E) : E = some s := by
  rw [show cols - c = 0 by omega] at h; exact h.symm
end steps
end Go.Proofs.YtepcnphmfbbhiaaGreatDoor
set_option linter.all false
namespace Go.Proofs.YtepcnphmfbbhiaaGreatDoor
open Go Go.Eng Go.RowKit
theorem g36 : Tryz.prog.eqGuardType Tryz.prog.depth 41 = false := by kernel_rfl
theorem st36 : Tryz.prog.stoodInHeld 41 = false := by kernel_rfl
theorem part9 (w : World) (cs : Array Value) (i : Nat) (v : Value) (h : cs[i]? = some v) : (part 9 cs i).run Tryz.prog w = .ok v w := by
  unfold part
  simp [isAgg, run_underlying Tryz.underlying9, h]
theorem eq9 (w : World) (a b : List UInt8) (d : Nat) : (Op.equalIn (d + 1) 9 (S a) (S b)).run Tryz.prog w = .ok (decide (a = b)) w := by
  unfold Op.equalIn
  simp [run_underlying Tryz.underlying9, S]
  have h : ∀ x y : ByteArray, (x == y) = (x.data == y.data) := fun x y => by cases x; cases y; rfl
  rw [h]
  exact Bool.eq_iff_iff.2 (by simp)
theorem eq36 (w : World) (a b : R) : (Op.equal 41 (.agg #[S a.1, S a.2]) (.agg #[S b.1, S b.2])).run Tryz.prog w = .ok (decide (a = b)) w := by
  unfold Op.equal Op.maxDepth
  show (Op.equalIn (9998 + 1 + 1) 41 _ _).run _ _ = _
  unfold Op.equalIn
  obtain ⟨a1, a2⟩ := a
  obtain ⟨b1, b2⟩ := b
  have p1 := part9 w #[S a1, S a2] 0 (S a1) rfl
  have p2 := part9 w #[S a1, S a2] 1 (S a2) rfl
  have p3 := part9 w #[S b1, S b2] 0 (S b1) rfl
  have p4 := part9 w #[S b1, S b2] 1 (S b2) rfl
  have e1 := eq9 w a1 b1 9998
  have e2 := eq9 w a2 b2 9998
  simp [run_underlying Tryz.underlying41, st36, p1, p2, p3, p4, e1, e2]
  by_cases h1 : a1 = b1 <;> by_cases h2 : a2 = b2 <;> simp [h1, h2]
section
variable {r : Option Nat} {n N : Nat} {e : Nat → Value} {ds : List Deferred} {w : World} {Q : Exit → Act → World → Prop} {K : Act → World → Prop}
variable {d ty : Nat} {pos : String} {af : Array Edge} {g : Option (Nat × Bool)} {v u : Value} {x y : Operand} {t t' : TypeId}
theorem guard36 {op : BinOp} (x y : Operand) (a b : Array Value) : (eqGuard op 41 x y (.agg a) (.agg b)).run Tryz.prog w = .ok () w := by
  unfold eqGuard
  cases op <;> simp [g36]
theorem k_eqlR {a b : R} {q : Bool} (hx : ev N e x = .agg #[S a.1, S a.2]) (hy : ev N e y = .agg #[S b.1, S b.2]) (hq : decide (a = b) = q) (hk : K (act N (upd e d (.bool q)) ds) w) :
    Oper.wpIn (Fw r) n Tryz.prog ⟨some d, .binOp .eql 41 x y t', ty, pos, af, g⟩ (act N e ds) w K Q :=
  k_bin hx hy (guard36 ..) (by subst hq; simp [binOp, eq36]) hk
theorem k_neqR {a b : R} {q : Bool} (hx : ev N e x = .agg #[S a.1, S a.2]) (hy : ev N e y = .agg #[S b.1, S b.2]) (hq : (!decide (a = b)) = q) (hk : K (act N (upd e d (.bool q)) ds) w) :
    Oper.wpIn (Fw r) n Tryz.prog ⟨some d, .binOp .neq 41 x y t', ty, pos, af, g⟩ (act N e ds) w K Q :=
  k_bin hx hy (guard36 ..) (by subst hq; simp [binOp, eq36]) hk
end
theorem take_set {α : Type} (l : List α) (m i : Nat) (a : α) (h : i < m) : (l.set i a).take m = (l.take m).set i a := by
  rw [List.take_set]
theorem cellsR_set : ∀ (l : List R) (k : Nat) (q : R), ((cellsR l).set (k * 2) (S q.1)).set (k * 2 + 1) (S q.2) = cellsR (l.set k q)
  | [], k, q => by simp [cellsR]
  | a :: t, 0, q => by simp [cellsR]
  | a :: t, k + 1, q => by
    have ih := cellsR_set t k q
    rw [show (k + 1) * 2 = k * 2 + 2 by omega, show k * 2 + 2 + 1 = k * 2 + 1 + 2 by omega]
    simp only [cellsR, List.flatMap_cons, List.cons_append, List.nil_append, List.set_cons_succ] at ih ⊢
    rw [ih]
theorem own_put2 {W : World} {lo n : Nat} {t : TypeId} {v : Value} {l : List R} {k : Nat} {q : R} (h : W.ownsRow lo t 2 v n (cellsR l)) (hl : l.length = n) (hk : k < n) :
    ∃ cur, Blk W (bkOf (sA v)) t cur ∧ ofOf (sA v) = 0 ∧ k * 2 + 2 ≤ cur.size ∧ v.ownBlock = some (bkOf (sA v)) ∧ ∀ W', Blk W' (bkOf (sA v)) t (putCells cur (k * 2) [S q.1, S q.2]) → W'.ownsRow lo t 2 v (l.set k q).length (cellsR (l.set k q)) := by
  obtain ⟨h1, ⟨rfl, h0⟩ | ⟨g, cap, cur, rfl, hg, hh, hc, hm, hs, ht⟩⟩ := h
  · omega
  · refine ⟨cur, hh, rfl, by omega, rfl, fun W' hB => ?_⟩
    rw [List.length_set, hl]
    refine ⟨by rw [cellsR_len, List.length_set, hl], .inr ⟨g, cap, _, rfl, hg, hB, hc, hm, ?_, ?_⟩⟩
    · simp [putCells, hs]
    · show ((cur.setIfInBounds (k * 2) (S q.1)).setIfInBounds (k * 2 + 1) (S q.2)).toList.take (n * 2) = _
      rw [Array.toList_setIfInBounds, Array.toList_setIfInBounds, List.take_set, List.take_set, ht, cellsR_set]
section
variable {r : Option Nat} {n N : Nat} {e : Nat → Value} {ds : List Deferred} {w : World} {Q : Exit → Act → World → Prop} {K : Act → World → Prop}
variable {ty : Nat} {pos : String} {af : Array Edge} {g : Option (Nat × Bool)} {v u : Value} {x y : Operand} {t : TypeId}
theorem k_storeW {lo hi m i k : Nat} {H : Nat → Value} {L : Nat → List R} {q : R} (h : Wr w lo hi m H L) (hi' : i < m) (hk : k < (L i).length) (hs : (Tryz.prog.info? t).map (·.size) = some 2)
    (hx : ev N e x = .pointer (some ⟨bkOf (sA (H i)), ofOf (sA (H i)) + k * 2, none⟩)) (hy : ev N e y = .agg #[S q.1, S q.2])
    (hK : ∀ w', Put w w' (bkOf (sA (H i))) → lo ≤ bkOf (sA (H i)) → bkOf (sA (H i)) < hi → (H i).ownBlock = some (bkOf (sA (H i))) → Wr w' lo hi m H (updF L i ((L i).set k q)) → K (act N e ds) w') :
    Oper.wpIn (Fw r) n Tryz.prog ⟨none, .store t x y, ty, pos, af, g⟩ (act N e ds) w K Q := by
  obtain ⟨cur, hB, h0, hsz, hob, hnew⟩ := own_put2 (q := q) (h.own i hi') rfl hk
  rw [h0, Nat.zero_add] at hx
  refine k_storeA (vs := [S q.1, S q.2]) (cs := cur) hs hx hy (by simp [S, Value.oneCell']) hB hsz (fun w' hp hB' => hK w' hp (own_ge (h.own i hi') _ hob) (h.hi i hi' _ hob) hob ?_)
  refine ⟨fun j hj => ?_, h.hi, h.ne⟩
  by_cases hji : j = i
  · subst hji; rw [updF_eq]; exact hnew w' hB'
  · rw [updF_ne _ _ hji]
    exact own_put hp (fun e => h.ne i j hi' hj (Ne.symm hji) _ hob e) (h.own j hj)
end
def Ho (W : World) (A : Option Addr) (n : Nat) (H : Nat → Value) : Prop := ∃ g cur, A = some ⟨g, 0, none⟩ ∧ Blk W g 26 cur ∧ n ≤ cur.size ∧ ∀ i, i < n → cur[i]? = some (H i)
section
variable {W W' : World} {A : Option Addr} {n lo : Nat} {H : Nat → Value}
theorem Ho.ext (k : Ext W W') (h : Ho W A n H) : Ho W' A n H := by
  obtain ⟨g, cur, h1, h2, h3⟩ := h; exact ⟨g, cur, h1, h2.ext k, h3⟩
theorem Ho.put {b : Nat} (k : Put W W' b) (hb : bkOf A ≠ b) (h : Ho W A n H) : Ho W' A n H := by
  obtain ⟨g, cur, rfl, h2, h3⟩ := h; exact ⟨g, cur, rfl, Put.blk k hb h2, h3⟩
theorem Ho.gr {row : Option Nat} (k : W.grownBy W' row) (hb : some (bkOf A) ≠ row) (h : Ho W A n H) : Ho W' A n H := by
  obtain ⟨g, cur, rfl, h2, h3⟩ := h; exact ⟨g, cur, rfl, Blk.gr k hb h2, h3⟩
theorem Ho.cell {i : Nat} (h : Ho W A n H) (hi : i < n) : A = some ⟨bkOf A, ofOf A, none⟩ ∧ W.cell? ⟨bkOf A, ofOf A + i, none⟩ = some (H i) := by
  obtain ⟨g, cur, rfl, h2, h3, h4⟩ := h
  exact ⟨rfl, h2.cell (by show cur[0 + i]? = _; rw [Nat.zero_add]; exact h4 i hi)⟩
theorem Ho.rw (h : Ho W A n H) (hl : lo ≤ bkOf A) : Rw W lo A ((List.range n).map H) := by
  obtain ⟨g, cur, rfl, h2, h3, h4⟩ := h
  refine ⟨fun j u hu => ⟨g, 0, rfl, ?_⟩, fun ad e => by cases e; exact hl, fun ad e => by cases e; exact h2.lt⟩
  have hj : j < n := by have := (List.getElem?_eq_some_iff.1 hu).1; simpa using this
  rw [Nat.zero_add]
  refine h2.cell ?_
  rw [h4 j hj]
  rw [List.getElem?_map, List.getElem?_range hj] at hu
  simpa using hu
theorem Ho.of_own {v : Value} (h : W.ownsRow lo 26 1 v n ((List.range n).map H)) (hn : 0 < n) : Ho W (sA v) n H ∧ lo ≤ bkOf (sA v) ∧ v.ownBlock = some (bkOf (sA v)) := by
  obtain ⟨h1, ⟨rfl, h0⟩ | ⟨g, cap, cur, rfl, hg, hh, hc, hm, hs, ht⟩⟩ := h
  · omega
  · refine ⟨⟨g, cur, rfl, hh, by omega, fun i hi => ?_⟩, hg, rfl⟩
    have h2 : (cur.toList.take (n * 1))[i]? = ((List.range n).map H)[i]? := by rw [ht]
    rw [List.getElem?_take, if_pos (by omega), List.getElem?_map, List.getElem?_range hi] at h2
    simpa using h2
theorem Ho.congr {H' : Nat → Value} (h : Ho W A n H) (hL : ∀ i, i < n → H i = H' i) : Ho W A n H' := by
  obtain ⟨g, cur, h1, h2, h3, h4⟩ := h
  exact ⟨g, cur, h1, h2, h3, fun i hi => by rw [← hL i hi]; exact h4 i hi⟩
end
section
variable {r : Option Nat} {n N : Nat} {e : Nat → Value} {ds : List Deferred} {w : World} {Q : Exit → Act → World → Prop} {K : Act → World → Prop}
variable {ty : Nat} {pos : String} {af : Array Edge} {g : Option (Nat × Bool)} {v u : Value} {x y : Operand} {t : TypeId}
theorem k_storeH {A : Option Addr} {m i : Nat} {H : Nat → Value} (h : Ho w A m H) (hi : i < m) (hs : (Tryz.prog.info? t).map (·.size) = some 1) (hx : ev N e x = .pointer (some ⟨bkOf A, ofOf A + i, none⟩)) (hy : ev N e y = v) (h1 : v.oneCell' = true)
    (hK : ∀ w', Put w w' (bkOf A) → Ho w' A m (updF H i v) → K (act N e ds) w') : Oper.wpIn (Fw r) n Tryz.prog ⟨none, .store t x y, ty, pos, af, g⟩ (act N e ds) w K Q := by
  obtain ⟨g', cur, rfl, h2, h3, h4⟩ := h
  have hx' : ev N e x = .pointer (some ⟨g', i, none⟩) := by rw [hx]; simp [bkOf, ofOf]
  refine k_store (cs := cur) hs hx' hy h1 h2 (by omega) (fun w' hp hB => hK w' hp ⟨g', _, rfl, hB, by rw [Array.size_setIfInBounds]; exact h3, fun j hj => ?_⟩)
  by_cases hji : j = i
  · subst hji; rw [updF_eq, Array.getElem?_setIfInBounds, if_pos rfl, if_pos (by omega)]
  · rw [updF_ne _ _ hji, Array.getElem?_setIfInBounds, if_neg (Ne.symm hji)]; exact h4 j hj
end
theorem fill_one (f : Nat → Value) {v : Value} (h1 : v.oneCell' = true) : Instr.fill (fun i => some (i * 1, 1)) ((Array.range 1).map f) [(0, v)] = some #[v] := by
  have hc : v.cells = #[v] := by cases v <;> first | rfl | (simp [Value.oneCell'] at h1; done)
  have hr : (Array.range 1).map f = #[f 0] := by apply Array.ext' ; simp [Array.range]
  unfold Instr.fill
  rw [hr, hc]
  simp [Instr.fill]
end Go.Proofs.YtepcnphmfbbhiaaGreatDoor
