/- Part of the proof that all functions of the layer agree with the reference implementation. -/
import Derived.Test.YtepcnphmfbbhiaaGreatDoorLin1
set_option linter.all false
set_option linter.all false
namespace Go.Proofs.YtepcnphmfbbhiaaGreatDoor
open Go Go.Eng Go.RowKit
def dropA (s : Nat) (A : Option Addr) (c i : Nat) : Option Addr := if c = i then A else A.map (·.add (i * s))
section
variable {P : Program} {r : Option Nat} {n N : Nat} {e : Nat → Value} {ds : List Deferred} {w : World} {Q : Exit → Act → World → Prop} {K : Act → World → Prop}
variable {d ty : Nat} {pos : String} {af : Array Edge} {g : Option (Nat × Bool)} {v u : Value} {x y : Operand} {t t' : TypeId}
theorem k_from {el : TypeId} {A : Option Addr} {m c s i : Nat} {k : IntKind} {lo : Operand} (hu : P.underlying t = some (.slice el)) (hi0 : (P.info? el).map (·.size) = some s) (hx : ev N e x = .slice A m c)
    (hlo : ev N e lo = .int k (i : Int)) (hij : i ≤ m) (hj : m ≤ c) (hk : K (act N (upd e d (.slice (dropA s A c i) (m - i) (c - i))) ds) w) :
    Oper.wpIn (Fw r) n P ⟨some d, .slice t x (some lo) none none, ty, pos, af, g⟩ (act N e ds) w K Q :=
  k_sliceR (i := i) (j := m) hu hi0 hx (.inr ⟨k, congrArg some hlo⟩) (.inl ⟨rfl, rfl⟩) hij hj hk
end
theorem add_mid (ad : Addr) (k : Nat) : (ad.add k).block = ad.block := by unfold Addr.add; split <;> rfl
theorem Rw.fromA {W : World} {lo : Nat} {A : Option Addr} {cs : List Value} {m c i s : Nat} (h : Rw W lo A cs) (hl : cs.length = m * s) (hm : m ≤ c) (hi : i ≤ m) : Rw W lo (dropA s A c i) (cs.drop (i * s)) := by
  unfold dropA
  by_cases hc : c = i
  · rw [if_pos hc]
    have : cs.drop (i * s) = [] := List.drop_eq_nil_of_le (by rw [hl]; exact Nat.mul_le_mul_right _ (by omega))
    rw [this]
    exact ⟨fun j u hu => by simp at hu, h.lo, h.hi⟩
  · rw [if_neg hc]
    refine ⟨fun j u hu => ?_, fun ad e => ?_, fun ad e => ?_⟩
    · rw [List.getElem?_drop] at hu
      obtain ⟨b, o, rfl, hv⟩ := h.cells _ u hu
      exact ⟨b, o + i * s, by simp [Addr.add_mid], by rw [Nat.add_assoc]; exact hv⟩
    · cases A with
      | none => cases e
      | some a => cases e; show lo ≤ (a.add (i * s)).block; rw [add_mid]; exact h.lo a rfl
    · cases A with
      | none => cases e
      | some a => cases e; show (a.add (i * s)).block < _; rw [add_mid]; exact h.hi a rfl
theorem Mt.drop {W : World} {lo n c i : Nat} {A : Option Addr} {H : Nat → Value} {L : Rows} (h : Mt W lo A n H L) (hn : n ≤ c) (hi : i ≤ n) : Mt W lo (dropA 1 A c i) (n - i) (fun k => H (k + i)) (fun k => L (k + i)) := by
  refine ⟨?_, fun k hk => h.hdr _ (by omega), fun k hk => h.row _ (by omega), fun k hk => h.cap _ (by omega)⟩
  have h1 := Rw.fromA (i := i) (s := 1) h.out (by simp) hn hi
  have : ((List.range n).map H).drop (i * 1) = (List.range (n - i)).map fun k => H (k + i) := by
    apply List.ext_getElem
    · simp
    · intro j h1 h2; simp [Nat.add_comm]
  rw [this] at h1
  exact h1
theorem cellsR_drop : ∀ (l : List R) (i : Nat), (cellsR l).drop (i * 2) = cellsR (l.drop i)
  | l, 0 => by simp
  | [], i + 1 => by simp [cellsR]
  | a :: l, i + 1 => by
    have := cellsR_drop l i
    rw [show (i + 1) * 2 = i * 2 + 2 by omega]
    simpa [cellsR] using this
theorem Rw.fromR {W : World} {lo : Nat} {A : Option Addr} {xs : List R} {c i : Nat} (h : Rw W lo A (cellsR xs)) (hm : xs.length ≤ c) (hi : i ≤ xs.length) : Rw W lo (dropA 2 A c i) (cellsR (xs.drop i)) := by
  have := Rw.fromA (i := i) (s := 2) h (cellsR_len _) hm hi
  rwa [cellsR_drop] at this
def fstI (p : Nat → Bool) : Nat → Nat → Nat
  | 0, i => i
  | f + 1, i => if p i then i else fstI p f (i + 1)
theorem fstI_end {p : Nat → Bool} {n i : Nat} (h : ¬ i < n) : fstI p (n - i) i = i := by rw [show n - i = 0 by omega]; rfl
theorem fstI_hit {p : Nat → Bool} {n i : Nat} (h : i < n) (hp : p i = true) : fstI p (n - i) i = i := by
  rw [show n - i = (n - (i + 1)) + 1 by omega]; unfold fstI; rw [if_pos hp]
theorem fstI_step {p : Nat → Bool} {n i : Nat} (h : i < n) (hp : p i = false) : fstI p (n - i) i = fstI p (n - (i + 1)) (i + 1) := by
  rw [show n - i = (n - (i + 1)) + 1 by omega]; conv => lhs; unfold fstI
  rw [if_neg (by rw [hp]; simp)]
theorem fstI_spec (p : Nat → Bool) (n : Nat) : ∀ f i, i + f = n → i ≤ fstI p f i ∧ fstI p f i ≤ n ∧ (∀ j, i ≤ j → j < fstI p f i → p j = false) ∧ (fstI p f i < n → p (fstI p f i) = true)
  | 0, i, h => by unfold fstI; exact ⟨Nat.le_refl _, by omega, fun j _ _ => by omega, fun _ => by omega⟩
  | f + 1, i, h => by
    unfold fstI
    cases hp : p i with
    | true => rw [if_pos rfl]; exact ⟨Nat.le_refl _, by omega, fun j _ _ => by omega, fun _ => hp⟩
    | false =>
      rw [if_neg (by simp)]
      obtain ⟨h1, h2, h3, h4⟩ := fstI_spec p n f (i + 1) (by omega)
      exact ⟨by omega, h2, fun j hj hj2 => by by_cases e : j = i; exact e ▸ hp; exact h3 j (by omega) hj2, h4⟩
theorem fstI_lt {p : Nat → Bool} {n : Nat} : fstI p n 0 < n ↔ ∃ i, i < n ∧ p i = true := by
  obtain ⟨_, h2, h3, h4⟩ := fstI_spec p n n 0 (by omega)
  constructor
  · intro h; exact ⟨_, h, h4 h⟩
  · rintro ⟨i, hi, hp⟩
    refine Nat.lt_of_not_ge fun hge => ?_
    have := h3 i (Nat.zero_le _) (by omega); rw [hp] at this; cases this
def ixI (p : Nat → Bool) (n : Nat) : Int := if fstI p n 0 < n then ((fstI p n 0 : Nat) : Int) else -1
theorem ixI_hit {p : Nat → Bool} {n i : Nat} (h : i < n) (hp : p i = true) (hq : fstI p (n - i) i = fstI p n 0) : ((i : Nat) : Int) = ixI p n := by
  rw [fstI_hit h hp] at hq; unfold ixI; rw [← hq, if_pos h]
theorem ixI_end {p : Nat → Bool} {n i : Nat} (h : ¬ i < n) (hq : fstI p (n - i) i = fstI p n 0) : -1 = ixI p n := by
  rw [fstI_end h] at hq; unfold ixI; rw [← hq, if_neg h]
theorem ixI_geq (p : Nat → Bool) (n : Nat) : decide ((0 : Int) ≤ ixI p n) = decide (fstI p n 0 < n) := by
  unfold ixI; split <;> rename_i h <;> simp [h]
abbrev pz (L : Rows) (r c : Nat) : Nat → Bool := fun i => !decide (rAt (L (i + r)) c = z0)
def Bd (n : Nat) (L : Rows) : Prop := n ≤ 1000000 ∧ ∀ i, i < n → (L i).length ≤ 1000000 ∧ ∀ k, k < (L i).length → lenR (rAt (L i) k)
def BdV (l : List R) : Prop := l.length ≤ 1000000 ∧ ∀ k, k < l.length → lenR (rAt l k)
theorem Bd.row {n i : Nat} {L : Rows} (h : Bd n L) (hi : i < n) : BdV (L i) := h.2 i hi
theorem rAt_get {l : List R} {k : Nat} (h : k < l.length) : rAt l k = l[k] := by simp [rAt, List.getD, h]
theorem all_rAt {l : List R} : l.all okR = true ↔ ∀ k, k < l.length → okR (rAt l k) = true := by
  rw [List.all_eq_true]
  constructor
  · intro h k hk; rw [rAt_get hk]; exact h _ (List.getElem_mem hk)
  · intro h a ha; obtain ⟨k, hk, rfl⟩ := List.mem_iff_getElem.1 ha; rw [← rAt_get hk]; exact h k hk
theorem all_has (l : List R) : (!decide (fstI (fun k => !okR (rAt l k)) l.length 0 < l.length)) = l.all okR := by
  cases e : l.all okR with
  | true =>
    have h := all_rAt.1 e
    simp only [Bool.not_eq_true', decide_eq_false_iff_not, fstI_lt]
    rintro ⟨i, hi, hp⟩; rw [h i hi] at hp; cases hp
  | false =>
    simp only [Bool.not_eq_false', decide_eq_true_eq, fstI_lt]
    refine Classical.byContradiction fun hn => ?_
    have : l.all okR = true := all_rAt.2 fun k hk => by
      cases h : okR (rAt l k) with
      | true => rfl
      | false => exact absurd ⟨k, hk, by simp [h]⟩ hn
    rw [e] at this; cases this
def RowOk (m : Nat) (l : List R) : Prop := l.length = m ∧ l.all okR = true
instance (m : Nat) (l : List R) : Decidable (RowOk m l) := by unfold RowOk; infer_instance
def VM (n : Nat) (L : Rows) : Prop := 1 ≤ n ∧ n ≤ 8 ∧ 1 ≤ (L 0).length ∧ (L 0).length ≤ 8 ∧ ∀ i, i < n → RowOk (L 0).length (L i)
instance (n : Nat) (L : Rows) : Decidable (VM n L) := by unfold VM; infer_instance
def vM (n : Nat) (L : Rows) : Bool := decide (VM n L)
theorem VM.ok {n : Nat} {L : Rows} (h : VM n L) : OkL n (L 0).length L := fun i hi => ⟨(h.2.2.2.2 i hi).1, fun k hk => all_rAt.1 (h.2.2.2.2 i hi).2 k (by rw [(h.2.2.2.2 i hi).1]; exact hk)⟩
theorem vM_has {n : Nat} {L : Rows} (h1 : 1 ≤ n) (h2 : n ≤ 8) (h3 : 1 ≤ (L 0).length) (h4 : (L 0).length ≤ 8) : (!decide (fstI (fun i => !decide ((L i).length = (L 0).length) || !(L i).all okR) n 0 < n)) = vM n L := by
  unfold vM
  by_cases e : VM n L
  · rw [decide_eq_true e]
    simp only [Bool.not_eq_true', decide_eq_false_iff_not, fstI_lt]
    rintro ⟨i, hi, hp⟩
    have := e.2.2.2.2 i hi
    simp [this.1, this.2] at hp
  · rw [decide_eq_false e]
    simp only [Bool.not_eq_false', decide_eq_true_eq, fstI_lt]
    refine Classical.byContradiction fun hn => e ⟨h1, h2, h3, h4, fun i hi => ?_⟩
    have : ¬ ((!decide ((L i).length = (L 0).length) || !(L i).all okR) = true) := fun h => hn ⟨i, hi, h⟩
    simp only [Bool.or_eq_true, Bool.not_eq_true', decide_eq_false_iff_not, not_or, Decidable.not_not, Bool.not_eq_false] at this
    exact this
theorem vM_no {n : Nat} {L : Rows} (h : ¬ (1 ≤ n ∧ n ≤ 8 ∧ 1 ≤ (L 0).length ∧ (L 0).length ≤ 8)) : false = vM n L := by
  unfold vM; rw [decide_eq_false (fun e : VM n L => h ⟨e.1, e.2.1, e.2.2.1, e.2.2.2.1⟩)]
theorem vM_T {n : Nat} {L : Rows} (h : vM n L = true) : VM n L := of_decide_eq_true h
theorem eq_of_rAt {a b : List R} (hl : a.length = b.length) (h : ∀ j, j < a.length → rAt a j = rAt b j) : a = b :=
  List.ext_getElem hl fun i h1 h2 => by rw [← rAt_get h1, ← rAt_get h2]; exact h i h1
theorem ne_of_rAt {a b : List R} {j : Nat} (h : ¬ rAt a j = rAt b j) : ¬ a = b := fun e => h (by rw [e])
def SameM (n : Nat) (L : Rows) (n' : Nat) (L' : Rows) : Prop := n = n' ∧ ∀ i, i < n → L i = L' i
instance (n : Nat) (L : Rows) (n' : Nat) (L' : Rows) : Decidable (SameM n L n' L') := by unfold SameM; infer_instance
def Sym (n : Nat) (L : Rows) : Prop := ∀ i, i < n → ∀ k, k < i → rAt (L i) k = rAt (L k) i
instance (n : Nat) (L : Rows) : Decidable (Sym n L) := by unfold Sym; infer_instance
def MatR (lo : Nat) (w : World) (v : Value) (n : Nat) (L : Rows) : Prop := ∃ A C H, v = .slice A n C ∧ n ≤ C ∧ Mt w lo A n H L
def Gt (H : Nat → Value) (k : Nat) : Nat → Value := fun i => .slice (sA (H i)) k (sC (H i))
theorem mapG_snoc (G : Nat → Value) (i : Nat) : (List.range i).map G ++ [G i] = (List.range (i + 1)).map G := by simp [List.range_succ]
theorem cellsR_take : ∀ (l : List R) (i : Nat), (cellsR l).take (i * 2) = cellsR (l.take i)
  | l, 0 => by simp [cellsR]
  | [], i + 1 => by simp [cellsR]
  | a :: l, i + 1 => by
    have := cellsR_take l i
    rw [show (i + 1) * 2 = i * 2 + 2 by omega]
    simpa [cellsR] using this
theorem Mt.takes {W : World} {lo lo' n k : Nat} {A B : Option Addr} {H : Nat → Value} {L : Rows} (h : Mt W lo A n H L) (hk : k ≤ n) (hl : ∀ i, i < n → k ≤ (L i).length) (ho : Rw W lo' B ((List.range k).map (Gt H k))) (hlo : lo ≤ lo') : Mt W lo B k (Gt H k) (fun i => (L i).take k) := by
  refine ⟨ho.mono hlo, fun i hi => ?_, fun i hi => ?_, fun i hi => ?_⟩
  · have := hl i (by omega); simp only [List.length_take, Nat.min_eq_left this]; rfl
  · have := Rw.take (k * 2) (h.row i (by omega)); rwa [cellsR_take] at this
  · have := h.cap i (by omega); have := hl i (by omega); simp only [List.length_take, Nat.min_eq_left this]; show k ≤ sC (H i); omega
end Go.Proofs.YtepcnphmfbbhiaaGreatDoor
set_option linter.all false
namespace Go.Proofs.YtepcnphmfbbhiaaGreatDoor
open Go Go.Eng Go.RowKit
def trR (L : Rows) (k j : Nat) : List R := (List.range k).map fun i => rAt (L i) j
theorem trR_succ (L : Rows) (k j : Nat) : trR L (k + 1) j = trR L k j ++ [rAt (L k) j] := by simp [trR, List.range_succ]
theorem trR_zero (L : Rows) (j : Nat) : trR L 0 j = [] := rfl
theorem trR_len (L : Rows) (k j : Nat) : (trR L k j).length = k := by simp [trR]
theorem trR_at (L : Rows) {k i : Nat} (j : Nat) (h : i < k) : rAt (trR L k j) i = rAt (L i) j := by
  rw [rAt_get (by rw [trR_len]; exact h)]; simp [trR]
theorem cellsR_snoc (l : List R) (q : R) : cellsR l ++ [S q.1, S q.2] = cellsR (l ++ [q]) := by simp [cellsR]
theorem cellsR_app (l m : List R) : cellsR l ++ cellsR m = cellsR (l ++ m) := by simp [cellsR]
def dotL (a : List R) (B : Rows) (j : Nat) : Nat → Nat → R → Option R
  | 0, _, s => some s
  | f + 1, k, s => match mulR (rAt a k) (rAt (B k) j) with
    | none => none
    | some p => match addR s p with
      | none => none
      | some s' => dotL a B j f (k + 1) s'
def rowL (a : List R) (B : Rows) : Nat → Nat → List R → Option (List R)
  | 0, _, l => some l
  | f + 1, j, l => match dotL a B j a.length 0 z0 with
    | none => none
    | some s => rowL a B f (j + 1) (l ++ [s])
def matL (L : Rows) (B : Rows) (p : Nat) : Nat → Nat → Rows → Option Rows
  | 0, _, K => some K
  | f + 1, i, K => match rowL (L i) B p 0 [] with
    | none => none
    | some l => matL L B p f (i + 1) (updF K i l)
def nilR : Rows := fun _ => []
def mulM (n p : Nat) (L B : Rows) : Option Rows := matL L B p n 0 nilR
section
variable {a l : List R} {B L K : Rows} {j k n m p i : Nat} {s q d : R} {T : Option R} {T2 : Option (List R)} {T3 : Option Rows}
theorem dotL_some (h : k < m) (hT : dotL a B j (m - k) k s = T) (h1 : mulR (rAt a k) (rAt (B k) j) = some q) (h2 : addR s q = some d) : dotL a B j (m - (k + 1)) (k + 1) d = T := by
  rw [sub1 h] at hT; unfold dotL at hT; rw [h1] at hT; dsimp only at hT; rw [h2] at hT; exact hT
theorem dotL_none1 (h : k < m) (hT : dotL a B j (m - k) k s = T) (h1 : mulR (rAt a k) (rAt (B k) j) = none) : T = none := by
  rw [sub1 h] at hT; unfold dotL at hT; rw [h1] at hT; exact hT.symm
theorem dotL_none2 (h : k < m) (hT : dotL a B j (m - k) k s = T) (h1 : mulR (rAt a k) (rAt (B k) j) = some q) (h2 : addR s q = none) : T = none := by
  rw [sub1 h] at hT; unfold dotL at hT; rw [h1] at hT; dsimp only at hT; rw [h2] at hT; exact hT.symm
theorem dotL_end (h : ¬ k < m) (hT : dotL a B j (m - k) k s = T) : T = some s := by rw [show m - k = 0 by omega] at hT; exact hT.symm
theorem rowL_some (h : j < p) (hT : rowL a B (p - j) j l = T2) (h1 : dotL a B j a.length 0 z0 = some s) : rowL a B (p - (j + 1)) (j + 1) (l ++ [s]) = T2 := by
  rw [sub1 h] at hT; unfold rowL at hT; rw [h1] at hT; exact hT
theorem rowL_none (h : j < p) (hT : rowL a B (p - j) j l = T2) (h1 : dotL a B j a.length 0 z0 = none) : T2 = none := by
  rw [sub1 h] at hT; unfold rowL at hT; rw [h1] at hT; exact hT.symm
theorem rowL_end (h : ¬ j < p) (hT : rowL a B (p - j) j l = T2) : T2 = some l := by rw [show p - j = 0 by omega] at hT; exact hT.symm
theorem matL_some (h : i < n) (hT : matL L B p (n - i) i K = T3) (h1 : rowL (L i) B p 0 [] = some l) : matL L B p (n - (i + 1)) (i + 1) (updF K i l) = T3 := by
  rw [sub1 h] at hT; unfold matL at hT; rw [h1] at hT; exact hT
theorem matL_none (h : i < n) (hT : matL L B p (n - i) i K = T3) (h1 : rowL (L i) B p 0 [] = none) : T3 = none := by
  rw [sub1 h] at hT; unfold matL at hT; rw [h1] at hT; exact hT.symm
theorem matL_end (h : ¬ i < n) (hT : matL L B p (n - i) i K = T3) : T3 = some K := by rw [show n - i = 0 by omega] at hT; exact hT.symm
end
theorem okz : okR z0 = true := okR_zero
def mulS (n : Nat) (L : Rows) (m : Nat) (B : Rows) : Option Rows := if vM n L = true ∧ vM m B = true ∧ (L 0).length = m then mulM n (B 0).length L B else none
def uR (i k : Nat) : List R := (List.range k).map fun j => if i = j then o1 else z0
theorem uR_eq {i k : Nat} (h : i = k) : uR i (k + 1) = uR i k ++ [o1] := by simp [uR, List.range_succ, h]
theorem uR_ne {i k : Nat} (h : ¬ i = k) : uR i (k + 1) = uR i k ++ [z0] := by simp [uR, List.range_succ, h]
theorem uR_len (i k : Nat) : (uR i k).length = k := by simp [uR]
theorem updF_id {α : Type} (f : Nat → α) (i : Nat) : updF f i (f i) = f := funext fun j => by unfold updF; split <;> simp_all
def OutM (lo : Nat) (w : World) (n : Nat) : Option Rows → Value → Prop
  | none, v => v = .tuple #[.slice none 0 0, .int .i64 130]
  | some K, v => ∃ u, v = .tuple #[u, .int .i64 0] ∧ MatR lo w u n K
theorem matR_nil {lo : Nat} {w : World} {L : Rows} : MatR lo w (.slice none 0 0) 0 L := ⟨none, 0, fun _ => .nilIface, rfl, Nat.le_refl _, ⟨by simpa using Rw.nil w lo, fun i h => by omega, fun i h => by omega, fun i h => by omega⟩⟩
theorem matR_own {lo hi n : Nat} {w : World} {v : Value} {H : Nat → Value} {L : Rows} (ho : w.ownsRow lo 26 1 v n ((List.range n).map H)) (hw : Wr w lo hi n H L) : MatR lo w v n L :=
  ⟨sA v, sC v, H, own_eta ho, own_cap ho, hw.mt (own_rw ho)⟩
theorem MatR.mono {lo lo' n : Nat} {w : World} {v : Value} {L : Rows} (hl : lo' ≤ lo) (h : MatR lo w v n L) : MatR lo' w v n L := by
  obtain ⟨A, C, H, rfl, hc, hM⟩ := h; exact ⟨A, C, H, rfl, hc, hM.mono hl⟩
theorem MatR.congr {lo n : Nat} {w : World} {v : Value} {L L' : Rows} (h : MatR lo w v n L) (hL : ∀ i, i < n → L i = L' i) : MatR lo w v n L' := by
  obtain ⟨A, C, H, rfl, hc, hM⟩ := h; exact ⟨A, C, H, rfl, hc, hM.congr hL⟩
end Go.Proofs.YtepcnphmfbbhiaaGreatDoor
set_option linter.all false
namespace Go.Proofs.YtepcnphmfbbhiaaGreatDoor
open Go Go.Eng Go.RowKit
def erI (b : Bool) : Int := if b then 0 else 130
def resK (o : Option Nat) : Value := .tuple #[.int .i64 ((o.getD 0 : Nat) : Int), .int .i64 (erI o.isSome)]
def resQ (o : Option R) : Value := .tuple #[.agg #[S (rN o), S (rD o)], .int .i64 (erI o.isSome)]
def resB (o : Option Bool) : Value := .tuple #[.bool (o.getD false), .int .i64 (erI o.isSome)]
def rankS (n : Nat) (L : Rows) : Option Nat := if vM n L = true then (elim n (L 0).length (L 0).length L).map fun s => s.piv.length else none
def prodF (l : List R) : Nat → Nat → R → Option R
  | 0, _, d => some d
  | f + 1, i, d => match mulR d (rAt l i) with
    | none => none
    | some p => prodF l f (i + 1) p
def negR (d : R) : R := (rN (subR z0 d), rD (subR z0 d))
def detE (n : Nat) (s : El) : Option R := if s.piv.length < n then some z0 else (prodF s.piv s.piv.length 0 o1).map fun d => if s.sw % 2 = 1 then negR d else d
def sqB (n : Nat) (L : Rows) : Bool := vM n L && decide (n = (L 0).length)
def detS (n : Nat) (L : Rows) : Option R := if sqB n L = true then (elim n n n L).bind (detE n) else none
section
variable {l : List R} {i n : Nat} {d p : R} {T : Option R}
theorem prodF_some (h : i < n) (hT : prodF l (n - i) i d = T) (h1 : mulR d (rAt l i) = some p) : prodF l (n - (i + 1)) (i + 1) p = T := by
  rw [sub1 h] at hT; unfold prodF at hT; rw [h1] at hT; exact hT
theorem prodF_none (h : i < n) (hT : prodF l (n - i) i d = T) (h1 : mulR d (rAt l i) = none) : T = none := by
  rw [sub1 h] at hT; unfold prodF at hT; rw [h1] at hT; exact hT.symm
theorem prodF_end (h : ¬ i < n) (hT : prodF l (n - i) i d = T) : T = some d := by rw [show n - i = 0 by omega] at hT; exact hT.symm
end
theorem sqB_T {n : Nat} {L : Rows} (h : sqB n L = true) : VM n L ∧ n = (L 0).length := by
  unfold sqB at h; simp only [Bool.and_eq_true, decide_eq_true_eq] at h; exact ⟨vM_T h.1, h.2⟩
theorem sqB_mk {n : Nat} {L : Rows} (h : vM n L = true) (h2 : n = (L 0).length) : sqB n L = true := by unfold sqB; rw [h, decide_eq_true h2]; rfl
theorem colE_piv {n m c : Nat} {s s' : El} (h : colE n m c s = some s') (ho : OkL n m s.L) (hc : c < m) (hp : ∀ k, k < s.piv.length → okR (rAt s.piv k) = true) (hl : s.piv.length ≤ n) : ∀ k, k < s'.piv.length → okR (rAt s'.piv k) = true := by
  unfold colE at h
  split at h
  · cases h; exact hp
  · rename_i hne
    split at h
    · cases h
    · split at h
      · cases h
      · cases h
        intro k hk
        rw [List.length_append] at hk
        by_cases hk2 : k < s.piv.length
        · have : rAt (s.piv ++ [rAt (s.L (pivL c s.L (n - s.piv.length) s.piv.length)) c]) k = rAt s.piv k := by
            unfold rAt; simp [List.getD, List.getElem?_append_left hk2]
          show okR (rAt (s.piv ++ _) k) = true
          rw [this]; exact hp k hk2
        · have hk3 : k = s.piv.length := by simp at hk; omega
          subst hk3
          have : rAt (s.piv ++ [rAt (s.L (pivL c s.L (n - s.piv.length) s.piv.length)) c]) s.piv.length = rAt (s.L (pivL c s.L (n - s.piv.length) s.piv.length)) c := by
            unfold rAt; simp [List.getD]
          show okR (rAt (s.piv ++ _) _) = true
          rw [this]
          have hb := pivL_bd c s.L (n - s.piv.length) s.piv.length
          exact (ho _ (by omega)).2 c hc
theorem divL_okL {n m r : Nat} {pv : R} (hr : r < n) : ∀ (f k : Nat) (L L' : Rows), k + f ≤ m → OkL n m L → divL r pv f k L = some L' → OkL n m L'
  | 0, _, _, _, _, h, e => by cases e; exact h
  | f + 1, k, L, L', hk, h, e => by
    unfold divL at e
    cases h1 : divR (rAt (L r) k) pv with
    | none => rw [h1] at e; cases e
    | some q => rw [h1] at e; exact divL_okL hr f (k + 1) _ L' (by omega) (OkL.set h (by omega) hr (okR_div h1)) e
theorem subL_okL {n m r i : Nat} {by_ : R} (hi : i < n) : ∀ (f k : Nat) (L L' : Rows), k + f ≤ m → OkL n m L → subL r i by_ f k L = some L' → OkL n m L'
  | 0, _, _, _, _, h, e => by cases e; exact h
  | f + 1, k, L, L', hk, h, e => by
    unfold subL at e
    cases h1 : mulR by_ (rAt (L r) k) with
    | none => rw [h1] at e; cases e
    | some q =>
      rw [h1] at e; dsimp only at e
      cases h2 : subR (rAt (L i) k) q with
      | none => rw [h2] at e; cases e
      | some d => rw [h2] at e; exact subL_okL hi f (k + 1) _ L' (by omega) (OkL.set h (by omega) hi (okR_sub h2)) e
theorem clrL_okL {n m r c : Nat} (hc : c ≤ m) : ∀ (f i : Nat) (L L' : Rows), i + f ≤ n → OkL n m L → clrL m r c f i L = some L' → OkL n m L'
  | 0, _, _, _, _, h, e => by cases e; exact h
  | f + 1, i, L, L', hi, h, e => by
    unfold clrL at e
    split at e
    · exact clrL_okL hc f (i + 1) L L' (by omega) h e
    · split at e
      · cases e
      · rename_i L1 h1
        exact clrL_okL hc f (i + 1) _ L' (by omega) (subL_okL (by omega) (m - c) c L L1 (by omega) h h1) e
theorem colE_okL {n m c : Nat} {s s' : El} (h : colE n m c s = some s') (ho : OkL n m s.L) (hc : c < m) (hl : s.piv.length ≤ n) : OkL n m s'.L ∧ s'.piv.length ≤ n ∧ (s.cols.length = s.piv.length → s'.cols.length = s'.piv.length) ∧ s.piv.length ≤ s'.piv.length := by
  unfold colE at h
  split at h
  · cases h; exact ⟨ho, hl, fun h => h, Nat.le_refl _⟩
  · rename_i hne
    have hb := pivL_bd c s.L (n - s.piv.length) s.piv.length
    split at h
    · cases h
    · rename_i L2 h2
      split at h
      · cases h
      · rename_i L3 h3
        cases h
        have o1 := divL_okL (by omega) _ _ _ _ (by omega) (OkL.sw ho (by omega) (by omega)) h2
        exact ⟨clrL_okL (by omega) _ _ _ _ (by omega) o1 h3, by simp; omega, fun h => by simp [h], by simp⟩
theorem elimF_ok {n m : Nat} : ∀ (f c : Nat) (s s' : El), c + f ≤ m → OkL n m s.L → (∀ k, k < s.piv.length → okR (rAt s.piv k) = true) → s.piv.length ≤ n → s.cols.length = s.piv.length → (∀ x ∈ s.cols, x < c) → s.piv.length ≤ c → elimF n m f c s = some s' →
    OkL n m s'.L ∧ (∀ k, k < s'.piv.length → okR (rAt s'.piv k) = true) ∧ s'.piv.length ≤ n ∧ s'.cols.length = s'.piv.length ∧ (∀ x ∈ s'.cols, x < c + f) ∧ s'.piv.length ≤ c + f
  | 0, c, s, s', _, h1, h2, h3, h4, h5, h6, e => by cases e; exact ⟨h1, h2, h3, h4, h5, h6⟩
  | f + 1, c, s, s', hf, h1, h2, h3, h4, h5, h6, e => by
    unfold elimF at e
    split at e
    · cases e
    · rename_i s1 hs
      have a := colE_okL hs h1 (by omega) h3
      have b := colE_piv hs h1 (by omega) h2 h3
      have hc : (∀ x ∈ s1.cols, x < c + 1) ∧ s1.piv.length ≤ c + 1 := by
        unfold colE at hs
        split at hs
        · cases hs; exact ⟨fun x hx => by have := h5 x hx; omega, by omega⟩
        · split at hs
          · cases hs
          · split at hs
            · cases hs
            · cases hs
              refine ⟨fun x hx => ?_, by simp; omega⟩
              rcases List.mem_append.1 hx with h | h
              · have := h5 x h; omega
              · simp at h; omega
      have := elimF_ok f (c + 1) s1 s' (by omega) a.1 b a.2.1 (a.2.2.1 h4) hc.1 hc.2 e
      exact ⟨this.1, this.2.1, this.2.2.1, this.2.2.2.1, fun x hx => by have := this.2.2.2.2.1 x hx; omega, by have := this.2.2.2.2.2; omega⟩
theorem elim_okL {n m cols : Nat} {L : Rows} {s : El} (h : OkL n m L) (hc : cols ≤ m) (e : elim n m cols L = some s) :
    OkL n m s.L ∧ (∀ k, k < s.piv.length → okR (rAt s.piv k) = true) ∧ s.piv.length ≤ n ∧ s.cols.length = s.piv.length ∧ (∀ x ∈ s.cols, x < cols) ∧ s.piv.length ≤ cols := by
  have := elimF_ok cols 0 ⟨L, [], [], 0⟩ s (by omega) h (fun k hk => by simp at hk) (by simp) rfl (by simp) (by simp) e
  simpa using this
theorem okR_prod {l : List R} : ∀ {f i : Nat} {d p : R}, okR d = true → prodF l f i d = some p → okR p = true
  | 0, _, _, _, h, e => by cases e; exact h
  | f + 1, i, d, p, h, e => by
    unfold prodF at e
    cases h1 : mulR d (rAt l i) with
    | none => rw [h1] at e; cases e
    | some q => rw [h1] at e; exact okR_prod (okR_mul h1) e
theorem oko : okR o1 = true := by decide +kernel
theorem negR_some {d : R} (h : okR d = true) : subR z0 d = some (negR d) := by
  have := neg_ok h
  unfold negR
  cases e : subR z0 d with
  | none => unfold z0 at e; rw [e] at this; cases this
  | some q => rfl
theorem okR_neg {d : R} (h : okR d = true) : okR (negR d) = true := okR_sub (negR_some h)
end Go.Proofs.YtepcnphmfbbhiaaGreatDoor
