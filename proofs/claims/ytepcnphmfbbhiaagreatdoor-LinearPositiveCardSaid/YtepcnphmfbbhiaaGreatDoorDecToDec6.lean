/- Part of the proof that all functions of the layer agree with the reference implementation. -/

set_option linter.all false
set_option linter.all false
def ofB (B : Nat) : List Nat → Nat
  | [] => 0
  | d :: l => d + B * ofB B l
def toBf (B : Nat) : Nat → Nat → List Nat
  | 0, _ => []
  | f + 1, n => if n = 0 then [] else n % B :: toBf B f (n / B)
def toB (B n : Nat) : List Nat := toBf B n n
theorem toBf_ext (B : Nat) (hB : 2 ≤ B) : ∀ (f n : Nat), n ≤ f → ∀ g, n ≤ g → toBf B f n = toBf B g n := by
  intro f
  induction f with
  | zero =>
    intro n hn g _
    obtain rfl : n = 0 := by omega
    cases g <;> simp [toBf]
  | succ f ih =>
    intro n hn g hg
    cases g with
    | zero => obtain rfl : n = 0 := by omega
              simp [toBf]
    | succ g =>
      simp only [toBf]
      by_cases h0 : n = 0
      · simp [h0]
      · rw [if_neg h0, if_neg h0]
        have hd : n / B < n := Nat.div_lt_self (by omega) (by omega)
        rw [ih (n / B) (by omega) g (by omega)]
theorem toB_zero (B : Nat) : toB B 0 = [] := rfl
theorem toB_pos (B n : Nat) (hB : 2 ≤ B) (hn : 0 < n) : toB B n = n % B :: toB B (n / B) := by
  unfold toB
  cases n with
  | zero => omega
  | succ m =>
    have hd : (m + 1) / B < m + 1 := Nat.div_lt_self (by omega) (by omega)
    simp only [toBf]
    rw [if_neg (by omega), toBf_ext B hB m ((m + 1) / B) (by omega) ((m + 1) / B) (Nat.le_refl _)]
theorem ofB_toB (B : Nat) (hB : 2 ≤ B) (n : Nat) : ofB B (toB B n) = n := by
  induction n using Nat.strongRecOn with
  | _ n ih =>
    by_cases h0 : n = 0
    · subst h0; rfl
    · rw [toB_pos B n hB (by omega)]
      simp only [ofB]
      rw [ih (n / B) (Nat.div_lt_self (by omega) (by omega))]
      exact Nat.mod_add_div n B
theorem toB_lt (B : Nat) (hB : 2 ≤ B) (n : Nat) : ∀ d ∈ toB B n, d < B := by
  induction n using Nat.strongRecOn with
  | _ n ih =>
    by_cases h0 : n = 0
    · subst h0; simp [toB_zero]
    · rw [toB_pos B n hB (by omega)]
      intro d hd
      rcases List.mem_cons.1 hd with rfl | h
      · exact Nat.mod_lt _ (by omega)
      · exact ih (n / B) (Nat.div_lt_self (by omega) (by omega)) d h
def Canon (B : Nat) (l : List Nat) : Prop := (∀ d ∈ l, d < B) ∧ l.getLast? ≠ some 0
theorem Canon.tail {B d : Nat} {l : List Nat} (h : Canon B (d :: l)) : Canon B l := by
  refine ⟨fun x hx => h.1 x (List.mem_cons_of_mem _ hx), ?_⟩
  have := h.2
  cases l with
  | nil => simp
  | cons e l => simpa [List.getLast?_cons_cons] using this
theorem Canon.pos {B : Nat} (hB : 2 ≤ B) : ∀ {l : List Nat}, Canon B l → l ≠ [] → 0 < ofB B l
  | [], _, h => absurd rfl h
  | [d], h, _ => by
    have := h.2
    simp [ofB] at this ⊢
    omega
  | d :: e :: l, h, _ => by
    have := Canon.pos hB h.tail (by simp)
    simp only [ofB] at this ⊢
    have : 0 < B * (e + B * ofB B l) := Nat.mul_pos (by omega) this
    omega
theorem canon_eq {B : Nat} (hB : 2 ≤ B) : ∀ {l : List Nat}, Canon B l → l = toB B (ofB B l)
  | [], _ => rfl
  | d :: l, h => by
    have hp := Canon.pos hB h (by simp)
    have hd : d < B := h.1 d (by simp)
    rw [toB_pos B _ hB hp]
    simp only [ofB]
    rw [Nat.add_mul_mod_self_left, Nat.mod_eq_of_lt hd, Nat.add_mul_div_left _ _ (by omega), Nat.div_eq_of_lt hd, Nat.zero_add, ← canon_eq hB h.tail]
theorem getLast_toB (B : Nat) (hB : 2 ≤ B) (n : Nat) : (toB B n).getLast? ≠ some 0 := by
  induction n using Nat.strongRecOn with
  | _ n ih =>
    by_cases h0 : n = 0
    · subst h0; simp [toB_zero]
    · rw [toB_pos B n hB (by omega)]
      have hih := ih (n / B) (Nat.div_lt_self (by omega) (by omega))
      by_cases hq : n / B = 0
      · rw [hq, toB_zero]
        have : n < B := by
          rcases Nat.lt_or_ge n B with h | h
          · exact h
          · have := Nat.div_pos h (by omega); omega
        simp [Nat.mod_eq_of_lt this]; omega
      · rw [toB_pos B (n / B) hB (Nat.pos_of_ne_zero hq)] at hih ⊢
        simpa [List.getLast?_cons_cons] using hih
def trimL : List Nat → List Nat
  | [] => []
  | d :: l => if trimL l = [] ∧ d = 0 then [] else d :: trimL l
theorem ofB_trim (B : Nat) : ∀ l, ofB B (trimL l) = ofB B l
  | [] => rfl
  | d :: l => by
    unfold trimL
    have ih := ofB_trim B l
    split
    · rename_i h; rw [h.1] at ih; simp only [ofB] at *; rw [← ih, h.2]; simp
    · simp only [ofB, ih]
theorem mem_trimL {d : Nat} : ∀ {l : List Nat}, d ∈ trimL l → d ∈ l
  | [], h => h
  | e :: l, h => by
    unfold trimL at h
    split at h
    · simp at h
    · rcases List.mem_cons.1 h with rfl | h
      · simp
      · exact List.mem_cons_of_mem _ (mem_trimL h)
theorem trimL_last : ∀ l, (trimL l).getLast? ≠ some 0
  | [] => by simp [trimL]
  | d :: l => by
    have ih := trimL_last l
    unfold trimL
    split
    · simp
    · rename_i h
      cases ht : trimL l with
      | nil => simp [ht] at h ⊢; exact h
      | cons e m => rw [ht] at ih; simpa [List.getLast?_cons_cons] using ih
theorem trimL_eq (B : Nat) (hB : 2 ≤ B) (l : List Nat) (h : ∀ d ∈ l, d < B) : trimL l = toB B (ofB B l) := by
  rw [← ofB_trim B l]
  exact canon_eq hB ⟨fun d hd => h d (mem_trimL hd), trimL_last l⟩
theorem ofB_append (B : Nat) : ∀ a b, ofB B (a ++ b) = ofB B a + B ^ a.length * ofB B b
  | [], b => by simp [ofB]
  | d :: a, b => by
    simp only [List.cons_append, ofB, ofB_append B a b, List.length_cons, Nat.pow_succ]
    rw [Nat.mul_add]
    have : B * (B ^ a.length * ofB B b) = B ^ a.length * B * ofB B b := by
      rw [← Nat.mul_assoc, Nat.mul_comm B]
    omega
theorem ofB_lt (B : Nat) : ∀ l : List Nat, (∀ d ∈ l, d < B) → ofB B l < B ^ l.length
  | [], _ => by simp [ofB]
  | d :: l, h => by
    have ih := ofB_lt B l (fun x hx => h x (List.mem_cons_of_mem _ hx))
    have hd := h d (by simp)
    simp only [ofB, List.length_cons, Nat.pow_succ]
    have : B * (ofB B l + 1) ≤ B * B ^ l.length := Nat.mul_le_mul_left _ ih
    rw [Nat.mul_add] at this
    rw [Nat.mul_comm (B ^ l.length)]
    omega
theorem length_toB_le (B : Nat) (hB : 2 ≤ B) (n k : Nat) (h : n < B ^ k) : (toB B n).length ≤ k := by
  induction k generalizing n with
  | zero => simp at h; subst h; simp [toB_zero]
  | succ k ih =>
    by_cases h0 : n = 0
    · subst h0; simp [toB_zero]
    · rw [toB_pos B n hB (by omega)]
      have : n / B < B ^ k := by
        rw [Nat.div_lt_iff_lt_mul (by omega)]
        rwa [Nat.pow_succ] at h
      have := ih _ this
      simp; omega
theorem length_toB_le_iff (B : Nat) (hB : 2 ≤ B) (n k : Nat) : (toB B n).length ≤ k ↔ n < B ^ k := by
  constructor
  · intro h
    have h1 := ofB_lt B (toB B n) (toB_lt B hB n)
    rw [ofB_toB B hB] at h1
    exact Nat.lt_of_lt_of_le h1 (Nat.pow_le_pow_right (by omega) h)
  · exact length_toB_le B hB n k
set_option linter.all false
def foldSt (d : Nat → Int) (c0 : Int) : Nat → Int × List Int
  | 0 => (c0, [])
  | k + 1 => if d k + (foldSt d c0 k).1 < 0 then (-1, (foldSt d c0 k).2 ++ [d k + (foldSt d c0 k).1 + 10000])
    else if 10000 ≤ d k + (foldSt d c0 k).1 then ((d k + (foldSt d c0 k).1) / 10000, (foldSt d c0 k).2 ++ [(d k + (foldSt d c0 k).1) % 10000])
    else (0, (foldSt d c0 k).2 ++ [d k + (foldSt d c0 k).1])
theorem foldSt_neg {d : Nat → Int} {c0 : Int} {k : Nat} (h : d k + (foldSt d c0 k).1 < 0) : foldSt d c0 (k + 1) = (-1, (foldSt d c0 k).2 ++ [d k + (foldSt d c0 k).1 + 10000]) := by
  rw [foldSt, if_pos h]
theorem foldSt_big {d : Nat → Int} {c0 : Int} {k : Nat} (h : ¬ d k + (foldSt d c0 k).1 < 0) (h2 : 10000 ≤ d k + (foldSt d c0 k).1) : foldSt d c0 (k + 1) = ((d k + (foldSt d c0 k).1) / 10000, (foldSt d c0 k).2 ++ [(d k + (foldSt d c0 k).1) % 10000]) := by
  rw [foldSt, if_neg h, if_pos h2]
theorem foldSt_mid {d : Nat → Int} {c0 : Int} {k : Nat} (h : ¬ d k + (foldSt d c0 k).1 < 0) (h2 : ¬ 10000 ≤ d k + (foldSt d c0 k).1) : foldSt d c0 (k + 1) = (0, (foldSt d c0 k).2 ++ [d k + (foldSt d c0 k).1]) := by
  rw [foldSt, if_neg h, if_neg h2]
theorem foldSt_len (d : Nat → Int) (c0 : Int) : ∀ k, (foldSt d c0 k).2.length = k
  | 0 => rfl
  | k + 1 => by
    have := foldSt_len d c0 k
    rw [foldSt]; split <;> (try split) <;> simp [this]
def valI : List Int → Int
  | [] => 0
  | x :: l => x + 10000 * valI l
theorem valI_append : ∀ a b, valI (a ++ b) = valI a + 10000 ^ a.length * valI b
  | [], b => by simp [valI]
  | x :: a, b => by
    simp only [List.cons_append, valI, valI_append a b, List.length_cons, Int.pow_succ]
    grind
def dsum (d : Nat → Int) : Nat → Int
  | 0 => 0
  | k + 1 => dsum d k + d k * 10000 ^ k
theorem foldSt_val (d : Nat → Int) (c0 : Int) : ∀ k, valI (foldSt d c0 k).2 + (foldSt d c0 k).1 * 10000 ^ k = c0 + dsum d k
  | 0 => by simp [foldSt, valI, dsum]
  | k + 1 => by
    have ih := foldSt_val d c0 k
    have hl := foldSt_len d c0 k
    rw [foldSt]
    split
    · simp only [valI_append, hl, valI, dsum, Int.pow_succ]; grind
    · split
      · simp only [valI_append, hl, valI, dsum, Int.pow_succ]
        have h3 := Int.mul_ediv_add_emod (d k + (foldSt d c0 k).1) 10000
        grind
      · simp only [valI_append, hl, valI, dsum, Int.pow_succ]; grind
theorem foldSt_digits (d : Nat → Int) (c0 : Int) (h : ∀ k, -10000 ≤ d k + (foldSt d c0 k).1) : ∀ k, ∀ x ∈ (foldSt d c0 k).2, 0 ≤ x ∧ x < 10000
  | 0 => by simp [foldSt]
  | k + 1 => by
    have ih := foldSt_digits d c0 h k
    have hk := h k
    intro x hx
    rw [foldSt] at hx
    split at hx
    · rcases List.mem_append.1 hx with hx | hx
      · exact ih x hx
      · simp at hx; omega
    · split at hx
      · rcases List.mem_append.1 hx with hx | hx
        · exact ih x hx
        · simp at hx; omega
      · rcases List.mem_append.1 hx with hx | hx
        · exact ih x hx
        · simp at hx; omega
def toNats (l : List Int) : List Nat := l.map Int.toNat
theorem ofB_toNats : ∀ l : List Int, (∀ x ∈ l, 0 ≤ x) → ((ofB 10000 (toNats l) : Nat) : Int) = valI l
  | [], _ => rfl
  | x :: l, h => by
    have ih := ofB_toNats l (fun y hy => h y (by simp [hy]))
    have hx := h x (by simp)
    simp only [toNats, List.map_cons, ofB, valI] at *
    omega
theorem toNats_cast (l : List Int) (h : ∀ x ∈ l, 0 ≤ x) : (toNats l).map (fun n : Nat => (n : Int)) = l := by
  simp only [toNats, List.map_map]
  conv => rhs; rw [← List.map_id l]
  apply List.map_congr_left
  intro x hx
  have := h x hx
  simp; omega
theorem toNats_lt (l : List Int) (h : ∀ x ∈ l, 0 ≤ x ∧ x < 10000) : ∀ x ∈ toNats l, x < 10000 := by
  intro x hx
  obtain ⟨y, hy, rfl⟩ := List.mem_map.1 hx
  have := h y hy
  omega
theorem dsum_getD (xs : List Nat) : ∀ k, dsum (fun i => ((xs.getD i 0 : Nat) : Int)) k = ((ofB 10000 (xs.take k) : Nat) : Int)
  | 0 => by simp [dsum, ofB]
  | k + 1 => by
    rw [dsum, dsum_getD xs k]
    by_cases hk : k < xs.length
    · have : xs.take (k + 1) = xs.take k ++ [xs.getD k 0] := by
        rw [List.take_succ_eq_append_getElem hk]; simp [hk]
      rw [this, ofB_append]
      have hl : (xs.take k).length = k := by simp; omega
      rw [hl]
      simp only [ofB, Nat.mul_zero, Nat.add_zero]
      rw [Int.natCast_add, Int.natCast_mul, Int.natCast_pow]
      rw [Int.mul_comm]; rfl
    · rw [List.take_of_length_le (by omega), List.take_of_length_le (by omega)]
      have : xs.getD k 0 = 0 := by simp [List.getD, List.getElem?_eq_none (Nat.le_of_not_lt hk)]
      rw [this]; simp
theorem dsum_add (d e : Nat → Int) : ∀ k, dsum (fun i => d i + e i) k = dsum d k + dsum e k
  | 0 => by simp [dsum]
  | k + 1 => by simp only [dsum, dsum_add d e k]; grind
theorem dsum_sub (d e : Nat → Int) : ∀ k, dsum (fun i => d i - e i) k = dsum d k - dsum e k
  | 0 => by simp [dsum]
  | k + 1 => by simp only [dsum, dsum_sub d e k]; grind
theorem dsum_mul (d : Nat → Int) (c : Int) : ∀ k, dsum (fun i => d i * c) k = dsum d k * c
  | 0 => by simp [dsum]
  | k + 1 => by simp only [dsum, dsum_mul d c k]; grind
theorem ofB_take_ge (xs : List Nat) {k : Nat} (h : xs.length ≤ k) : ofB 10000 (xs.take k) = ofB 10000 xs := by rw [List.take_of_length_le h]
theorem getD_lt {xs : List Nat} (h : ∀ x ∈ xs, x < 10000) (i : Nat) : xs.getD i 0 < 10000 := by
  by_cases hi : i < xs.length
  · simp [hi]; exact h _ (List.getElem_mem hi)
  · simp [List.getD, List.getElem?_eq_none (Nat.le_of_not_lt hi)]
def dplus (xs ys : List Nat) (i : Nat) : Int := ((xs.getD i 0 : Nat) : Int) + ((ys.getD i 0 : Nat) : Int)
theorem plus_carry {xs ys : List Nat} (hx : ∀ x ∈ xs, x < 10000) (hy : ∀ x ∈ ys, x < 10000) : ∀ k, 0 ≤ (foldSt (dplus xs ys) 0 k).1 ∧ (foldSt (dplus xs ys) 0 k).1 ≤ 1
  | 0 => by simp [foldSt]
  | k + 1 => by
    have ih := plus_carry hx hy k
    have h1 := getD_lt hx k
    have h2 := getD_lt hy k
    rw [foldSt]
    have hd : dplus xs ys k = ((xs.getD k 0 : Nat) : Int) + ((ys.getD k 0 : Nat) : Int) := rfl
    split
    · omega
    · split <;> simp only <;> omega
theorem plus_res {xs ys : List Nat} (hx : ∀ x ∈ xs, x < 10000) (hy : ∀ x ∈ ys, x < 10000) {n k : Nat} (hn : xs.length ≤ n ∧ ys.length ≤ n) (hk : n ≤ k) (hc : (foldSt (dplus xs ys) 0 k).1 = 0) :
    (∀ x ∈ (foldSt (dplus xs ys) 0 k).2, 0 ≤ x ∧ x < 10000) ∧ ofB 10000 (toNats (foldSt (dplus xs ys) 0 k).2) = ofB 10000 xs + ofB 10000 ys := by
  have hd : ∀ x ∈ (foldSt (dplus xs ys) 0 k).2, 0 ≤ x ∧ x < 10000 := foldSt_digits _ _ (fun j => by
    have := plus_carry hx hy j
    simp only [dplus]; omega) k
  refine ⟨hd, ?_⟩
  have h1 := foldSt_val (dplus xs ys) 0 k
  have h2 := ofB_toNats _ (fun x hx => (hd x hx).1)
  have h3 : dsum (dplus xs ys) k = ((ofB 10000 xs : Nat) : Int) + ((ofB 10000 ys : Nat) : Int) := by
    have := dsum_add (fun i => ((xs.getD i 0 : Nat) : Int)) (fun i => ((ys.getD i 0 : Nat) : Int)) k
    rw [dsum_getD, dsum_getD, ofB_take_ge xs (by omega), ofB_take_ge ys (by omega)] at this
    exact this
  rw [hc] at h1
  omega
def dminus (xs ys : List Nat) (i : Nat) : Int := ((xs.getD i 0 : Nat) : Int) - ((ys.getD i 0 : Nat) : Int)
theorem minus_carry {xs ys : List Nat} (hx : ∀ x ∈ xs, x < 10000) (hy : ∀ x ∈ ys, x < 10000) : ∀ k, -1 ≤ (foldSt (dminus xs ys) 0 k).1 ∧ (foldSt (dminus xs ys) 0 k).1 ≤ 0
  | 0 => by simp [foldSt]
  | k + 1 => by
    have ih := minus_carry hx hy k
    have h1 := getD_lt hx k
    have h2 := getD_lt hy k
    rw [foldSt]
    have hd : dminus xs ys k = ((xs.getD k 0 : Nat) : Int) - ((ys.getD k 0 : Nat) : Int) := rfl
    split
    · simp
    · split <;> simp only <;> omega
theorem valI_nonneg {l : List Int} (h : ∀ x ∈ l, 0 ≤ x ∧ x < 10000) : 0 ≤ valI l ∧ valI l < 10000 ^ l.length := by
  induction l with
  | nil => simp [valI]
  | cons x l ih =>
    have := ih (fun y hy => h y (by simp [hy]))
    have hx := h x (by simp)
    simp only [valI, List.length_cons, Int.pow_succ]
    constructor
    · omega
    · omega
theorem minus_res {xs ys : List Nat} (hx : ∀ x ∈ xs, x < 10000) (hy : ∀ x ∈ ys, x < 10000) {n : Nat} (hn : xs.length ≤ n ∧ ys.length ≤ n) (hle : ofB 10000 ys ≤ ofB 10000 xs) :
    (foldSt (dminus xs ys) 0 n).1 = 0 ∧ (∀ k, ∀ x ∈ (foldSt (dminus xs ys) 0 k).2, 0 ≤ x ∧ x < 10000) ∧ ∀ k, n ≤ k → (foldSt (dminus xs ys) 0 k).1 = 0 → ofB 10000 (toNats (foldSt (dminus xs ys) 0 k).2) = ofB 10000 xs - ofB 10000 ys := by
  have hd : ∀ k, ∀ x ∈ (foldSt (dminus xs ys) 0 k).2, 0 ≤ x ∧ x < 10000 := foldSt_digits _ _ (fun j => by
    have := minus_carry hx hy j
    have h1 := getD_lt hx j
    have h2 := getD_lt hy j
    simp only [dminus]; omega)
  have h3 : ∀ k, n ≤ k → dsum (dminus xs ys) k = ((ofB 10000 xs : Nat) : Int) - ((ofB 10000 ys : Nat) : Int) := fun k hk => by
    have := dsum_sub (fun i => ((xs.getD i 0 : Nat) : Int)) (fun i => ((ys.getD i 0 : Nat) : Int)) k
    rw [dsum_getD, dsum_getD, ofB_take_ge xs (by omega), ofB_take_ge ys (by omega)] at this
    exact this
  refine ⟨?_, hd, fun k hk hc => ?_⟩
  · have h1 := foldSt_val (dminus xs ys) 0 n
    have h4 := valI_nonneg (hd n)
    have h5 := minus_carry hx hy n
    rw [foldSt_len] at h4
    rw [h3 n (Nat.le_refl _)] at h1
    have hcases : (foldSt (dminus xs ys) 0 n).1 = -1 ∨ (foldSt (dminus xs ys) 0 n).1 = 0 := by omega
    rcases hcases with hc | hc
    · rw [hc] at h1; omega
    · exact hc
  · have h1 := foldSt_val (dminus xs ys) 0 k
    have h2 := ofB_toNats _ (fun x hx => (hd k x hx).1)
    rw [hc, h3 k hk] at h1
    omega
def dby (xs : List Nat) (m : Nat) (i : Nat) : Int := ((xs.getD i 0 : Nat) : Int) * (m : Int)
theorem dby_le {xs : List Nat} (hx : ∀ x ∈ xs, x < 10000) {m : Nat} (hm : m < 10000) (i : Nat) : 0 ≤ dby xs m i ∧ dby xs m i ≤ 99980001 := by
  have h1 := getD_lt hx i
  have h2 : xs.getD i 0 * m ≤ 9999 * 9999 := Nat.mul_le_mul (by omega) (by omega)
  unfold dby
  rw [← Int.natCast_mul]
  omega
theorem by_carry {xs : List Nat} (hx : ∀ x ∈ xs, x < 10000) {m : Nat} (hm : m < 10000) : ∀ k, 0 ≤ (foldSt (dby xs m) 0 k).1 ∧ (foldSt (dby xs m) 0 k).1 < 10000
  | 0 => by simp [foldSt]
  | k + 1 => by
    have ih := by_carry hx hm k
    have h1 := dby_le hx hm k
    rw [foldSt]
    split
    · omega
    · split <;> simp only <;> omega
theorem by_res {xs : List Nat} (hx : ∀ x ∈ xs, x < 10000) {m : Nat} (hm : m < 10000) {n k : Nat} (hn : xs.length ≤ n) (hk : n ≤ k) (hc : (foldSt (dby xs m) 0 k).1 = 0) :
    (∀ x ∈ (foldSt (dby xs m) 0 k).2, 0 ≤ x ∧ x < 10000) ∧ ofB 10000 (toNats (foldSt (dby xs m) 0 k).2) = ofB 10000 xs * m := by
  have hd : ∀ x ∈ (foldSt (dby xs m) 0 k).2, 0 ≤ x ∧ x < 10000 := foldSt_digits _ _ (fun j => by
    have := by_carry hx hm j
    have := dby_le hx hm j
    omega) k
  refine ⟨hd, ?_⟩
  have h1 := foldSt_val (dby xs m) 0 k
  have h2 := ofB_toNats _ (fun x hx => (hd x hx).1)
  have h3 : dsum (dby xs m) k = ((ofB 10000 xs : Nat) : Int) * (m : Int) := by
    have := dsum_mul (fun i => ((xs.getD i 0 : Nat) : Int)) (m : Int) k
    rw [dsum_getD, ofB_take_ge xs (by omega)] at this
    exact this
  rw [hc, h3] at h1
  rw [← Int.natCast_mul] at h1
  omega
set_option linter.all false
theorem lt_pow_len {B : Nat} (hB : 2 ≤ B) (a : Nat) : a < B ^ (toB B a).length := (length_toB_le_iff B hB a _).1 (Nat.le_refl _)
theorem len_add {B : Nat} (hB : 2 ≤ B) (a b k : Nat) (ha : (toB B a).length ≤ k) (hb : (toB B b).length ≤ k) : (toB B (a + b)).length ≤ k + 1 := by
  rw [length_toB_le_iff B hB] at *
  have : B ^ (k + 1) = B ^ k * B := Nat.pow_succ ..
  have h2 : B ^ k * 2 ≤ B ^ k * B := Nat.mul_le_mul_left _ hB
  omega
theorem len_mul1 {B : Nat} (hB : 2 ≤ B) (a m k : Nat) (ha : (toB B a).length ≤ k) (hm : m < B) : (toB B (a * m)).length ≤ k + 1 := by
  rw [length_toB_le_iff B hB] at *
  have h1 : B ^ (k + 1) = B ^ k * B := Nat.pow_succ ..
  by_cases h0 : a = 0
  · subst h0
    have := Nat.pow_pos (n := k + 1) (show 0 < B by omega)
    omega
  · have : a * m < a * B := (Nat.mul_lt_mul_left (by omega)).2 hm
    have h2 : a * B ≤ B ^ k * B := Nat.mul_le_mul_right B (by omega)
    omega
theorem len_mono {B : Nat} (hB : 2 ≤ B) {a b : Nat} (h : a ≤ b) : (toB B a).length ≤ (toB B b).length := by
  rw [length_toB_le_iff B hB]
  exact Nat.lt_of_le_of_lt h (lt_pow_len hB b)
theorem toB_shift {B : Nat} (hB : 2 ≤ B) (a : Nat) (h : 0 < a) : toB B (a * B) = 0 :: toB B a := by
  rw [toB_pos B _ hB (Nat.mul_pos h (by omega)), Nat.mul_mod_left, Nat.mul_div_cancel _ (by omega)]
theorem toB_nil {B : Nat} (hB : 2 ≤ B) {a : Nat} (h : (toB B a).length = 0) : a = 0 := by
  rcases Nat.eq_zero_or_pos a with h0 | h0
  · exact h0
  · rw [toB_pos B a hB h0] at h; simp at h
theorem toB_ne {B : Nat} (hB : 2 ≤ B) {a : Nat} (h : 0 < (toB B a).length) : 0 < a := by
  rcases Nat.eq_zero_or_pos a with h0 | h0
  · subst h0; simp [toB_zero] at h
  · exact h0
def tfold (a : Nat) (ys : List Nat) (pre : List Nat) : Nat := pre.foldl (fun s i => s * 10000 + a * ys.getD i 0) 0
theorem tfold_snoc (a : Nat) (ys pre : List Nat) (x : Nat) : tfold a ys (pre ++ [x]) = tfold a ys pre * 10000 + a * ys.getD x 0 := by simp [tfold]
theorem tfold_gen (a : Nat) (ys : List Nat) : ∀ k s, k ≤ ys.length → (List.range k).reverse.foldl (fun s i => s * 10000 + a * ys.getD i 0) s = s * 10000 ^ k + a * ofB 10000 (ys.take k)
  | 0, s, _ => by simp [ofB]
  | k + 1, s, h => by
    rw [List.range_succ, List.reverse_append]
    simp only [List.reverse_cons, List.reverse_nil, List.nil_append, List.cons_append, List.foldl_cons]
    rw [tfold_gen a ys k _ (by omega), List.take_succ_eq_append_getElem (by omega), ofB_append]
    have hl : (ys.take k).length = k := by simp; omega
    have hg : ys.getD k 0 = ys[k] := by simp [show k < ys.length by omega]
    rw [hl, hg]
    simp only [ofB, Nat.mul_zero, Nat.add_zero, Nat.pow_succ]
    grind
theorem tfold_all (a : Nat) (ys : List Nat) {n : Nat} (h : ys.length = n) : tfold a ys (List.range n).reverse = a * ofB 10000 ys := by
  unfold tfold
  rw [tfold_gen a ys n 0 (by omega), List.take_of_length_le (by omega)]
  simp
set_option linter.all false
def cmpI (x y : Int) : Int := if x < y then -1 else if x = y then 0 else 1
theorem cmpI_lt {x y : Int} (h : x < y) : cmpI x y = -1 := by simp [cmpI, h]
theorem cmpI_gt {x y : Int} (h : y < x) : cmpI x y = 1 := by
  unfold cmpI; rw [if_neg (by omega), if_neg (by omega)]
theorem cmpI_eq {x y : Int} (h : x = y) : cmpI x y = 0 := by
  unfold cmpI; rw [if_neg (by omega), if_pos h]
theorem cmpI_congr {x y u v : Int} (h1 : x < y ↔ u < v) (h2 : x = y ↔ u = v) : cmpI x y = cmpI u v := by
  unfold cmpI; simp only [h1, h2]
theorem cmp_len {a b : Nat} (h : (toB 10000 a).length ≠ (toB 10000 b).length) : cmpI (((toB 10000 a).length : Nat) : Int) (((toB 10000 b).length : Nat) : Int) = cmpI (a : Int) (b : Int) := by
  have h1 := @len_mono 10000 (by omega) a b
  have h2 := @len_mono 10000 (by omega) b a
  refine cmpI_congr ⟨fun k => ?_, fun k => ?_⟩ ⟨fun k => ?_, fun k => ?_⟩
  · omega
  · omega
  · omega
  · have : a = b := by omega
    subst this; rfl
theorem rev_range_get {n j : Nat} (h : j < n) : (List.range n).reverse[j]? = some (n - 1 - j) := by
  rw [List.getElem?_reverse (by simpa using h), List.length_range, List.getElem?_range (by omega)]
theorem pre_at {p : List Nat} {x n : Nat} (h : p ++ [x] <+: (List.range n).reverse) : x < n ∧ x = n - 1 - p.length ∧ p.length < n ∧ ∀ i, x < i → i < n → i ∈ p := by
  have hl : p.length < n := by have := h.length_le; simp at this; omega
  have hx : (List.range n).reverse[p.length]? = some x := by
    obtain ⟨t, ht⟩ := h
    rw [← ht]; simp
  rw [rev_range_get hl] at hx
  have hx : n - 1 - p.length = x := by simpa using hx
  refine ⟨by omega, by omega, hl, fun i h1 h2 => ?_⟩
  have hj : n - 1 - i < p.length := by omega
  have : (List.range n).reverse[n - 1 - i]? = p[n - 1 - i]? := by
    obtain ⟨t, ht⟩ := h
    rw [← ht, List.append_assoc, List.getElem?_append_left hj]
  rw [rev_range_get (by omega)] at this
  have h3 : n - 1 - (n - 1 - i) = i := by omega
  rw [h3] at this
  exact List.mem_of_getElem? this.symm
theorem ofB_split (xs : List Nat) {x : Nat} (h : x < xs.length) : ofB 10000 xs = ofB 10000 (xs.take x) + 10000 ^ x * (xs.getD x 0 + 10000 * ofB 10000 (xs.drop (x + 1))) := by
  have h1 : xs = xs.take x ++ (xs.getD x 0 :: xs.drop (x + 1)) := by
    have : xs.getD x 0 = xs[x] := by simp [h]
    rw [this, List.getElem_cons_drop, List.take_append_drop]
  conv => lhs; rw [h1]
  rw [ofB_append]
  have hl : (xs.take x).length = x := by simp; omega
  rw [hl]; rfl
theorem cmp_at {xs ys p : List Nat} {x n : Nat} (hx : ∀ d ∈ xs, d < 10000) (hy : ∀ d ∈ ys, d < 10000) (hn : xs.length = n) (hm : ys.length = n) (hp : p ++ [x] <+: (List.range n).reverse) (he : ∀ i ∈ p, xs.getD i 0 = ys.getD i 0) (hne : xs.getD x 0 ≠ ys.getD x 0) :
    cmpI ((xs.getD x 0 : Nat) : Int) ((ys.getD x 0 : Nat) : Int) = cmpI ((ofB 10000 xs : Nat) : Int) ((ofB 10000 ys : Nat) : Int) := by
  obtain ⟨h1, -, -, h2⟩ := pre_at hp
  have hd : xs.drop (x + 1) = ys.drop (x + 1) := by
    apply List.ext_getElem
    · simp [hn, hm]
    · intro i h3 h4
      have h3' : x + 1 + i < xs.length := by simp at h3; omega
      have h4' : x + 1 + i < ys.length := by omega
      have := he _ (h2 (x + 1 + i) (by omega) (by omega))
      simpa [h3', h4'] using this
  rw [ofB_split xs (x := x) (by omega), ofB_split ys (x := x) (by omega), hd]
  have ht1 := ofB_lt 10000 (xs.take x) (fun d hd => hx d (List.mem_of_mem_take hd))
  have ht2 := ofB_lt 10000 (ys.take x) (fun d hd => hy d (List.mem_of_mem_take hd))
  have hl1 : (xs.take x).length = x := by simp; omega
  have hl2 : (ys.take x).length = x := by simp; omega
  rw [hl1] at ht1; rw [hl2] at ht2
  generalize ofB 10000 (xs.take x) = s at *
  generalize ofB 10000 (ys.take x) = t at *
  generalize ofB 10000 (ys.drop (x + 1)) = u at *
  generalize xs.getD x 0 = a at *
  generalize ys.getD x 0 = b at *
  generalize 10000 ^ x = B at *
  have key : ∀ s t a b : Nat, s < B → t < B → a < b → s + B * (a + 10000 * u) < t + B * (b + 10000 * u) := by
    intro s t a b hs ht hab
    have : B * (a + 10000 * u) + B ≤ B * (b + 10000 * u) := by
      rw [← Nat.mul_succ]; exact Nat.mul_le_mul_left _ (by omega)
    omega
  rcases Nat.lt_or_gt_of_ne hne with h | h
  · rw [cmpI_lt (by omega), cmpI_lt (by have := key s t a b ht1 ht2 h; omega)]
  · rw [cmpI_gt (by omega), cmpI_gt (by have := key t s b a ht2 ht1 h; omega)]
theorem cmp_all {a b n : Nat} (hn : (toB 10000 a).length = n) (hm : (toB 10000 b).length = n) (he : ∀ i ∈ (List.range n).reverse, (toB 10000 a).getD i 0 = (toB 10000 b).getD i 0) : a = b := by
  have : toB 10000 a = toB 10000 b := by
    apply List.ext_getElem
    · omega
    · intro i h1 h2
      have := he i (by simp; omega)
      simpa [h1, h2] using this
  have h3 := congrArg (ofB 10000) this
  rwa [ofB_toB 10000 (by omega), ofB_toB 10000 (by omega)] at h3
set_option linter.all false
def ostep (m : Nat) (xs : List Nat) (s : List Nat × Nat) (i : Nat) : List Nat × Nat := (s.1.set i ((s.2 * 10000 + xs.getD i 0) / m), (s.2 * 10000 + xs.getD i 0) % m)
def ofold (m : Nat) (xs : List Nat) (n : Nat) (pre : List Nat) : List Nat × Nat := pre.foldl (ostep m xs) (List.replicate n 0, 0)
theorem ofold_snoc (m : Nat) (xs : List Nat) (n : Nat) (pre : List Nat) (i : Nat) : ofold m xs n (pre ++ [i]) = ostep m xs (ofold m xs n pre) i := by simp [ofold]
theorem ofold_len (m : Nat) (xs : List Nat) (n : Nat) (pre : List Nat) : (ofold m xs n pre).1.length = n := by
  unfold ofold
  have : ∀ (pre : List Nat) (s : List Nat × Nat), (pre.foldl (ostep m xs) s).1.length = s.1.length := by
    intro pre
    induction pre with
    | nil => intro s; rfl
    | cons i pre ih => intro s; rw [List.foldl_cons, ih]; simp [ostep]
  rw [this]; simp
theorem ofold_lt (m : Nat) (xs : List Nat) (n : Nat) (hm : 0 < m) : ∀ pre : List Nat, (ofold m xs n pre).2 < m := by
  intro pre
  unfold ofold
  have : ∀ (pre : List Nat) (s : List Nat × Nat), s.2 < m → (pre.foldl (ostep m xs) s).2 < m := by
    intro pre
    induction pre with
    | nil => intro s h; exact h
    | cons i pre ih => intro s _; rw [List.foldl_cons]; exact ih _ (Nat.mod_lt _ hm)
  exact this pre _ hm
theorem quot_lt {m r d : Nat} (hr : r < m) (hd : d < 10000) : (r * 10000 + d) / m < 10000 := by
  rw [Nat.div_lt_iff_lt_mul (by omega)]
  have : (r + 1) * 10000 ≤ m * 10000 := Nat.mul_le_mul_right _ hr
  omega
theorem over_gen (m : Nat) (xs : List Nat) (hm : 0 < m) (hx : ∀ x ∈ xs, x < 10000) : ∀ (k : Nat) (q : List Nat) (r : Nat), k ≤ xs.length → q.length = xs.length → r < m →
    let s := (List.range k).reverse.foldl (ostep m xs) (q, r)
    s.1.length = q.length ∧ s.1.drop k = q.drop k ∧ m * ofB 10000 (s.1.take k) + s.2 = r * 10000 ^ k + ofB 10000 (xs.take k) ∧ s.2 < m ∧ ∀ d ∈ s.1.take k, d < 10000
  | 0, q, r, _, _, hr => by simp [ofB, hr]
  | k + 1, q, r, hk, hq, hr => by
    simp only
    rw [List.range_succ, List.reverse_append]
    simp only [List.reverse_cons, List.reverse_nil, List.nil_append, List.cons_append, List.foldl_cons]
    have hd := getD_lt hx k
    have h1 := quot_lt hr hd
    obtain ⟨i1, i2, i3, i4, i5⟩ := over_gen m xs hm hx k (ostep m xs (q, r) k).1 (ostep m xs (q, r) k).2 (by omega) (by simp [ostep, hq]) (Nat.mod_lt _ hm)
    generalize hs : List.foldl (ostep m xs) (ostep m xs (q, r) k) (List.range k).reverse = s at *
    have hl : (ostep m xs (q, r) k).1.length = q.length := by simp [ostep]
    have hsk : k < s.1.length := by omega
    have hqk : s.1[k] = (r * 10000 + xs.getD k 0) / m := by
      have h3 : s.1.drop k = s.1[k] :: s.1.drop (k + 1) := by rw [List.getElem_cons_drop]
      have h4 : (ostep m xs (q, r) k).1.drop k = (ostep m xs (q, r) k).1[k]'(by omega) :: (ostep m xs (q, r) k).1.drop (k + 1) := by rw [List.getElem_cons_drop]
      rw [h3, h4] at i2
      have := (List.cons.inj i2).1
      rw [this]; simp [ostep]
    have htk : s.1.take (k + 1) = s.1.take k ++ [s.1[k]] := List.take_succ_eq_append_getElem hsk
    have hxk : xs.take (k + 1) = xs.take k ++ [xs.getD k 0] := by
      rw [List.take_succ_eq_append_getElem (by omega)]; simp [show k < xs.length by omega]
    refine ⟨by omega, ?_, ?_, i4, ?_⟩
    · have h3 : s.1.drop (k + 1) = (s.1.drop k).drop 1 := by rw [List.drop_drop]
      rw [h3, i2, List.drop_drop]
      exact List.drop_set_of_lt (by omega)
    · rw [htk, hxk, ofB_append, ofB_append, hqk]
      have hl1 : (s.1.take k).length = k := by simp; omega
      have hl2 : (xs.take k).length = k := by simp; omega
      rw [hl1, hl2]
      simp only [ofB, Nat.mul_zero, Nat.add_zero, Nat.pow_succ]
      have hdm := Nat.div_add_mod (r * 10000 + xs.getD k 0) m
      have hi3 : m * ofB 10000 (s.1.take k) + s.2 = (r * 10000 + xs.getD k 0) % m * 10000 ^ k + ofB 10000 (xs.take k) := i3
      generalize (r * 10000 + xs.getD k 0) / m = u at *
      generalize (r * 10000 + xs.getD k 0) % m = v at *
      generalize xs.getD k 0 = y at *
      grind
    · rw [htk]
      intro d hd2
      rcases List.mem_append.1 hd2 with h | h
      · exact i5 d h
      · rw [List.mem_singleton.1 h, hqk]; exact h1
theorem over_all {m a n : Nat} (hm : 0 < m) (hn : (toB 10000 a).length = n) :
    (∀ d ∈ (ofold m (toB 10000 a) n (List.range n).reverse).1, d < 10000) ∧ ofB 10000 (ofold m (toB 10000 a) n (List.range n).reverse).1 = a / m ∧ (ofold m (toB 10000 a) n (List.range n).reverse).2 = a % m := by
  obtain ⟨h1, -, h3, h4, h5⟩ := over_gen m (toB 10000 a) hm (toB_lt 10000 (by omega) a) n (List.replicate n 0) 0 (by omega) (by simp [hn]) hm
  change ((ofold m (toB 10000 a) n (List.range n).reverse).1.length = _) at h1
  change (m * ofB 10000 ((ofold m (toB 10000 a) n (List.range n).reverse).1.take n) + (ofold m (toB 10000 a) n (List.range n).reverse).2 = _) at h3
  change ((ofold m (toB 10000 a) n (List.range n).reverse).2 < m) at h4
  change (∀ d ∈ (ofold m (toB 10000 a) n (List.range n).reverse).1.take n, d < 10000) at h5
  rw [List.length_replicate] at h1
  rw [List.take_of_length_le (by omega)] at h3 h5
  rw [List.take_of_length_le (by omega), ofB_toB 10000 (by omega), Nat.zero_mul, Nat.zero_add] at h3
  generalize (ofold m (toB 10000 a) n (List.range n).reverse) = z at *
  refine ⟨h5, ?_, ?_⟩
  · rw [← h3, Nat.mul_add_div hm, Nat.div_eq_of_lt h4]; omega
  · rw [← h3, Nat.mul_add_mod, Nat.mod_eq_of_lt h4]
set_option linter.all false
theorem getD_ge0 {xs : List Nat} {i : Nat} (h : xs.length ≤ i) : xs.getD i 0 = 0 := by simp [List.getD, List.getElem?_eq_none h]
theorem ofB_take_succ (B : Nat) (xs : List Nat) (k : Nat) : ofB B (xs.take (k + 1)) = ofB B (xs.take k) + B ^ k * xs.getD k 0 := by
  rcases Nat.lt_or_ge k xs.length with h | h
  · rw [List.take_succ_eq_append_getElem h, ofB_append, List.length_take, Nat.min_eq_left (by omega)]
    simp [ofB, List.getD, h]
  · rw [List.take_of_length_le (by omega), List.take_of_length_le h, getD_ge0 h]; simp
def pst (X Y : List Nat) : Nat → Nat × List Nat
  | 0 => (0, [])
  | k + 1 => (((pst X Y k).1 + X.getD k 0 + Y.getD k 0) / 10, (pst X Y k).2 ++ [((pst X Y k).1 + X.getD k 0 + Y.getD k 0) % 10])
theorem pst_len (X Y : List Nat) : ∀ k, (pst X Y k).2.length = k
  | 0 => rfl
  | k + 1 => by simp [pst, pst_len X Y k]
theorem pst_lt (X Y : List Nat) : ∀ k, ∀ d ∈ (pst X Y k).2, d < 10
  | 0 => by simp [pst]
  | k + 1 => by
    intro d hd
    rcases List.mem_append.1 hd with h | h
    · exact pst_lt X Y k d h
    · rw [List.mem_singleton.1 h]; exact Nat.mod_lt _ (by omega)
theorem pst_carry {X Y : List Nat} (hX : ∀ i, X.getD i 0 < 10) (hY : ∀ i, Y.getD i 0 < 10) : ∀ k, (pst X Y k).1 ≤ 1
  | 0 => by simp [pst]
  | k + 1 => by have := pst_carry hX hY k; have := hX k; have := hY k; simp only [pst]; omega
theorem pst_val (X Y : List Nat) : ∀ k, ofB 10 (pst X Y k).2 + 10 ^ k * (pst X Y k).1 = ofB 10 (X.take k) + ofB 10 (Y.take k)
  | 0 => by simp [pst, ofB]
  | k + 1 => by
    have ih := pst_val X Y k
    simp only [pst]
    rw [ofB_append, pst_len, ofB_take_succ, ofB_take_succ, Nat.pow_succ]
    have hdm := Nat.div_add_mod ((pst X Y k).1 + X.getD k 0 + Y.getD k 0) 10
    simp only [ofB]
    generalize ((pst X Y k).1 + X.getD k 0 + Y.getD k 0) / 10 = u at *
    generalize ((pst X Y k).1 + X.getD k 0 + Y.getD k 0) % 10 = v at *
    generalize X.getD k 0 = x at *
    generalize Y.getD k 0 = y at *
    generalize (pst X Y k).1 = c at *
    grind
theorem pst_end {X Y : List Nat} {k : Nat} (hX : X.length ≤ k) (hY : Y.length ≤ k) (h : (pst X Y k).1 ≤ 1) : (pst X Y (k + 1)).1 = 0 := by
  simp only [pst, getD_ge0 hX, getD_ge0 hY]; omega
theorem pow_le_toB {a k : Nat} (h : k < (toB 10 a).length) : 10 ^ k ≤ a := by
  rcases Nat.lt_or_ge a (10 ^ k) with h1 | h1
  · have := (length_toB_le_iff 10 (by omega) a k).2 h1; omega
  · exact h1
theorem pst_res {a b n1 n2 k : Nat} (h1 : (toB 10 a).length = n1) (h2 : (toB 10 b).length = n2) (hk1 : n1 ≤ k) (hk2 : n2 ≤ k) (hc : (pst (toB 10 a) (toB 10 b) k).1 = 0)
    (hm : k ≤ max n1 n2 ∨ k = max n1 n2 + 1 ∧ 0 < (pst (toB 10 a) (toB 10 b) (max n1 n2)).1) : (pst (toB 10 a) (toB 10 b) k).2 = toB 10 (a + b) := by
  have hv := pst_val (toB 10 a) (toB 10 b) k
  rw [hc, Nat.mul_zero, Nat.add_zero, List.take_of_length_le (by omega), List.take_of_length_le (by omega), ofB_toB 10 (by omega), ofB_toB 10 (by omega)] at hv
  have hlen := pst_len (toB 10 a) (toB 10 b) k
  have hlt := pst_lt (toB 10 a) (toB 10 b) k
  have hlow : 0 < k → 10 ^ (k - 1) ≤ a + b := by
    intro h0
    rcases hm with hm | ⟨hm, hp⟩
    · have : n1 = k ∨ n2 = k := by omega
      rcases this with h | h
      · have := pow_le_toB (a := a) (k := k - 1) (by omega); omega
      · have := pow_le_toB (a := b) (k := k - 1) (by omega); omega
    · have hv2 := pst_val (toB 10 a) (toB 10 b) (max n1 n2)
      rw [List.take_of_length_le (by omega), List.take_of_length_le (by omega), ofB_toB 10 (by omega), ofB_toB 10 (by omega)] at hv2
      have : 10 ^ max n1 n2 * 1 ≤ 10 ^ max n1 n2 * (pst (toB 10 a) (toB 10 b) (max n1 n2)).1 := Nat.mul_le_mul_left _ hp
      rw [hm, Nat.add_sub_cancel]
      omega
  generalize (pst (toB 10 a) (toB 10 b) k).2 = l at *
  rw [← hv]
  refine canon_eq (by omega) ⟨hlt, ?_⟩
  intro hz
  have h0 : 0 < k := by
    rcases Nat.eq_zero_or_pos k with h | h
    · subst h; rw [List.length_eq_zero_iff.1 hlen] at hz; simp at hz
    · exact h
  obtain ⟨l', rfl⟩ : ∃ l', l = l' ++ [0] := by
    have hne : l ≠ [] := by intro e; subst e; simp at hz
    refine ⟨l.dropLast, ?_⟩
    have h9 := List.dropLast_concat_getLast hne
    rw [List.getLast?_eq_some_getLast hne] at hz
    rw [Option.some.inj hz] at h9
    exact h9.symm
  have h3 := ofB_lt 10 l' (fun d hd => hlt d (List.mem_append_left _ hd))
  rw [ofB_append] at hv
  simp only [ofB, Nat.mul_zero, Nat.add_zero] at hv
  simp at hlen
  have := hlow h0
  rw [show k - 1 = l'.length by omega] at this
  omega
def mst (X Y : List Nat) : Nat → Nat × List Nat
  | 0 => (0, [])
  | k + 1 => if X.getD k 0 < (mst X Y k).1 + Y.getD k 0 then (1, (mst X Y k).2 ++ [X.getD k 0 + 10 - (mst X Y k).1 - Y.getD k 0]) else (0, (mst X Y k).2 ++ [X.getD k 0 - (mst X Y k).1 - Y.getD k 0])
theorem mst_len (X Y : List Nat) : ∀ k, (mst X Y k).2.length = k
  | 0 => rfl
  | k + 1 => by simp only [mst]; split <;> simp [mst_len X Y k]
theorem mst_borrow (X Y : List Nat) : ∀ k, (mst X Y k).1 ≤ 1
  | 0 => by simp [mst]
  | k + 1 => by simp only [mst]; split <;> simp
theorem mst_lt {X Y : List Nat} (hX : ∀ i, X.getD i 0 < 10) (hY : ∀ i, Y.getD i 0 < 10) : ∀ k, ∀ d ∈ (mst X Y k).2, d < 10
  | 0 => by simp [mst]
  | k + 1 => by
    have hb := mst_borrow X Y k
    have hx := hX k
    have hy := hY k
    intro d hd
    simp only [mst] at hd
    split at hd
    all_goals
      rcases List.mem_append.1 hd with h | h
      · exact mst_lt hX hY k d h
      · rw [List.mem_singleton.1 h]; omega
theorem mst_val {X Y : List Nat} (hY : ∀ i, Y.getD i 0 < 10) : ∀ k, ofB 10 (mst X Y k).2 + ofB 10 (Y.take k) = ofB 10 (X.take k) + 10 ^ k * (mst X Y k).1
  | 0 => by simp [mst, ofB]
  | k + 1 => by
    have ih := mst_val (X := X) hY k
    have hb := mst_borrow X Y k
    have hy := hY k
    rw [ofB_take_succ, ofB_take_succ, Nat.pow_succ]
    simp only [mst]
    split
    · next h =>
      rw [ofB_append, mst_len]
      simp only [ofB]
      obtain ⟨t, ht⟩ : ∃ t, X.getD k 0 + 10 - (mst X Y k).1 - Y.getD k 0 = t := ⟨_, rfl⟩
      have hs : t + (mst X Y k).1 + Y.getD k 0 = X.getD k 0 + 10 := by omega
      rw [ht]
      generalize X.getD k 0 = x at *
      generalize Y.getD k 0 = y at *
      generalize (mst X Y k).1 = c at *
      grind
    · next h =>
      rw [ofB_append, mst_len]
      simp only [ofB]
      obtain ⟨t, ht⟩ : ∃ t, X.getD k 0 - (mst X Y k).1 - Y.getD k 0 = t := ⟨_, rfl⟩
      have hs : t + (mst X Y k).1 + Y.getD k 0 = X.getD k 0 := by omega
      rw [ht]
      generalize X.getD k 0 = x at *
      generalize Y.getD k 0 = y at *
      generalize (mst X Y k).1 = c at *
      grind
theorem mst_res {a b n1 n2 : Nat} (h1 : (toB 10 a).length = n1) (h2 : (toB 10 b).length = n2) (hle : b ≤ a) : ofB 10 (mst (toB 10 a) (toB 10 b) n1).2 = a - b := by
  have hgt : ∀ (c i : Nat), (toB 10 c).getD i 0 < 10 := by
    intro c i
    rcases Nat.lt_or_ge i (toB 10 c).length with hi | hi
    · have h9 : (toB 10 c)[i]? = some (toB 10 c)[i] := List.getElem?_eq_getElem hi
      rw [List.getD, h9]; exact toB_lt 10 (by omega) c _ (List.getElem_mem hi)
    · rw [getD_ge0 hi]; omega
  have hv := mst_val (X := toB 10 a) (hgt b) n1
  have hln : n2 ≤ n1 := by rw [← h1, ← h2]; exact len_mono (by omega) hle
  rw [List.take_of_length_le (by omega), List.take_of_length_le (by omega), ofB_toB 10 (by omega), ofB_toB 10 (by omega)] at hv
  have hlt := ofB_lt 10 _ (mst_lt (hgt a) (hgt b) n1)
  rw [mst_len] at hlt
  have hb := mst_borrow (toB 10 a) (toB 10 b) n1
  generalize (mst (toB 10 a) (toB 10 b) n1).1 = c at *
  rcases Nat.eq_zero_or_pos c with hc | hc
  · subst hc; omega
  · obtain rfl : c = 1 := by omega
    omega
theorem ofB_set (B : Nat) : ∀ (l : List Nat) (j v : Nat), j < l.length → ofB B (l.set j v) + B ^ j * l.getD j 0 = ofB B l + B ^ j * v
  | x :: l, 0, v, _ => by simp [ofB]; omega
  | x :: l, j + 1, v, h => by
    have ih := ofB_set B l j v (by simpa using h)
    simp only [List.set_cons_succ, ofB, List.getD_cons_succ, Nat.pow_succ]
    generalize l.getD j 0 = y at *
    generalize ofB B (l.set j v) = p at *
    generalize ofB B l = q at *
    generalize B ^ j = t at *
    grind
structure Tin (X Y : List Nat) (i n : Nat) (k c : Nat) (l : List Nat) : Prop where
  len : l.length = n
  lt : ∀ d ∈ l, d < 10
  c9 : c ≤ 9
  val : ofB 10 l + 10 ^ (i + k) * c = (ofB 10 (X.take i) * ofB 10 Y) + 10 ^ i * (X.getD i 0 * ofB 10 (Y.take k))
theorem set_lt {l : List Nat} {j v : Nat} (h : ∀ d ∈ l, d < 10) (hv : v < 10) : ∀ d ∈ l.set j v, d < 10 := by
  intro d hd
  rcases List.mem_or_eq_of_mem_set hd with h1 | h1
  · exact h d h1
  · rw [h1]; exact hv
theorem getD_lt10' {xs : List Nat} (h : ∀ x ∈ xs, x < 10) (i : Nat) : xs.getD i 0 < 10 := by
  rcases Nat.lt_or_ge i xs.length with hi | hi
  · have h9 : xs[i]? = some xs[i] := List.getElem?_eq_getElem hi
    rw [List.getD, h9]; exact h _ (List.getElem_mem hi)
  · rw [getD_ge0 hi]; omega
theorem Tin.step {X Y l : List Nat} {i n k c : Nat} (hX : ∀ x ∈ X, x < 10) (hY : ∀ x ∈ Y, x < 10) (h : Tin X Y i n k c l) (hj : i + k < n) :
    Tin X Y i n (k + 1) ((l.getD (i + k) 0 + c + X.getD i 0 * Y.getD k 0) / 10) (l.set (i + k) ((l.getD (i + k) 0 + c + X.getD i 0 * Y.getD k 0) % 10)) := by
  have h1 := getD_lt10' h.lt (i + k)
  have h2 := getD_lt10' hX i
  have h3 := getD_lt10' hY k
  have h4 : X.getD i 0 * Y.getD k 0 ≤ 9 * 9 := Nat.mul_le_mul (by omega) (by omega)
  have hc := h.c9
  refine ⟨by rw [List.length_set]; exact h.len, set_lt h.lt (Nat.mod_lt _ (by omega)), by omega, ?_⟩
  have hs := ofB_set 10 l (i + k) ((l.getD (i + k) 0 + c + X.getD i 0 * Y.getD k 0) % 10) (by rw [h.len]; exact hj)
  have hv := h.val
  have hdm := Nat.div_add_mod (l.getD (i + k) 0 + c + X.getD i 0 * Y.getD k 0) 10
  rw [ofB_take_succ, show i + (k + 1) = (i + k) + 1 by omega, Nat.pow_succ]
  have hp : (10 : Nat) ^ (i + k) = 10 ^ i * 10 ^ k := Nat.pow_add ..
  generalize (l.getD (i + k) 0 + c + X.getD i 0 * Y.getD k 0) / 10 = u at *
  generalize (l.getD (i + k) 0 + c + X.getD i 0 * Y.getD k 0) % 10 = v at *
  generalize ofB 10 (l.set (i + k) v) = p at *
  generalize l.getD (i + k) 0 = z at *
  generalize X.getD i 0 = x at *
  generalize Y.getD k 0 = y at *
  generalize ofB 10 (Y.take k) = yk at *
  generalize ofB 10 (X.take i) * ofB 10 Y = W at *
  generalize (10 : Nat) ^ (i + k) = t at *
  generalize (10 : Nat) ^ i = ti at *
  generalize (10 : Nat) ^ k = tk at *
  grind
theorem Tin.room {X Y l : List Nat} {i n1 n2 k c : Nat} (hX : ∀ x ∈ X, x < 10) (hY : ∀ x ∈ Y, x < 10) (hn1 : X.length = n1) (hn2 : Y.length = n2) (hi : i < n1) (h : Tin X Y i (n1 + n2) k c l) (hk : k < n2 ∨ 0 < c) : i + k < n1 + n2 := by
  rcases Nat.lt_or_ge k n2 with h1 | h1
  · omega
  · have hc : 0 < c := by omega
    have hv := h.val
    rw [List.take_of_length_le (l := Y) (by omega)] at hv
    have e1 := ofB_take_succ 10 X i
    have e2 : ofB 10 (X.take (i + 1)) < 10 ^ (i + 1) := by
      have := ofB_lt 10 (X.take (i + 1)) (fun d hd => hX d (List.mem_of_mem_take hd))
      rwa [List.length_take, Nat.min_eq_left (by omega)] at this
    have e3 : ofB 10 Y < 10 ^ n2 := by have := ofB_lt 10 Y hY; rwa [hn2] at this
    have e4 : ofB 10 (X.take (i + 1)) * ofB 10 Y < 10 ^ (i + 1) * 10 ^ n2 := by
      rcases Nat.eq_zero_or_pos (ofB 10 Y) with h0 | h0
      · rw [h0, Nat.mul_zero]; exact Nat.mul_pos (Nat.pow_pos (by omega)) (Nat.pow_pos (by omega))
      · exact Nat.mul_lt_mul_of_lt_of_le e2 (Nat.le_of_lt e3) (Nat.pow_pos (by omega))
    have e5 : ofB 10 l + 10 ^ (i + k) * c = ofB 10 (X.take (i + 1)) * ofB 10 Y := by
      rw [hv, e1]
      generalize ofB 10 (X.take i) = p
      generalize ofB 10 Y = q
      generalize X.getD i 0 = x
      generalize (10 : Nat) ^ i = t
      grind
    rw [← Nat.pow_add] at e4
    have e6 : 10 ^ (i + k) * 1 ≤ 10 ^ (i + k) * c := Nat.mul_le_mul_left _ hc
    have e7 : 10 ^ (i + k) < 10 ^ (i + 1 + n2) := by omega
    have := (Nat.pow_lt_pow_iff_right (a := 10) (by omega)).1 e7
    omega
theorem Tin.done {X Y l : List Nat} {i n n2 k : Nat} (hn2 : Y.length = n2) (h : Tin X Y i n k 0 l) (hk : n2 ≤ k) : Tin X Y (i + 1) n 0 0 l := by
  refine ⟨h.len, h.lt, by omega, ?_⟩
  have hv := h.val
  rw [List.take_of_length_le (l := Y) (by omega)] at hv
  rw [ofB_take_succ]
  simp only [Nat.mul_zero, Nat.add_zero, List.take_zero, ofB] at hv ⊢
  rw [hv]
  generalize ofB 10 (X.take i) = p
  generalize ofB 10 Y = q
  generalize X.getD i 0 = x
  generalize (10 : Nat) ^ i = t
  grind
theorem Tin.start (X Y : List Nat) (n : Nat) : Tin X Y 0 n 0 0 (List.replicate n 0) := by
  refine ⟨by simp, fun d hd => by rw [(List.mem_replicate.1 hd).2]; omega, by omega, ?_⟩
  have : ∀ m, ofB 10 (List.replicate m 0) = 0 := by
    intro m; induction m with
    | zero => rfl
    | succ m ih => simp [List.replicate_succ, ofB, ih]
  simp [this, ofB]
theorem Tin.fin {X Y l : List Nat} {n n1 : Nat} (hn1 : X.length = n1) (h : Tin X Y n1 n 0 0 l) : ofB 10 l = ofB 10 X * ofB 10 Y := by
  have hv := h.val
  rw [List.take_of_length_le (l := X) (by omega)] at hv
  simp only [Nat.mul_zero, Nat.add_zero, List.take_zero, ofB] at hv
  exact hv
theorem Tin.rem {X Y l : List Nat} {i n n2 k c : Nat} (hn2 : Y.length = n2) (hX : ∀ x ∈ X, x < 10) (hY : ∀ x ∈ Y, x < 10) (h : Tin X Y i n k c l) (hk : n2 ≤ k) : (l.getD (i + k) 0 + c + X.getD i 0 * Y.getD k 0) = l.getD (i + k) 0 + c := by
  rw [getD_ge0 (xs := Y) (by omega)]; simp
structure Qin (X : List Nat) (b : Nat) (i r : Nat) (T : List Nat) : Prop where
  len : T.length + i = X.length
  lt : ∀ d ∈ T, d < 10
  val : ofB 10 T * b + r = ofB 10 (X.drop i)
  rlt : r < b
theorem Qin.start {X : List Nat} {b : Nat} (hb : 0 < b) : Qin X b X.length 0 [] := ⟨by simp, by simp, by simp [ofB], hb⟩
theorem Qin.step {X T : List Nat} {b i r c r2 : Nat} (hX : ∀ x ∈ X, x < 10) (h : Qin X b (i + 1) r T) (hc : c * b + r2 = r * 10 + X.getD i 0) (hr : r2 < b) : Qin X b i r2 (c :: T) := by
  have hl := h.len
  have hx := getD_lt10' hX i
  have hrl := h.rlt
  have hc10 : c < 10 := by
    rcases Nat.lt_or_ge c 10 with h1 | h1
    · exact h1
    · have h2 : 10 * b ≤ c * b := Nat.mul_le_mul_right _ h1
      omega
  refine ⟨by simp; omega, fun d hd => ?_, ?_, hr⟩
  · rcases List.mem_cons.1 hd with rfl | h1
    · exact hc10
    · exact h.lt d h1
  · have e : X.drop i = X.getD i 0 :: X.drop (i + 1) := by
      rw [List.drop_eq_getElem_cons (by omega)]; simp [show i < X.length by omega]
    rw [e]
    simp only [ofB]
    have hv := h.val
    generalize X.getD i 0 = x at *
    generalize ofB 10 T = t at *
    generalize ofB 10 (X.drop (i + 1)) = u at *
    grind
theorem Qin.fin {X T : List Nat} {b r : Nat} (hb : 0 < b) (h : Qin X b 0 r T) : ofB 10 T = ofB 10 X / b ∧ r = ofB 10 X % b := by
  have hv := h.val
  rw [List.drop_zero] at hv
  have hr := h.rlt
  rw [← hv]
  constructor
  · rw [Nat.mul_comm, Nat.mul_add_div hb, Nat.div_eq_of_lt hr]; omega
  · rw [Nat.mul_comm, Nat.mul_add_mod, Nat.mod_eq_of_lt hr]
