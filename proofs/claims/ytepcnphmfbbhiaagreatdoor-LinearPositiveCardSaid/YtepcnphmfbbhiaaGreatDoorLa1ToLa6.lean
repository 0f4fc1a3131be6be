/- Part of the proof that all functions of the layer agree with the reference implementation. -/

set_option linter.all false
set_option linter.all false
namespace La
abbrev Mx := Nat → Nat → Rat
def sm : Nat → (Nat → Rat) → Rat
  | 0, _ => 0
  | n + 1, f => sm n f + f n
theorem sm_congr {f g : Nat → Rat} : ∀ {n : Nat}, (∀ i, i < n → f i = g i) → sm n f = sm n g
  | 0, _ => rfl
  | n + 1, h => by unfold sm; rw [sm_congr (fun i hi => h i (by omega)), h n (by omega)]
theorem sm_zero : ∀ {n : Nat} {f : Nat → Rat}, (∀ i, i < n → f i = 0) → sm n f = 0
  | 0, _, _ => rfl
  | n + 1, f, h => by unfold sm; rw [sm_zero (fun i hi => h i (by omega)), h n (by omega)]; grind
theorem sm_add (f g : Nat → Rat) : ∀ n, sm n (fun i => f i + g i) = sm n f + sm n g
  | 0 => by simp only [sm]; grind
  | n + 1 => by simp only [sm]; rw [sm_add f g n]; grind
theorem sm_mul (c : Rat) (f : Nat → Rat) : ∀ n, sm n (fun i => c * f i) = c * sm n f
  | 0 => by simp only [sm]; grind
  | n + 1 => by simp only [sm]; rw [sm_mul c f n]; grind
theorem sm_mulr (c : Rat) (f : Nat → Rat) (n : Nat) : sm n (fun i => f i * c) = sm n f * c := by
  rw [Rat.mul_comm, ← sm_mul]; exact sm_congr fun i _ => Rat.mul_comm _ _
theorem sm_sub (f g : Nat → Rat) : ∀ n, sm n (fun i => f i - g i) = sm n f - sm n g
  | 0 => by simp only [sm]; grind
  | n + 1 => by simp only [sm]; rw [sm_sub f g n]; grind
theorem sm_swap (f : Nat → Nat → Rat) (m : Nat) : ∀ n, sm n (fun i => sm m (fun j => f i j)) = sm m (fun j => sm n (fun i => f i j))
  | 0 => by simp only [sm]; exact (sm_zero fun _ _ => rfl).symm
  | n + 1 => by simp only [sm]; rw [sm_swap f m n, ← sm_add]
theorem sm_one {f : Nat → Rat} {k : Nat} : ∀ {n : Nat}, k < n → (∀ i, i < n → i ≠ k → f i = 0) → sm n f = f k
  | n + 1, hk, h => by
    unfold sm
    by_cases e : k = n
    · subst e; rw [sm_zero (fun i hi => h i (by omega) (by omega))]; grind
    · rw [sm_one (by omega) (fun i hi hne => h i (by omega) hne), h n (by omega) (by omega)]; grind
theorem sm_split (f : Nat → Rat) (a : Nat) : ∀ b, sm (a + b) f = sm a f + sm b (fun i => f (a + i))
  | 0 => by simp only [sm]; grind
  | b + 1 => by
    show sm (a + b) f + f (a + b) = sm a f + (sm b (fun i => f (a + i)) + f (a + b))
    rw [sm_split f a b]; grind
def sk (k i : Nat) : Nat := if i < k then i else i + 1
theorem sm_skip (f : Nat → Rat) (k : Nat) : ∀ n, k ≤ n → sm (n + 1) f = f k + sm n (fun i => f (sk k i))
  | 0, h => by
    have : k = 0 := by omega
    subst this; simp only [sm]; grind
  | n + 1, h => by
    rw [show sm (n + 1 + 1) f = sm (n + 1) f + f (n + 1) from rfl]
    by_cases e : k = n + 1
    · subst e
      rw [sm_congr (g := fun i => f (sk (n + 1) i)) (n := n + 1) (fun i hi => by simp [sk, hi])]
      grind
    · rw [sm_skip f k n (by omega)]
      show _ = f k + (sm n (fun i => f (sk k i)) + f (sk k n))
      rw [show sk k n = n + 1 by unfold sk; rw [if_neg (by omega)]]
      grind
def mul (k : Nat) (A B : Mx) : Mx := fun i j => sm k (fun l => A i l * B l j)
def one : Mx := fun i j => if i = j then 1 else 0
def tr (A : Mx) : Mx := fun i j => A j i
def Eq2 (n m : Nat) (A B : Mx) : Prop := ∀ i, i < n → ∀ j, j < m → A i j = B i j
theorem mul_assoc (a b : Nat) (A B C : Mx) (i j : Nat) : mul b (mul a A B) C i j = mul a A (mul b B C) i j := by
  unfold mul
  rw [sm_congr (g := fun l => sm a (fun k => A i k * B k l * C l j)) (fun l _ => by rw [← sm_mulr]), sm_swap]
  exact sm_congr fun l _ => by rw [← sm_mul]; exact sm_congr fun k _ => by grind
theorem mul_one {n : Nat} {A : Mx} {i j : Nat} (h : j < n) : mul n A one i j = A i j := by
  unfold mul one
  rw [sm_one h (fun l _ hl => by rw [if_neg hl]; grind)]
  simp
theorem one_mul {n : Nat} {A : Mx} {i j : Nat} (h : i < n) : mul n one A i j = A i j := by
  unfold mul one
  rw [sm_one h (fun l _ hl => by rw [if_neg (fun e => hl e.symm)]; grind)]
  simp
theorem mul_congr {k : Nat} {A A' B B' : Mx} {i j : Nat} (h : ∀ l, l < k → A i l = A' i l) (h' : ∀ l, l < k → B l j = B' l j) : mul k A B i j = mul k A' B' i j :=
  sm_congr fun l hl => by rw [h l hl, h' l hl]
theorem tr_mul (k : Nat) (A B : Mx) (i j : Nat) : mul k A B j i = mul k (tr B) (tr A) i j := sm_congr fun _ _ => Rat.mul_comm _ _
theorem ker (s : Nat) : ∀ (r : Nat) (Y : Mx), s < r → ∃ v : Nat → Rat, (∃ j, j < r ∧ v j ≠ 0) ∧ ∀ i, i < s → sm r (fun j => Y i j * v j) = 0 := by
  induction s with
  | zero =>
    intro r Y h
    exact ⟨fun _ => 1, ⟨0, h, by simp⟩, fun i hi => absurd hi (by omega)⟩
  | succ s ih =>
    intro r Y h
    by_cases hz : ∀ j, j < r → Y s j = 0
    · obtain ⟨v, hv, h2⟩ := ih r Y (by omega)
      refine ⟨v, hv, fun i hi => ?_⟩
      by_cases e : i = s
      · subst e; exact sm_zero fun j hj => by rw [hz j hj]; grind
      · exact h2 i (by omega)
    · have hz : ∃ j, j < r ∧ Y s j ≠ 0 := by
        refine Classical.byContradiction fun hn => hz fun j hj => Classical.byContradiction fun h => hn ⟨j, hj, h⟩
      obtain ⟨j0, hj0, hne⟩ := hz
      obtain ⟨r, rfl⟩ : ∃ r', r = r' + 1 := ⟨r - 1, by omega⟩
      obtain ⟨v, ⟨j1, hj1, hv⟩, h2⟩ := ih r (fun i j => Y i (sk j0 j) - Y i j0 / Y s j0 * Y s (sk j0 j)) (by omega)
      let t := sm r (fun j => Y s (sk j0 j) * v j)
      let w : Nat → Rat := fun j => if j = j0 then - (t / Y s j0) else v (if j < j0 then j else j - 1)
      have hw0 : w j0 = - (t / Y s j0) := by simp [w]
      have hwk : ∀ j, w (sk j0 j) = v j := by
        intro j
        show (if sk j0 j = j0 then _ else _) = _
        unfold sk
        split
        · rename_i h; simp; omega
        · rename_i h; rw [if_neg (by omega), if_neg (by omega)]; rfl
      refine ⟨w, ⟨sk j0 j1, by unfold sk; split <;> omega, by rw [hwk]; exact hv⟩, fun i hi => ?_⟩
      rw [sm_skip _ j0 r (by omega), hw0, sm_congr (g := fun j => Y i (sk j0 j) * v j) (fun j _ => by rw [hwk])]
      by_cases e : i = s
      · subst e
        show Y i j0 * -(t / Y i j0) + t = 0
        grind
      · have h3 := h2 i (by omega)
        rw [sm_congr (g := fun j => Y i (sk j0 j) * v j - Y i j0 / Y s j0 * (Y s (sk j0 j) * v j)) (fun j _ => by grind), sm_sub, sm_mul] at h3
        show Y i j0 * -(t / Y s j0) + _ = 0
        have h4 : sm r (fun j => Y i (sk j0 j) * v j) - Y i j0 / Y s j0 * t = 0 := h3
        grind
theorem dim_le {r s : Nat} {X Y : Mx} (h : Eq2 r r (mul s X Y) one) : r ≤ s := by
  refine Nat.le_of_not_lt fun hlt => ?_
  obtain ⟨v, ⟨j, hj, hne⟩, h2⟩ := ker s r Y hlt
  refine hne ?_
  have : sm r (fun l => mul s X Y j l * v l) = v j := by
    rw [sm_one hj (fun l hl hn => by rw [h j hj l hl]; unfold one; rw [if_neg (fun e => hn e.symm)]; grind)]
    rw [h j hj j hj]; simp [one]
  rw [← this]
  unfold mul
  rw [sm_congr (g := fun l => sm s (fun k => X j k * (Y k l * v l))) (fun l _ => by rw [← sm_mulr]; exact sm_congr fun k _ => by grind), sm_swap]
  exact sm_zero fun k hk => by rw [sm_mul, h2 k hk]; grind
structure Fac (n m r : Nat) (A C F CL FR : Mx) : Prop where
  eq : Eq2 n m A (mul r C F)
  cl : Eq2 r r (mul n CL C) one
  fr : Eq2 r r (mul m F FR) one
def Rk (n m r : Nat) (A : Mx) : Prop := ∃ C F CL FR, Fac n m r A C F CL FR
theorem Fac.mid {n m r s : Nat} {A C F CL FR X Y U V : Mx} (h : Fac n m r A C F CL FR) (hA : Eq2 n m A (mul s X Y)) (_ : U = mul n CL X) (_ : V = mul m Y FR) : Eq2 r r (mul s U V) one := by
  intro i hi j hj
  subst U V
  have h1 : mul m (mul n CL A) FR i j = mul m (mul n CL (mul r C F)) FR i j :=
    mul_congr (fun l hl => mul_congr (fun _ _ => rfl) (fun k hk => h.eq k hk l hl)) (fun _ _ => rfl)
  have h2 : mul m (mul n CL A) FR i j = mul m (mul n CL (mul s X Y)) FR i j :=
    mul_congr (fun l hl => mul_congr (fun _ _ => rfl) (fun k hk => hA k hk l hl)) (fun _ _ => rfl)
  have h3 : mul m (mul n CL (mul r C F)) FR i j = one i j := by
    rw [mul_congr (A' := mul r (mul n CL C) F) (B' := FR) (fun l _ => (mul_assoc _ _ _ _ _ _ _).symm) (fun _ _ => rfl)]
    rw [mul_congr (A' := F) (B' := FR) (fun l _ => by
      rw [mul_congr (A' := one) (B' := F) (fun k hk => h.cl i hi k hk) (fun _ _ => rfl)]; exact one_mul hi) (fun _ _ => rfl)]
    exact h.fr i hi j hj
  rw [← h3, ← h1, h2]
  rw [mul_congr (A' := mul s (mul n CL X) Y) (B' := FR) (fun l _ => (mul_assoc _ _ _ _ _ _ _).symm) (fun _ _ => rfl)]
  exact (mul_assoc _ _ _ _ _ _ _).symm
theorem Fac.le {n m r s : Nat} {A C F CL FR X Y : Mx} (h : Fac n m r A C F CL FR) (hA : Eq2 n m A (mul s X Y)) : r ≤ s := dim_le (h.mid hA rfl rfl)
theorem Rk.uniq {n m r s : Nat} {A : Mx} (h : Rk n m r A) (h' : Rk n m s A) : r = s := by
  obtain ⟨C, F, CL, FR, h⟩ := h
  obtain ⟨C', F', CL', FR', h'⟩ := h'
  exact Nat.le_antisymm (h.le h'.eq) (h'.le h.eq)
theorem Rk.tr {n m r : Nat} {A : Mx} (h : Rk n m r A) : Rk m n r (tr A) := by
  obtain ⟨C, F, CL, FR, h⟩ := h
  refine ⟨La.tr F, La.tr C, La.tr FR, La.tr CL, ⟨fun i hi j hj => ?_, fun i hi j hj => ?_, fun i hi j hj => ?_⟩⟩
  · show A j i = _; rw [h.eq j hj i hi, tr_mul]
  · rw [← tr_mul, h.fr j hj i hi]; unfold one; simp only [eq_comm]
  · rw [← tr_mul, h.cl j hj i hi]; unfold one; simp only [eq_comm]
theorem Rk.le_n {n m r : Nat} {A : Mx} (h : Rk n m r A) : r ≤ n := by
  obtain ⟨C, F, CL, FR, h⟩ := h
  exact dim_le h.cl
theorem Rk.le_m {n m r : Nat} {A : Mx} (h : Rk n m r A) : r ≤ m := h.tr.le_n
theorem Rk.mul_r {n k m q t : Nat} {A B : Mx} (hB : Rk k m q B) (hT : Rk n m t (mul k A B)) : t ≤ q := by
  obtain ⟨C, F, CL, FR, h⟩ := hB
  obtain ⟨C', F', CL', FR', h'⟩ := hT
  exact h'.le (X := mul k A C) (Y := F) fun i hi j hj => by
    rw [mul_congr (A' := A) (B' := mul q C F) (fun _ _ => rfl) (fun l hl => h.eq l hl j hj)]; exact (mul_assoc _ _ _ _ _ _ _).symm
end La
set_option linter.all false
namespace La
def sg (i : Nat) : Rat := if i % 2 = 0 then 1 else -1
theorem sg_succ (i : Nat) : sg (i + 1) = - sg i := by
  unfold sg
  rcases Nat.mod_two_eq_zero_or_one i with h | h
  · rw [if_neg (by omega), if_pos h]
  · rw [if_pos (by omega), if_neg (by omega)]; grind
def mn (i : Nat) (A : Mx) : Mx := fun r c => A (sk i r) (c + 1)
def det : Nat → Mx → Rat
  | 0, _ => 1
  | n + 1, A => sm (n + 1) fun i => sg i * A i 0 * det n (mn i A)
def mr (k : Nat) (A : Mx) : Mx := fun r c => A (r + 1) (sk k c)
def detR : Nat → Mx → Rat
  | 0, _ => 1
  | n + 1, A => sm (n + 1) fun k => sg k * A 0 k * detR n (mr k A)
theorem sk_lt {k i n : Nat} (h : i < n) : sk k i < n + 1 := by unfold sk; split <;> omega
theorem det_congr : ∀ {n : Nat} {A B : Mx}, Eq2 n n A B → det n A = det n B
  | 0, _, _, _ => rfl
  | n + 1, A, B, h => sm_congr fun i hi => by
    rw [h i hi 0 (by omega), det_congr (A := mn i A) (B := mn i B) fun r hr c hc => h _ (sk_lt hr) _ (by omega)]
theorem det_tr : ∀ (n : Nat) (A : Mx), det n (tr A) = detR n A
  | 0, _ => rfl
  | n + 1, A => sm_congr fun i _ => by
    show sg i * A 0 i * det n (mn i (tr A)) = _
    rw [show mn i (tr A) = tr (mr i A) from rfl, det_tr n]
theorem sm_first (f : Nat → Rat) : ∀ n, sm (n + 1) f = f 0 + sm n (fun i => f (i + 1))
  | 0 => by simp only [sm]; grind
  | n + 1 => by
    rw [show sm (n + 1 + 1) f = sm (n + 1) f + f (n + 1) from rfl, sm_first f n]
    simp only [sm]; grind
theorem sk0 (r : Nat) : sk 0 r = r + 1 := by simp [sk]
theorem sk_s0 (i : Nat) : sk (i + 1) 0 = 0 := by simp [sk]
theorem sk_ss (i r : Nat) : sk (i + 1) (r + 1) = sk i r + 1 := by unfold sk; split <;> split <;> omega
theorem det_row : ∀ (n : Nat) (A : Mx), det n A = detR n A
  | 0, _ => rfl
  | 1, A => by simp [det, detR, sm]
  | n + 2, A => by
    rw [det, sm_first, detR, sm_first (fun k => sg k * A 0 k * detR (n + 1) (mr k A))]
    have h0 : mn 0 A = mr 0 A := by funext r c; simp [mn, mr, sk0]
    rw [h0, det_row (n + 1) (mr 0 A)]
    let D : Nat → Nat → Mx := fun i k r c => A (sk i r + 1) (sk k c + 1)
    have h1 : ∀ i, i < n + 1 → sg (i + 1) * A (i + 1) 0 * det (n + 1) (mn (i + 1) A) = sm (n + 1) fun k => - (sg i * sg k) * (A (i + 1) 0 * A 0 (k + 1)) * det n (D i k) := by
      intro i _
      rw [det_row (n + 1), detR, ← sm_mul]
      refine sm_congr fun k _ => ?_
      rw [show mr k (mn (i + 1) A) = D i k by funext r c; simp [mr, mn, D, sk_ss], ← det_row n, sg_succ]
      show _ * (sg k * A (sk (i + 1) 0) (k + 1) * _) = _
      rw [sk_s0]; grind
    have h2 : ∀ k, k < n + 1 → sg (k + 1) * A 0 (k + 1) * detR (n + 1) (mr (k + 1) A) = sm (n + 1) fun i => - (sg i * sg k) * (A (i + 1) 0 * A 0 (k + 1)) * det n (D i k) := by
      intro k _
      rw [← det_row (n + 1), det, ← sm_mul]
      refine sm_congr fun i _ => ?_
      rw [show mn i (mr (k + 1) A) = D i k by funext r c; simp [mr, mn, D, sk_ss], sg_succ]
      show _ * (sg i * A (i + 1) (sk (k + 1) 0) * _) = _
      rw [sk_s0]; grind
    rw [sm_congr h1, sm_congr h2, sm_swap]
theorem det_transpose (n : Nat) (A : Mx) : det n (tr A) = det n A := by rw [det_tr, det_row]
def ur (A : Mx) (k : Nat) (u : Nat → Rat) : Mx := fun i j => if i = k then u j else A i j
theorem mn_ur_self {A : Mx} {k : Nat} {u : Nat → Rat} : mn k (ur A k u) = mn k A := by
  funext r c; unfold mn ur; rw [if_neg (by unfold sk; split <;> omega)]
def pk (i k : Nat) : Nat := if k < i then k else k - 1
theorem mn_ur {A : Mx} {i k : Nat} {u : Nat → Rat} (h : i ≠ k) : mn i (ur A k u) = ur (mn i A) (pk i k) (fun j => u (j + 1)) := by
  funext r c; unfold mn ur
  have : (sk i r = k) ↔ (r = pk i k) := by unfold sk pk; split <;> split <;> omega
  by_cases e : sk i r = k
  · rw [if_pos e, if_pos (this.1 e)]
  · rw [if_neg e, if_neg (fun h => e (this.2 h))]
theorem det_lin : ∀ (n : Nat) (A : Mx) (k : Nat) (u v : Nat → Rat) (c : Rat), k < n → det n (ur A k (fun j => u j + c * v j)) = det n (ur A k u) + c * det n (ur A k v)
  | 0, _, _, _, _, _, h => absurd h (by omega)
  | n + 1, A, k, u, v, c, h => by
    simp only [det]
    rw [← sm_mul, ← sm_add]
    refine sm_congr fun i hi => ?_
    by_cases e : i = k
    · subst e
      rw [mn_ur_self, mn_ur_self, mn_ur_self]
      simp only [ur, if_true]; grind
    · rw [mn_ur e, mn_ur e, mn_ur e, det_lin n _ _ (fun j => u (j + 1)) (fun j => v (j + 1)) c (by unfold pk; split <;> omega)]
      simp only [ur, if_neg e]; grind
theorem ur_self (A : Mx) (k : Nat) : ur A k (A k) = A := by funext i j; unfold ur; split <;> simp_all
theorem det_scale {n : Nat} {A : Mx} {k : Nat} (u : Nat → Rat) (c : Rat) (h : k < n) : det n (ur A k (fun j => c * u j)) = c * det n (ur A k u) := by
  have h1 := det_lin n A k u u (c - 1) h
  rw [show (fun j => u j + (c - 1) * u j) = fun j => c * u j by funext j; grind] at h1
  rw [h1]; grind
theorem det_zrow {n : Nat} {A : Mx} {k : Nat} (h : k < n) (hz : ∀ j, j < n → A k j = 0) : det n A = 0 := by
  have h1 := det_scale (A := A) (A k) 0 h
  rw [ur_self] at h1
  rw [← Rat.zero_mul (det n A), ← h1]
  refine det_congr fun i hi j hj => ?_
  unfold ur
  split
  · rename_i e; subst e; rw [hz j hj]; grind
  · rfl
def sa (k i : Nat) : Nat := if i = k then k + 1 else if i = k + 1 then k else i
theorem sm_sa (f : Nat → Rat) (k : Nat) : ∀ n, k + 1 < n → sm n (fun i => f (sa k i)) = sm n f
  | 0, h => absurd h (by omega)
  | n + 1, h => by
    by_cases e : k + 1 = n
    · subst e
      show sm k (fun i => f (sa k i)) + f (sa k k) + f (sa k (k + 1)) = sm k f + f k + f (k + 1)
      rw [sm_congr (g := f) (n := k) (fun i hi => by unfold sa; rw [if_neg (by omega), if_neg (by omega)])]
      rw [show sa k k = k + 1 by simp [sa], show sa k (k + 1) = k by simp [sa]]; grind
    · show sm n (fun i => f (sa k i)) + f (sa k n) = sm n f + f n
      rw [sm_sa f k n (by omega), show sa k n = n by unfold sa; rw [if_neg (by omega), if_neg (by omega)]]
theorem sa_sk1 {i r : Nat} : sa i (sk i r) = sk (i + 1) r := by unfold sa sk; grind
theorem sa_sk2 {k r : Nat} : sa k (sk (k + 1) r) = sk k r := by unfold sa sk; grind
theorem sa_sk3 {i k r : Nat} (e1 : ¬ i = k) (e2 : ¬ i = k + 1) : sa k (sk i r) = sk i (sa (if k < i then k else k - 1) r) := by unfold sa sk; grind
theorem det_sa : ∀ (n : Nat) (A : Mx) (k : Nat), k + 1 < n → det n (fun i j => A (sa k i) j) = - det n A
  | 0, _, _, h => absurd h (by omega)
  | n + 1, A, k, h => by
    simp only [det]
    rw [← sm_sa (fun i => sg i * A i 0 * det n (mn i A)) k (n + 1) h, show ∀ x : Rat, - x = (-1) * x by intro x; grind, ← sm_mul]
    refine sm_congr fun i hi => ?_
    by_cases e1 : i = k
    · subst e1
      rw [show mn i (fun i' j => A (sa i i') j) = mn (i + 1) A by
        funext r c; show A (sa i (sk i r)) (c + 1) = A (sk (i + 1) r) (c + 1); rw [sa_sk1]]
      rw [show sa i i = i + 1 by simp [sa], sg_succ]; grind
    · by_cases e2 : i = k + 1
      · subst e2
        rw [show mn (k + 1) (fun i' j => A (sa k i') j) = mn k A by
          funext r c; show A (sa k (sk (k + 1) r)) (c + 1) = A (sk k r) (c + 1); rw [sa_sk2]]
        rw [show sa k (k + 1) = k by simp [sa], sg_succ]; grind
      · rw [show sa k i = i by unfold sa; rw [if_neg e1, if_neg e2]]
        rw [show mn i (fun i' j => A (sa k i') j) = fun r j => mn i A (sa (if k < i then k else k - 1) r) j by
          funext r c; show A (sa k (sk i r)) (c + 1) = A (sk i (sa (if k < i then k else k - 1) r)) (c + 1); rw [sa_sk3 e1 e2]]
        rw [det_sa n _ _ (by split <;> omega)]; grind
def sx (p r i : Nat) : Nat := if i = p then r else if i = r then p else i
theorem det_sx : ∀ (d n : Nat) (A : Mx) (p : Nat), p + d + 1 < n → det n (fun i j => A (sx p (p + d + 1) i) j) = - det n A
  | 0, n, A, p, h => by
    rw [show (fun i j => A (sx p (p + 0 + 1) i) j) = fun i j => A (sa p i) j from rfl]; exact det_sa n A p h
  | d + 1, n, A, p, h => by
    have h1 := det_sa n (fun i j => A (sx (p + 1) (p + 1 + d + 1) (sa p i)) j) p (by omega)
    have h2 := det_sx d n (fun i j => A (sa p i) j) (p + 1) (by omega)
    have h3 := det_sa n A p (by omega)
    have h4 := det_sa n (fun i j => A (sa p (sx (p + 1) (p + 1 + d + 1) i)) j) p (by omega)
    rw [show (fun i j => A (sx p (p + (d + 1) + 1) i) j) = fun i j => A (sa p (sx (p + 1) (p + 1 + d + 1) (sa p i))) j by
      funext i j; congr 1; unfold sx sa; split <;> (try split) <;> (try split) <;> (try split) <;> (try split) <;> (try split) <;> (try split) <;> omega]
    rw [h4, h2, h3]; grind
theorem det_swap {n : Nat} {A : Mx} {p r : Nat} (hp : p < n) (hr : r < n) (hne : p ≠ r) : det n (fun i j => A (sx p r i) j) = - det n A := by
  rcases Nat.lt_or_gt_of_ne hne with h | h
  · obtain ⟨d, rfl⟩ : ∃ d, r = p + d + 1 := ⟨r - p - 1, by omega⟩
    exact det_sx d n A p hr
  · obtain ⟨d, rfl⟩ : ∃ d, p = r + d + 1 := ⟨p - r - 1, by omega⟩
    rw [← det_sx d n A r hp]
    congr 1
    funext i j; congr 1; unfold sx; split <;> split <;> (try split) <;> omega
theorem det_same {n : Nat} {A : Mx} {p r : Nat} (hp : p < n) (hr : r < n) (hne : p ≠ r) (h : ∀ j, j < n → A p j = A r j) : det n A = 0 := by
  have h1 := det_swap (A := A) hp hr hne
  rw [det_congr (A := fun i j => A (sx p r i) j) (B := A) (fun i _ j hj => by
    show A (sx p r i) j = A i j
    unfold sx; split
    · rename_i e; rw [e, h j hj]
    · split
      · rename_i e; rw [e, h j hj]
      · rfl)] at h1
  grind
theorem det_addrow {n : Nat} {A : Mx} {i k : Nat} (c : Rat) (hi : i < n) (hk : k < n) (hne : i ≠ k) : det n (ur A i (fun j => A i j + c * A k j)) = det n A := by
  rw [det_lin n A i (A i) (A k) c hi, ur_self, det_same (A := ur A i (A k)) hi hk hne (fun j _ => by unfold ur; rw [if_pos rfl, if_neg (fun e => hne e.symm)])]
  grind
theorem det_one : ∀ n, det n one = 1
  | 0 => rfl
  | n + 1 => by
    rw [det, sm_first, sm_zero (n := n) (fun i _ => by unfold one; rw [if_neg (by omega)]; grind)]
    rw [det_congr (A := mn 0 one) (B := one) (fun i _ j _ => by unfold mn one; rw [sk0]; simp), det_one n]
    unfold one sg; simp; grind
end La
set_option linter.all false
namespace La
inductive RO (n m : Nat) (A : Mx) : Mx → Rat → Prop
  | refl : RO n m A A 1
  | eq {B B' : Mx} {f : Rat} : RO n m A B f → Eq2 n m B B' → RO n m A B' f
  | swap {B : Mx} {f : Rat} {p r : Nat} : RO n m A B f → p < n → r < n → p ≠ r → RO n m A (fun i j => B (sx p r i) j) (- f)
  | scale {B : Mx} {f c : Rat} {r : Nat} : RO n m A B f → r < n → c ≠ 0 → RO n m A (ur B r (fun j => B r j / c)) (f * c)
  | add {B : Mx} {f c : Rat} {i r : Nat} : RO n m A B f → i < n → r < n → i ≠ r → RO n m A (ur B i (fun j => B i j + c * B r j)) f
theorem sx_lt {p r i n : Nat} (hp : p < n) (hr : r < n) (hi : i < n) : sx p r i < n := by unfold sx; split <;> (try split) <;> omega
theorem sx_sx (p r i : Nat) : sx p r (sx p r i) = i := by unfold sx; grind
theorem RO.ne {n m : Nat} {A B : Mx} {f : Rat} (h : RO n m A B f) : f ≠ 0 := by
  induction h with
  | refl => simp
  | eq _ _ ih => exact ih
  | swap _ _ _ _ ih => grind
  | scale _ _ hc ih => intro e; rcases Rat.mul_eq_zero.1 e with e | e <;> contradiction
  | add _ _ _ _ ih => exact ih
theorem RO.ker {n m : Nat} {A B : Mx} {f : Rat} (h : RO n m A B f) (x : Nat → Rat) : (∀ i, i < n → sm m (fun j => A i j * x j) = 0) ↔ (∀ i, i < n → sm m (fun j => B i j * x j) = 0) := by
  induction h with
  | refl => exact Iff.rfl
  | eq _ he ih =>
    rw [ih]
    exact ⟨fun h i hi => by rw [← h i hi]; exact sm_congr fun j hj => by rw [he i hi j hj], fun h i hi => by rw [← h i hi]; exact sm_congr fun j hj => by rw [he i hi j hj]⟩
  | swap _ hp hr _ ih =>
    rw [ih]
    exact ⟨fun h i hi => h _ (sx_lt hp hr hi), fun h i hi => by have := h _ (sx_lt hp hr hi); simp only [sx_sx] at this; exact this⟩
  | @scale B f c r _ hr hc ih =>
    rw [ih]
    have key : sm m (fun j => ur B r (fun j => B r j / c) r j * x j) = (1 / c) * sm m (fun j => B r j * x j) := by
      rw [← sm_mul]; exact sm_congr fun j _ => by unfold ur; rw [if_pos rfl]; grind
    refine ⟨fun h i hi => ?_, fun h i hi => ?_⟩
    · by_cases e : i = r
      · subst e; rw [key, h i hi]; grind
      · rw [← h i hi]; exact sm_congr fun j _ => by unfold ur; rw [if_neg e]
    · by_cases e : i = r
      · subst e; have := h i hi; rw [key] at this; grind
      · rw [← h i hi]; exact sm_congr fun j _ => by unfold ur; rw [if_neg e]
  | @add B f c i r _ hi hr hne ih =>
    rw [ih]
    have key : sm m (fun j => ur B i (fun j => B i j + c * B r j) i j * x j) = sm m (fun j => B i j * x j) + c * sm m (fun j => B r j * x j) := by
      rw [← sm_mul, ← sm_add]; exact sm_congr fun j _ => by unfold ur; rw [if_pos rfl]; grind
    have oth : ∀ k, k ≠ i → sm m (fun j => ur B i (fun j => B i j + c * B r j) k j * x j) = sm m (fun j => B k j * x j) := fun k hk => sm_congr fun j _ => by unfold ur; rw [if_neg hk]
    refine ⟨fun h k hk => ?_, fun h k hk => ?_⟩
    · by_cases e : k = i
      · subst e; rw [key, h k hk, h r hr]; grind
      · rw [oth k e]; exact h k hk
    · by_cases e : k = i
      · subst e
        have h1 := h k hk
        have h2 := h r hr
        rw [key] at h1; rw [oth r (fun e => hne e.symm)] at h2; rw [h2] at h1; grind
      · rw [← oth k e]; exact h k hk
theorem mul_swap (k : Nat) (B X : Mx) (p r : Nat) : mul k (fun i j => B (sx p r i) j) X = fun i j => mul k B X (sx p r i) j := rfl
theorem mul_ur (k : Nat) (B X : Mx) (r : Nat) (u : Nat → Rat) : mul k (ur B r u) X = ur (mul k B X) r (fun j => sm k (fun l => u l * X l j)) := by
  funext i j; unfold mul ur
  by_cases e : i = r
  · simp only [if_pos e]
  · simp only [if_neg e]
theorem mul_scale (k : Nat) (B X : Mx) (r : Nat) (c : Rat) : mul k (ur B r (fun j => B r j / c)) X = ur (mul k B X) r (fun j => mul k B X r j / c) := by
  rw [mul_ur]; congr 1; funext j
  unfold mul
  rw [show sm k (fun l => B r l * X l j) / c = (1 / c) * sm k (fun l => B r l * X l j) by grind, ← sm_mul]
  exact sm_congr fun l _ => by grind
theorem mul_add (k : Nat) (B X : Mx) (i r : Nat) (c : Rat) : mul k (ur B i (fun j => B i j + c * B r j)) X = ur (mul k B X) i (fun j => mul k B X i j + c * mul k B X r j) := by
  rw [mul_ur]; congr 1; funext j
  unfold mul
  rw [← sm_mul, ← sm_add]
  exact sm_congr fun l _ => by grind
theorem RO.mat {n m : Nat} {A B : Mx} {f : Rat} (h : RO n m A B f) : ∃ E : Mx, Eq2 n m B (mul n E A) := by
  induction h with
  | refl => exact ⟨one, fun i hi j _ => (one_mul hi).symm⟩
  | eq _ he ih => obtain ⟨E, h⟩ := ih; exact ⟨E, fun i hi j hj => by rw [← he i hi j hj, h i hi j hj]⟩
  | @swap B f p r _ hp hr _ ih => obtain ⟨E, h⟩ := ih; exact ⟨fun i j => E (sx p r i) j, fun i hi j hj => by rw [mul_swap]; exact h _ (sx_lt hp hr hi) j hj⟩
  | @scale B f c r _ hr hc ih =>
    obtain ⟨E, h⟩ := ih
    refine ⟨ur E r (fun j => E r j / c), fun i hi j hj => ?_⟩
    rw [mul_scale]; unfold ur
    split
    · show B r j / c = mul n E A r j / c
      rw [h r hr j hj]
    · exact h i hi j hj
  | @add B f c i r _ hi hr hne ih =>
    obtain ⟨E, h⟩ := ih
    refine ⟨ur E i (fun j => E i j + c * E r j), fun k hk j hj => ?_⟩
    rw [mul_add]; unfold ur
    split
    · show B i j + c * B r j = mul n E A i j + c * mul n E A r j
      rw [h i hi j hj, h r hr j hj]
    · exact h k hk j hj
theorem RO.det {n m : Nat} {A B : Mx} {f : Rat} (h : RO n m A B f) (hn : n ≤ m) (X : Mx) : det n (mul n A X) = f * La.det n (mul n B X) := by
  induction h with
  | refl => grind
  | eq _ he ih => rw [ih]; congr 1; exact det_congr fun i hi j _ => mul_congr (fun l hl => he i hi l (by omega)) (fun _ _ => rfl)
  | swap _ hp hr hne ih => rw [ih, mul_swap, det_swap hp hr hne]; grind
  | @scale B f c r _ hr hc ih =>
    rw [ih, mul_scale, show (fun j => mul n B X r j / c) = fun j => (1 / c) * mul n B X r j by funext j; grind, det_scale _ _ hr, ur_self]; grind
  | add _ hi hr hne ih => rw [ih, mul_add, det_addrow _ hi hr hne]
structure RF (n cols r : Nat) (p : Nat → Nat) (B : Mx) : Prop where
  rn : r ≤ n
  inc : ∀ a b, a < b → b < r → p a < p b
  lt : ∀ a, a < r → p a < cols
  unit : ∀ i, i < n → ∀ l, l < r → B i (p l) = if i = l then 1 else 0
  zero : ∀ i, r ≤ i → i < n → ∀ j, j < cols → B i j = 0
theorem sm_pick {m r : Nat} {p : Nat → Nat} (hp : ∀ l, l < r → p l < m) (a c : Nat → Rat) :
    sm m (fun t => a t * sm r (fun l => if t = p l then c l else 0)) = sm r (fun l => a (p l) * c l) := by
  rw [sm_congr (g := fun t => sm r (fun l => a t * (if t = p l then c l else 0))) (fun t _ => by rw [sm_mul]), sm_swap]
  refine sm_congr fun l hl => ?_
  rw [sm_one (hp l hl) (fun t _ ht => by rw [if_neg ht]; grind), if_pos rfl]
theorem RF.comb {n m cols r : Nat} {p : Nat → Nat} {A B : Mx} {f : Rat} (hr : RO n m A B f) (h : RF n cols r p B) (hc : cols ≤ m) {i j : Nat} (hi : i < n) (hj : j < m) (hz : ∀ k, r ≤ k → k < n → B k j = 0) :
    A i j = sm r (fun l => A i (p l) * B l j) := by
  let x : Nat → Rat := fun t => (if t = j then 1 else 0) - sm r (fun l => if t = p l then B l j else 0)
  have hx : ∀ D : Mx, ∀ i, sm m (fun t => D i t * x t) = D i j - sm r (fun l => D i (p l) * B l j) := by
    intro D i
    rw [← sm_pick (m := m) (fun l hl => Nat.lt_of_lt_of_le (h.lt l hl) hc) (D i) (fun l => B l j)]
    rw [sm_congr (g := fun t => D i t * (if t = j then 1 else 0) - D i t * sm r (fun l => if t = p l then B l j else 0)) (fun t _ => by show D i t * (_ - _) = _; grind), sm_sub]
    rw [sm_one (k := j) hj (fun t _ ht => by rw [if_neg ht]; grind), if_pos rfl]; grind
  have h1 := (hr.ker x).2 (fun k hk => by
    rw [hx B k]
    by_cases e : k < r
    · rw [sm_one e (fun l hl hne => by rw [h.unit k hk l hl, if_neg (fun e => hne e.symm)]; grind), h.unit k hk k e, if_pos rfl]; grind
    · rw [hz k (by omega) hk, sm_zero (fun l hl => by rw [h.unit k hk l hl, if_neg (by omega)]; grind)]; grind) i hi
  rw [hx A i] at h1
  grind
theorem RF.rank {n m cols r : Nat} {p : Nat → Nat} {A B : Mx} {f : Rat} (hr : RO n m A B f) (h : RF n cols r p B) (hc : cols ≤ m) : Rk n cols r A := by
  obtain ⟨E, hE⟩ := hr.mat
  refine ⟨fun i l => A i (p l), B, E, fun j l => if j = p l then 1 else 0, ⟨fun i hi j hj => ?_, fun i hi j hj => ?_, fun i hi j hj => ?_⟩⟩
  · exact h.comb hr hc hi (by omega) (fun k h1 h2 => h.zero k h1 h2 j hj)
  · have := hE i (by have := h.rn; omega) (p j) (Nat.lt_of_lt_of_le (h.lt j hj) hc)
    rw [h.unit i (by have := h.rn; omega) j hj] at this
    exact this.symm
  · show sm cols (fun t => B i t * (if t = p j then 1 else 0)) = _
    rw [sm_one (h.lt j hj) (fun t _ ht => by rw [if_neg ht]; grind), if_pos rfl, h.unit i (by have := h.rn; omega) j hj]
    unfold one; grind
theorem RF.full {n : Nat} {p : Nat → Nat} {B : Mx} (h : RF n n n p B) : Eq2 n n B one := by
  have h1 : ∀ l, l < n → l ≤ p l := by
    intro l
    induction l with
    | zero => intro _; omega
    | succ l ih => intro hl; have := ih (by omega); have := h.inc l (l + 1) (by omega) hl; omega
  have h2 : ∀ d l, l + d + 1 = n → p l ≤ l := by
    intro d
    induction d with
    | zero => intro l hl; have := h.lt l (by omega); omega
    | succ d ih => intro l hl; have := ih (l + 1) (by omega); have := h.inc l (l + 1) (by omega) (by omega); omega
  intro i hi j hj
  have := h.unit i hi j hj
  rw [show p j = j from Nat.le_antisymm (h2 (n - j - 1) j (by omega)) (h1 j hj)] at this
  exact this
theorem RF.det_full {n m : Nat} {p : Nat → Nat} {A B : Mx} {f : Rat} (hr : RO n m A B f) (h : RF n n n p B) (hn : n ≤ m) (X : Mx) : det n (mul n A X) = f * det n X := by
  rw [hr.det hn]; congr 1; exact det_congr fun i hi j _ => by rw [mul_congr (A' := one) (B' := X) (fun l hl => h.full i hi l hl) (fun _ _ => rfl), one_mul hi]
theorem RF.det_less {n m r : Nat} {p : Nat → Nat} {A B : Mx} {f : Rat} (hr : RO n m A B f) (h : RF n n r p B) (hn : n ≤ m) (hlt : r < n) (X : Mx) : det n (mul n A X) = 0 := by
  rw [hr.det hn, det_zrow (k := n - 1) (by omega) (fun j _ => sm_zero fun l hl => by rw [h.zero (n - 1) (by omega) (by omega) l hl]; grind)]; grind
theorem det_mul_one (n : Nat) (A : Mx) : det n (mul n A one) = det n A := det_congr fun _ _ _ hj => mul_one hj
theorem RF.det_mul {n m r : Nat} {p : Nat → Nat} {A B : Mx} {f : Rat} (hr : RO n m A B f) (h : RF n n r p B) (hn : n ≤ m) (X : Mx) : det n (mul n A X) = det n A * det n X := by
  by_cases e : r = n
  · subst e
    rw [h.det_full hr hn, ← det_mul_one r A, h.det_full hr hn, det_one]; grind
  · have := h.rn
    rw [h.det_less hr hn (by omega), ← det_mul_one n A, h.det_less hr hn (by omega)]; grind
theorem RF.det_iff {n m r : Nat} {p : Nat → Nat} {A B : Mx} {f : Rat} (hr : RO n m A B f) (h : RF n n r p B) (hn : n ≤ m) : (r = n → det n A = f) ∧ (r < n → det n A = 0) :=
  ⟨fun e => by subst e; rw [← det_mul_one, h.det_full hr hn, det_one]; grind, fun e => by rw [← det_mul_one, h.det_less hr hn e]⟩
end La
set_option linter.all false
namespace La
section
variable {n m r : Nat} {p : Nat → Nat} {A B : Mx} {f : Rat}
theorem RF.zero_of (hr : RO n (m + 1) A B f) (h : RF n m r p B) {v : Nat → Rat} (hv : ∀ i, i < n → A i m = sm m (fun t => A i t * v t)) : ∀ k, k < n → B k m = sm m (fun t => B k t * v t) := by
  let x : Nat → Rat := fun t => if t = m then -1 else v t
  have hx : ∀ D : Mx, ∀ i, sm (m + 1) (fun t => D i t * x t) = sm m (fun t => D i t * v t) - D i m := fun D i => by
    show sm m (fun t => D i t * x t) + D i m * x m = _
    rw [sm_congr (g := fun t => D i t * v t) (fun t ht => by show _ * (if t = m then -1 else v t) = _; rw [if_neg (by omega)])]
    show _ + D i m * (if m = m then -1 else v m) = _
    rw [if_pos rfl]; grind
  have := (hr.ker x).1 (fun i hi => by rw [hx, ← hv i hi]; grind)
  intro k hk
  have h2 := this k hk
  rw [hx] at h2; grind
def sol (r m : Nat) (p : Nat → Nat) (B : Mx) : Nat → Rat := fun t => sm r (fun l => if t = p l then B l m else 0)
theorem RF.idp {p : Nat → Nat} (hi : ∀ a b, a < b → b < m → p a < p b) (hl : ∀ a, a < m → p a < m) : ∀ l, l < m → p l = l := by
  have h1 : ∀ l, l < m → l ≤ p l := by
    intro l
    induction l with
    | zero => intro _; omega
    | succ l ih => intro hl'; have := ih (by omega); have := hi l (l + 1) (by omega) hl'; omega
  have h2 : ∀ d l, l + d + 1 = m → p l ≤ l := by
    intro d
    induction d with
    | zero => intro l hl'; have := hl l (by omega); omega
    | succ d ih => intro l hl'; have := ih (l + 1) (by omega); have := hi l (l + 1) (by omega) (by omega); omega
  exact fun l hl' => Nat.le_antisymm (h2 (m - l - 1) l (by omega)) (h1 l hl')
theorem RF.only (hr : RO n (m + 1) A B f) (h : RF n m m p B) {v : Nat → Rat} (hv : ∀ i, i < n → A i m = sm m (fun t => A i t * v t)) : ∀ t, t < m → v t = sol m m p B t := by
  have hp := RF.idp h.inc h.lt
  intro t ht
  have h1 := h.zero_of hr hv t (by have := h.rn; omega)
  rw [sm_one ht (fun l hl hne => by
    have := h.unit t (by have := h.rn; omega) l hl
    rw [hp l hl, if_neg (fun e => hne e.symm)] at this; rw [this]; grind)] at h1
  have h2 := h.unit t (by have := h.rn; omega) t ht
  rw [hp t ht, if_pos rfl] at h2
  unfold sol
  rw [sm_one ht (fun l hl hne => by rw [hp l hl, if_neg (fun e => hne e.symm)]), hp t ht, if_pos rfl, h1, h2]; grind
end
end La
set_option linter.all false
namespace La
def fac : Nat → Nat
  | 0 => 1
  | n + 1 => (n + 1) * fac n
theorem sm_int {f : Nat → Rat} {B : Nat} : ∀ n, (∀ i, i < n → ∃ z : Int, f i = (z : Rat) ∧ z.natAbs ≤ B) → ∃ z : Int, sm n f = (z : Rat) ∧ z.natAbs ≤ n * B
  | 0, _ => ⟨0, by simp [sm], by simp⟩
  | n + 1, h => by
    obtain ⟨z, h1, h2⟩ := sm_int n (fun i hi => h i (by omega))
    obtain ⟨y, h3, h4⟩ := h n (by omega)
    exact ⟨z + y, by rw [sm, h1, h3, Rat.intCast_add], by rw [Nat.add_mul, Nat.one_mul]; omega⟩
def pN (N : Nat → Nat) : Nat → Nat
  | 0 => 1
  | n + 1 => N 0 * pN (fun j => N (j + 1)) n
theorem pN_const (N : Nat) : ∀ n, pN (fun _ => N) n = N ^ n
  | 0 => rfl
  | n + 1 => by rw [pN, pN_const N n, Nat.pow_succ, Nat.mul_comm]
theorem det_int : ∀ (n : Nat) (A : Mx) (N : Nat → Nat), (∀ i, i < n → ∀ j, j < n → ∃ z : Int, A i j = (z : Rat) ∧ z.natAbs ≤ N j) → ∃ z : Int, det n A = (z : Rat) ∧ z.natAbs ≤ fac n * pN N n
  | 0, _, _, _ => ⟨1, by simp [det], by simp [fac, pN]⟩
  | n + 1, A, N, h => by
    obtain ⟨z, h1, h2⟩ := sm_int (f := fun i => sg i * A i 0 * det n (mn i A)) (B := N 0 * (fac n * pN (fun j => N (j + 1)) n)) (n + 1) (fun i hi => by
      obtain ⟨x, x1, x2⟩ := h i hi 0 (by omega)
      obtain ⟨y, y1, y2⟩ := det_int n (mn i A) (fun j => N (j + 1)) (fun r hr c hc => h _ (sk_lt hr) _ (by omega))
      have hxy : (x * y).natAbs ≤ N 0 * (fac n * pN (fun j => N (j + 1)) n) := by rw [Int.natAbs_mul]; exact Nat.mul_le_mul x2 y2
      unfold sg
      by_cases e : i % 2 = 0
      · exact ⟨x * y, by rw [if_pos e, x1, y1, Rat.intCast_mul]; grind, hxy⟩
      · exact ⟨-(x * y), by rw [if_neg e, x1, y1, Rat.intCast_neg, Rat.intCast_mul]; grind, by rw [Int.natAbs_neg]; exact hxy⟩)
    refine ⟨z, h1, Nat.le_trans h2 (Nat.le_of_eq ?_)⟩
    rw [fac, pN, Nat.mul_assoc, Nat.mul_left_comm (N 0)]
theorem pow_ne {t : Rat} (ht : t ≠ 0) : ∀ n : Nat, t ^ n ≠ 0
  | 0 => by rw [Rat.pow_zero]; decide
  | n + 1 => by rw [Rat.pow_succ]; intro e; exact (Rat.mul_eq_zero.1 e).elim (pow_ne ht n) ht
theorem det_div (t : Rat) (ht : t ≠ 0) : ∀ (n : Nat) (A : Mx), det n (fun i j => A i j / t) = det n A / t ^ n
  | 0, _ => by simp [det]; grind
  | n + 1, A => by
    rw [det, det, show ∀ x : Rat, x / t ^ (n + 1) = (1 / t ^ (n + 1)) * x by intro x; grind, ← sm_mul]
    refine sm_congr fun i _ => ?_
    rw [show mn i (fun i j => A i j / t) = fun r c => mn i A r c / t from rfl, det_div t ht n]
    rw [Rat.pow_succ]
    have := pow_ne ht n
    grind
def uc (A : Mx) (k : Nat) (u : Nat → Rat) : Mx := fun i j => if j = k then u i else A i j
theorem uc_tr (A : Mx) (k : Nat) (u : Nat → Rat) : uc A k u = tr (ur (tr A) k u) := rfl
theorem det_uc_sum {n : Nat} {A : Mx} {k : Nat} (hk : k < n) (x : Nat → Rat) : ∀ m, m ≤ n → det n (uc A k (fun i => sm m (fun t => A i t * x t))) = if k < m then x k * det n A else 0
  | 0, _ => by
    rw [if_neg (by omega), uc_tr, det_transpose]
    exact det_zrow hk (fun j _ => by show (if k = k then sm 0 _ else _) = _; rw [if_pos rfl]; rfl)
  | m + 1, hm => by
    have ih := det_uc_sum (A := A) hk x m (by omega)
    rw [uc_tr, det_transpose] at ih ⊢
    rw [show (fun i => sm (m + 1) (fun t => A i t * x t)) = fun i => sm m (fun t => A i t * x t) + x m * A i m by funext i; rw [sm]; grind]
    rw [det_lin n (tr A) k _ (fun i => A i m) (x m) hk, ih]
    by_cases e : k = m
    · subst e
      rw [if_neg (Nat.lt_irrefl k), if_pos (by omega), show ur (tr A) k (fun i => A i k) = tr A from ur_self (tr A) k, det_transpose]; grind
    · rw [det_same (A := ur (tr A) k (fun i => A i m)) hk (by omega : m < n) e (fun j _ => by unfold ur tr; rw [if_pos rfl, if_neg (fun h => e h.symm)])]
      by_cases e2 : k < m
      · rw [if_pos e2, if_pos (by omega)]; grind
      · rw [if_neg e2, if_neg (by omega)]; grind
theorem cramer {n : Nat} {A : Mx} {b x : Nat → Rat} (h : ∀ i, i < n → b i = sm n (fun t => A i t * x t)) {k : Nat} (hk : k < n) : det n (uc A k b) = x k * det n A := by
  rw [det_congr (A := uc A k b) (B := uc A k (fun i => sm n (fun t => A i t * x t))) (fun i hi j _ => by unfold uc; rw [h i hi]), det_uc_sum hk x n (Nat.le_refl n), if_pos hk]
theorem RF.inverse {n : Nat} {p : Nat → Nat} {A B W Z : Mx} {f : Rat} (hr : RO n (n + n) W Z f) (h : RF n n n p Z) (hA : Eq2 n n W A) (hI : ∀ i, i < n → ∀ j, j < n → W i (n + j) = one i j) (hB : ∀ i, i < n → ∀ j, j < n → Z i (n + j) = B i j) :
    Eq2 n n (mul n B A) one ∧ Eq2 n n (mul n A B) one := by
  have hZ := h.full
  obtain ⟨E, hE⟩ := hr.mat
  have hEB : ∀ i, i < n → ∀ j, j < n → E i j = B i j := fun i hi j hj => by
    rw [← hB i hi j hj, hE i hi (n + j) (by omega)]
    rw [show mul n E W i (n + j) = mul n E one i j from sm_congr fun l hl => by rw [hI l hl j hj]]
    exact (mul_one hj).symm
  refine ⟨fun i hi j hj => ?_, fun i hi j hj => ?_⟩
  · rw [← hZ i hi j hj, hE i hi j (by omega)]
    exact sm_congr fun l hl => by rw [hEB i hi l hl, hA l hl j hj]
  · let x : Nat → Rat := fun t => if t < n then B t j else if t = n + j then -1 else 0
    have hx : ∀ D : Mx, ∀ i, sm (n + n) (fun t => D i t * x t) = sm n (fun t => D i t * B t j) - D i (n + j) := fun D i => by
      rw [sm_split]
      rw [sm_congr (n := n) (g := fun t => D i t * B t j) (fun t ht => by show _ * (if t < n then B t j else _) = _; rw [if_pos ht])]
      rw [sm_one (n := n) (k := j) (f := fun t => D i (n + t) * x (n + t)) hj (fun t ht hne => by
        show _ * (if n + t < n then _ else if n + t = n + j then -1 else 0) = 0
        rw [if_neg (by omega), if_neg (by omega)]; grind)]
      show _ + D i (n + j) * (if n + j < n then _ else if n + j = n + j then -1 else 0) = _
      rw [if_neg (by omega), if_pos rfl]; grind
    have h1 := (hr.ker x).2 (fun k hk => by
      rw [hx Z k, hB k hk j hj]
      rw [sm_one hk (fun t ht hne => by rw [hZ k hk t ht]; unfold one; rw [if_neg (fun e => hne e.symm)]; grind), hZ k hk k hk]
      unfold one; rw [if_pos rfl]; grind) i hi
    rw [hx W i, hI i hi j hj] at h1
    have h2 : mul n A B i j = sm n (fun t => W i t * B t j) := sm_congr fun t ht => by rw [hA i hi t ht]
    rw [h2]; grind
theorem inv_uniq {n : Nat} {A B C : Mx} (h1 : Eq2 n n (mul n C B) one) (h2 : Eq2 n n (mul n A B) one) (h3 : Eq2 n n (mul n B A) one) : Eq2 n n C A := fun i hi j hj => by
  rw [← mul_one (A := C) hj, show mul n C one i j = mul n C (mul n B A) i j from sm_congr fun l hl => by rw [h3 l hl j hj], ← mul_assoc]
  rw [show mul n (mul n C B) A i j = mul n one A i j from sm_congr fun l hl => by rw [h1 i hi l hl]]
  exact one_mul hi
end La
set_option linter.all false
namespace La
theorem sm_nonneg {f : Nat → Rat} : ∀ {n : Nat}, (∀ i, i < n → 0 ≤ f i) → 0 ≤ sm n f
  | 0, _ => by simp [sm]
  | n + 1, h => by have h1 := sm_nonneg (n := n) fun i hi => h i (by omega); have h2 := h n (by omega); simp only [sm]; grind
theorem sm_pos {f : Nat → Rat} {k : Nat} : ∀ {n : Nat}, (∀ i, i < n → 0 ≤ f i) → k < n → 0 < f k → 0 < sm n f
  | n + 1, h, hk, hp => by
    have h2 := h n (by omega)
    simp only [sm]
    by_cases e : k = n
    · subst e; have h1 := sm_nonneg (n := k) fun i hi => h i (by omega); grind
    · have h1 := sm_pos (n := n) (fun i hi => h i (by omega)) (by omega) hp; grind
theorem sm_cut {f : Nat → Rat} {k n : Nat} (hk : k ≤ n) (h : ∀ i, k ≤ i → i < n → f i = 0) : sm n f = sm k f := by
  obtain ⟨d, rfl⟩ : ∃ d, n = k + d := ⟨n - k, by omega⟩
  rw [sm_split, sm_zero (n := d) (fun i hi => h _ (by omega) (by omega))]; grind
theorem sq_nn (x : Rat) : 0 ≤ x * x := by
  rcases Rat.le_total (a := 0) (b := x) with h | h
  · exact Rat.mul_nonneg h h
  · have := Rat.mul_nonneg (show 0 ≤ -x by grind) (show 0 ≤ -x by grind); grind
theorem sq_pos {x : Rat} (h : x ≠ 0) : 0 < x * x := by
  have h1 := sq_nn x
  have h2 : x * x ≠ 0 := fun e => by rcases Rat.mul_eq_zero.1 e with e | e <;> contradiction
  grind
def qf (n : Nat) (A : Mx) (v : Nat → Rat) : Rat := sm n (fun i => v i * sm n (fun j => A i j * v j))
def PD (n : Nat) (A : Mx) : Prop := ∀ v : Nat → Rat, (∃ j, j < n ∧ v j ≠ 0) → 0 < qf n A v
theorem qf_congr {n : Nat} {A B : Mx} {v : Nat → Rat} (h : Eq2 n n A B) : qf n A v = qf n B v := sm_congr fun i hi => by rw [sm_congr fun j hj => by rw [h i hi j hj]]
theorem PD.congr {n : Nat} {A B : Mx} (h : PD n A) (e : Eq2 n n A B) : PD n B := fun v hv => by rw [← qf_congr e]; exact h v hv
theorem PD.lead {n k : Nat} {A : Mx} (h : PD n A) (hk : k ≤ n) : PD k A := by
  intro v ⟨j, hj, hv⟩
  have h1 := h (fun i => if i < k then v i else 0) ⟨j, by omega, by simpa [hj] using hv⟩
  have h2 : qf n A (fun i => if i < k then v i else 0) = qf k A v := by
    unfold qf
    rw [sm_cut hk (fun i h3 _ => by simp only [if_neg (by omega : ¬ i < k)]; grind)]
    refine sm_congr fun i hi => ?_
    simp only [if_pos hi]
    rw [sm_cut hk (fun i h3 _ => by simp only [if_neg (by omega : ¬ i < k)]; grind)]
    congr 1
    exact sm_congr fun l hl => by simp only [if_pos hl]
  rwa [h2] at h1
theorem PD.tail {n : Nat} {A : Mx} (h : PD (n + 1) A) : PD n (mn 0 A) := by
  intro v ⟨j, hj, hv⟩
  have h1 := h (fun i => if i = 0 then 0 else v (i - 1)) ⟨j + 1, by omega, by simpa using hv⟩
  have h2 : qf (n + 1) A (fun i => if i = 0 then 0 else v (i - 1)) = qf n (mn 0 A) v := by
    unfold qf
    rw [sm_first]
    simp only [if_true]
    rw [show ∀ x y : Rat, 0 * x + y = y by intros; grind]
    refine sm_congr fun i hi => ?_
    rw [sm_first]
    simp only [if_true, if_neg (Nat.succ_ne_zero _), Nat.add_sub_cancel]
    rw [show ∀ x y : Rat, x * 0 + y = y by intros; grind]
    congr 1
  rwa [h2] at h1
theorem PD.det_pos : ∀ {n : Nat} {A : Mx}, PD n A → 0 < det n A
  | 0, _, _ => by show (0 : Rat) < 1; decide
  | n + 1, A, h => by
    obtain ⟨v, hv, hz⟩ := ker n (n + 1) (fun i j => A (i + 1) j) (Nat.lt_succ_self n)
    have hq := h v hv
    obtain ⟨s, hs⟩ : ∃ s, sm (n + 1) (fun j => A 0 j * v j) = s := ⟨_, rfl⟩
    have h1 : qf (n + 1) A v = v 0 * s := by
      unfold qf
      rw [sm_first, hs, sm_zero (n := n) (fun i hi => by rw [hz i hi]; grind)]; grind
    have hc := cramer (n := n + 1) (A := A) (b := fun i => if i = 0 then s else 0) (x := v) (fun i hi => by
      by_cases e : i = 0
      · subst e; rw [if_pos rfl]; exact hs.symm
      · rw [if_neg e]
        obtain ⟨i, rfl⟩ : ∃ k, i = k + 1 := ⟨i - 1, by omega⟩
        exact (hz i (by omega)).symm) (k := 0) (by omega)
    have hd : det (n + 1) (uc A 0 fun i => if i = 0 then s else 0) = s * det n (mn 0 A) := by
      rw [det, sm_first, sm_zero (n := n) (fun i hi => by unfold uc; simp)]
      have e1 : mn 0 (uc A 0 fun i => if i = 0 then s else 0) = mn 0 A := by
        funext r c; unfold mn uc; rw [if_neg (by omega)]
      rw [e1]; unfold uc sg; simp; grind
    have ih := h.tail.det_pos
    rw [h1] at hq
    rw [hd] at hc
    have hv0 : v 0 ≠ 0 := fun e => by rw [e] at hq; grind
    have h3 := Rat.mul_pos hq ih
    have h4 : v 0 * v 0 * det (n + 1) A = v 0 * s * det n (mn 0 A) := by grind
    have h5 := sq_pos hv0
    have h6 : 0 < v 0 * v 0 * det (n + 1) A := by rw [h4]; exact h3
    refine Rat.not_le.1 fun hle => ?_
    have h7 := Rat.mul_nonneg (Rat.le_of_lt h5) (show 0 ≤ - det (n + 1) A by grind)
    grind
theorem qf_gram {n m : Nat} {A : Mx} {v : Nat → Rat} : qf m (mul n (tr A) A) v = sm n (fun l => sm m (fun j => A l j * v j) * sm m (fun j => A l j * v j)) := by
  let V : Mx := fun j _ => v j
  have h1 : qf m (mul n (tr A) A) v = mul m (tr V) (mul m (mul n (tr A) A) V) 0 0 := rfl
  rw [h1]
  rw [show mul m (tr V) (mul m (mul n (tr A) A) V) 0 0 = mul m (tr V) (mul n (tr A) (mul m A V)) 0 0 from sm_congr fun i _ => by rw [mul_assoc]]
  rw [← mul_assoc]
  refine sm_congr fun l _ => ?_
  show sm m (fun i => v i * A l i) * sm m (fun j => A l j * v j) = _
  rw [sm_congr (f := fun i => v i * A l i) (g := fun j => A l j * v j) fun i _ => Rat.mul_comm _ _]
theorem qf_gram_nn {n m : Nat} {A : Mx} {v : Nat → Rat} : 0 ≤ qf m (mul n (tr A) A) v := by rw [qf_gram]; exact sm_nonneg fun _ _ => sq_nn _
theorem Rk.inj {n m : Nat} {A : Mx} (h : Rk n m m A) {v : Nat → Rat} (hv : ∀ i, i < n → sm m (fun j => A i j * v j) = 0) : ∀ j, j < m → v j = 0 := by
  intro j0 hj0
  refine Classical.byContradiction fun hne => ?_
  obtain ⟨m, rfl⟩ : ∃ k, m = k + 1 := ⟨m - 1, by omega⟩
  obtain ⟨C, F, CL, FR, h⟩ := h
  have := h.le (s := m) (X := fun i l => A i (sk j0 l)) (Y := fun l j => if j = j0 then - (v (sk j0 l) / v j0) else if j = sk j0 l then 1 else 0) (fun i hi j hj => by
    show A i j = sm m _
    by_cases e : j = j0
    · subst e
      simp only [if_true]
      have h1 := hv i hi
      rw [sm_skip _ j m (by omega)] at h1
      rw [sm_congr (g := fun l => - (1 / v j) * (A i (sk j l) * v (sk j l))) (fun l _ => by grind), sm_mul]
      grind
    · rw [sm_one (k := if j < j0 then j else j - 1) (by split <;> omega) (fun l hl hne => by
        show A i (sk j0 l) * (if j = j0 then - (v (sk j0 l) / v j0) else if j = sk j0 l then 1 else 0) = 0
        rw [if_neg e, if_neg (by unfold sk; split at hne <;> split <;> omega)]; grind)]
      have : sk j0 (if j < j0 then j else j - 1) = j := by unfold sk; grind
      simp only [if_neg e, this, if_true]; grind)
  omega
theorem PD.gram {n m : Nat} {A : Mx} (h : Rk n m m A) : PD m (mul n (tr A) A) := by
  intro v ⟨j, hj, hv⟩
  rw [qf_gram]
  have : ∃ i, i < n ∧ sm m (fun j => A i j * v j) ≠ 0 := Classical.byContradiction fun hn => hv (h.inj (fun i hi => Classical.byContradiction fun h1 => hn ⟨i, hi, h1⟩) j hj)
  obtain ⟨i, hi, h1⟩ := this
  exact sm_pos (fun _ _ => sq_nn _) hi (sq_pos h1)
theorem inv_sym {m : Nat} {B G : Mx} (h1 : Eq2 m m (mul m B G) one) (h2 : Eq2 m m (mul m G B) one) (hs : ∀ i, i < m → ∀ j, j < m → G i j = G j i) : ∀ i, i < m → ∀ j, j < m → B i j = B j i := by
  have h3 : Eq2 m m (mul m (tr B) G) one := fun i hi j hj => by
    have h4 := h2 j hj i hi
    rw [tr_mul] at h4
    rw [show mul m (tr B) G i j = mul m (tr B) (tr G) i j from sm_congr fun l hl => by rw [hs l hl j hj]; rfl, h4]
    unfold one; simp only [eq_comm]
  intro i hi j hj
  exact inv_uniq h3 h1 h2 i hi j hj |>.symm
theorem PD.inv {m : Nat} {B G : Mx} (hG : PD m G) (h2 : Eq2 m m (mul m G B) one) : PD m B := by
  intro v ⟨j, hj, hv⟩
  let w : Nat → Rat := fun i => sm m (fun j => B i j * v j)
  have hw : ∀ i, i < m → sm m (fun j => G i j * w j) = v i := fun i hi => by
    have h3 : sm m (fun j => G i j * w j) = mul m (mul m G B) (fun j _ => v j) i 0 := by rw [mul_assoc]; rfl
    rw [h3, show mul m (mul m G B) (fun j _ => v j) i 0 = mul m one (fun j _ => v j) i 0 from sm_congr fun l hl => by rw [h2 i hi l hl], one_mul hi]
  have hne : ∃ i, i < m ∧ w i ≠ 0 := Classical.byContradiction fun hn => hv (by
    rw [← hw j hj]
    exact sm_zero fun i hi => by
      have : w i = 0 := Classical.byContradiction fun h => hn ⟨i, hi, h⟩
      rw [this]; grind)
  have h4 := hG w hne
  have h5 : qf m G w = qf m B v := sm_congr fun i hi => by rw [hw i hi, Rat.mul_comm]
  rwa [h5] at h4
theorem PD.apart {n r : Nat} {A : Mx} (h : PD n A) (hr : r < n) {e : Nat → Rat} (hz : ∀ j, j < r + 1 → A r j + sm r (fun t => e t * A t j) = 0) : False := by
  have h1 := h.lead (k := r + 1) (by omega) (fun t => if t = r then 1 else e t) ⟨r, by omega, by simp⟩
  have h2 : qf (r + 1) A (fun t => if t = r then 1 else e t) = 0 := by
    have h3 : qf (r + 1) A (fun t => if t = r then 1 else e t) = sm (r + 1) (fun j => sm (r + 1) (fun i => (if i = r then 1 else e i) * A i j) * (if j = r then 1 else e j)) := by
      unfold qf
      rw [sm_congr (g := fun i => sm (r + 1) (fun j => (if i = r then 1 else e i) * A i j * (if j = r then 1 else e j))) (fun i _ => by rw [← sm_mul]; exact sm_congr fun j _ => by grind), sm_swap]
      exact sm_congr fun j _ => by rw [sm_mulr]
    rw [h3]
    refine sm_zero fun j hj => ?_
    have h4 := hz j hj
    have h5 : sm (r + 1) (fun i => (if i = r then 1 else e i) * A i j) = 0 := by
      show sm r (fun i => (if i = r then 1 else e i) * A i j) + (if r = r then 1 else e r) * A r j = 0
      rw [sm_congr (n := r) (g := fun t => e t * A t j) (fun t ht => by rw [if_neg (by omega)]), if_pos rfl]; grind
    rw [h5]; grind
  rw [h2] at h1; grind
end La
