/- Part of the proof that all functions of the layer agree with the reference implementation. -/
import Derived.Test.YtdmhligiipjchaaGreatDoorLin20
import Derived.Test.YtdmhligiipjchaaGreatDoorEngH
set_option linter.all false
namespace Go.Proofs.YtdmhligiipjchaaGreatDoor
open Go Go.Eng Go.RowKit
attribute [local irreducible] wpListIn Code.wpIn Oper.wpIn Exit.then Exit.inBlock Exit.noGoto
set_option maxHeartbeats 40000000
def oN (n : Nat) (o : Option Rows) : Nat := if o.isSome then n else 0
def oR (o : Option Rows) : Rows := o.getD nilR
def oV (o : Option (List R × Bool)) : List R := (o.map (·.1)).getD []
def oB (o : Option (List R × Bool)) : Bool := (o.map (·.2)).getD false
theorem OutM.get {lo n : Nat} {w : World} {o : Option Rows} {v : Value} (h : OutM lo w n o v) :
    ∃ A C H, v = .tuple #[.slice A (oN n o) C, .int .i64 (erI o.isSome)] ∧ Mt w lo A (oN n o) H (oR o) := by
  cases o with
  | none =>
    obtain ⟨A, C, H, e, _, m⟩ := @matR_nil lo w nilR
    cases e; cases h
    exact ⟨none, 0, H, rfl, m⟩
  | some K => obtain ⟨u, rfl, A, C, H, rfl, _, m⟩ := h; exact ⟨A, C, H, rfl, m⟩
theorem OutV.get {lo : Nat} {w : World} {o : Option (List R × Bool)} {v : Value} (h : OutV lo w o v) :
    ∃ P cp, v = .tuple #[.slice P (oV o).length cp, .bool (oB o), .int .i64 (erI o.isSome)] ∧ Rw w lo P (cellsR (oV o)) := by
  cases o with
  | none => cases h; exact ⟨none, 0, rfl, Rw.nil w lo⟩
  | some x => obtain ⟨x, q⟩ := x; exact h
theorem bd_ok {n m : Nat} {L : Rows} (h : OkL n m L) (hn : n ≤ 1000000) (hm : m ≤ 1000000) : Bd n L := ⟨hn, fun i hi => ⟨by rw [(h i hi).1]; exact hm, fun k hk => lenR_ok ((h i hi).2 k (by rw [← (h i hi).1]; exact hk))⟩⟩
theorem bd_nil {L : Rows} : Bd 0 L := ⟨by omega, fun i hi => by omega⟩
theorem rAt_dropR {l : List R} {n k : Nat} : rAt (l.drop n) k = rAt l (n + k) := by unfold rAt; simp [List.getD, List.getElem?_drop]
theorem invS_bd {n : Nat} {L : Rows} : Bd (oN n (invS n L)) (oR (invS n L)) := by
  cases e : invS n L with
  | none => exact bd_nil
  | some K =>
    unfold invS at e
    split at e
    · rename_i hs
      obtain ⟨hv, hn⟩ := sqB_T hs
      have hb := besU_ok hv
      rw [← hn] at hb
      cases he : elim n (n + n) n (besU n L) with
      | none => rw [he] at e; cases e
      | some s =>
        rw [he] at e
        simp only [Option.bind_some, invE] at e
        split at e
        · cases e
        · cases e
          have ho := (elim_okL hb om he).1
          have h8 := hv.2.1
          exact bd_ok (n := n) (m := n) (fun i hi => ⟨by simp [oR, (ho i hi).1], fun k hk => by simp only [oR, Option.getD_some]; rw [rAt_dropR]; exact (ho i hi).2 (n + k) om⟩) om om
    · cases e
theorem rowL_ok {a : List R} {B : Rows} : ∀ {f j : Nat} {l l' : List R}, rowL a B f j l = some l' → (∀ k, k < l.length → okR (rAt l k) = true) → l'.length = l.length + f ∧ ∀ k, k < l'.length → okR (rAt l' k) = true
  | 0, _, _, _, h, hl => by cases h; exact ⟨rfl, hl⟩
  | f + 1, j, l, l', h, hl => by
    unfold rowL at h
    cases h1 : dotL a B j a.length 0 z0 with
    | none => rw [h1] at h; cases h
    | some s =>
      rw [h1] at h
      have := rowL_ok h (fun k hk => rAt_snoc (P := fun q => okR q = true) (k := l.length) rfl hl (okR_dot okz h1) k (by simpa using hk))
      exact ⟨by rw [this.1]; simp; omega, this.2⟩
theorem matL_ok {L B : Rows} {p : Nat} : ∀ {f i : Nat} {K K' : Rows}, matL L B p f i K = some K' → (∀ x, x < i → (K x).length = p ∧ ∀ k, k < p → okR (rAt (K x) k) = true) → OkL (i + f) p K'
  | 0, _, _, _, h, hl => by cases h; exact hl
  | f + 1, i, K, K', h, hl => by
    unfold matL at h
    cases h1 : rowL (L i) B p 0 [] with
    | none => rw [h1] at h; cases h
    | some l =>
      rw [h1] at h
      have hr := rowL_ok h1 (fun k hk => by simp at hk)
      have := matL_ok h (fun x hx => by
        by_cases e : x = i
        · subst e; rw [updF_eq]; exact ⟨by simpa using hr.1, fun k hk => hr.2 k (by rw [hr.1]; simpa using hk)⟩
        · rw [updF_ne _ _ e]; exact hl x om)
      rwa [show i + 1 + f = i + (f + 1) by omega] at this
theorem mulS_bd {n m : Nat} {L B : Rows} : Bd (oN n (mulS n L m B)) (oR (mulS n L m B)) := by
  cases e : mulS n L m B with
  | none => exact bd_nil
  | some K =>
    unfold mulS at e
    split at e
    · rename_i hs
      have h1 := vM_T hs.1
      have h2 := vM_T hs.2.1
      have := matL_ok (show matL L B (B 0).length n 0 nilR = some K from e) (fun x hx => by omega)
      rw [Nat.zero_add] at this
      have a := h1.2.1
      have b := h2.2.2.2.1
      exact bd_ok (n := n) this om om
    · cases e
theorem tr_bd {n : Nat} {L : Rows} : Bd (if vM n L = true then (L 0).length else 0) (fun j => trR L n j) := by
  split
  · rename_i h
    have hv := vM_T h
    have a := hv.2.1
    have b := hv.2.2.2.1
    exact bd_ok (m := n) (fun i hi => ⟨trR_len _ _ _, fun k hk => by rw [trR_at _ _ hk]; exact (hv.ok k hk).2 i hi⟩) om om
  · exact bd_nil
theorem solF_len {cols : List Nat} {L : Rows} {m : Nat} : ∀ {f i : Nat} {x : List R}, (solF cols L m f i x).length = x.length
  | 0, _, _ => rfl
  | f + 1, i, x => by unfold solF; rw [solF_len]; simp
theorem solS_len {n : Nat} {L : Rows} {b : List R} : (oV (solS n L b)).length ≤ 1000000 := by
  cases e : solS n L b with
  | none => simp [oV]
  | some x =>
    unfold solS at e
    split at e
    · rename_i hs
      have hv := (vM_T hs.1).2.2.2.1
      cases he : elim n ((L 0).length + 1) (L 0).length (besC L b) with
      | none => rw [he] at e; cases e
      | some s =>
        rw [he] at e
        simp only [Option.bind_some, solE] at e
        split at e
        · cases e
        · cases e
          simp only [oV, Option.map_some, Option.getD_some, solF_len, zs, List.length_replicate]
          omega
    · cases e
section
variable {A B : Option Addr} {C D n m lo lo2 : Nat} {H G : Nat → Value} {L K : Rows} {w : World} {xs : List R}
theorem same_self (hM : Mt w lo A n H L) (hN : Mt w lo2 B n G L) (hB : Bd n L) : Calls Tryz.prog 20 #[.slice A n C, .slice B n D] w (Ret w fun v w' => v = .bool true) := by
  have h := same_ok (C := C) (D := D) hM hN hB
  have e : decide (SameM n L n L) = true := decide_eq_true ⟨rfl, fun _ _ => rfl⟩
  rwa [e] at h
theorem srow_self (hx : Rw w lo A (cellsR xs)) (hy : Rw w lo2 B (cellsR xs)) (hn : xs.length ≤ 1000000) : Calls Tryz.prog 26 #[.slice A xs.length C, .slice B xs.length D] w (Ret w fun v w' => v = .bool true) := by
  have h := srow_ok (C := C) (D := D) hx hy hn
  rwa [decide_eq_true rfl] at h
end
def GoodV (W : World) (hi : Nat) (v : Value) : Prop := ∃ A C H n L, v = .slice A n C ∧ n ≤ C ∧ Few n L ∧ MtU W 0 hi A n H L
structure FamU (W : World) (hi : Nat) (A : Option Addr) (vs : List Value) : Prop where
  rw : RwU W 0 hi A vs
  good : ∀ i, i < vs.length → GoodV W hi (vs.getD i .nilIface)
section
variable {W W' : World} {hi hi' b n : Nat} {A : Option Addr} {vs : List Value} {v : Value}
theorem GoodV.ext (k : Ext W W') (h : GoodV W hi v) : GoodV W' hi v := by obtain ⟨A, C, H, n, L, e, c, f, m⟩ := h; exact ⟨A, C, H, n, L, e, c, f, m.ext k⟩
theorem GoodV.put (k : Put W W' b) (hb : b < 0 ∨ hi ≤ b) (h : GoodV W hi v) : GoodV W' hi v := by obtain ⟨A, C, H, n, L, e, c, f, m⟩ := h; exact ⟨A, C, H, n, L, e, c, f, m.put k hb⟩
theorem GoodV.up (hh : hi ≤ hi') (h : GoodV W hi v) : GoodV W hi' v := by
  obtain ⟨A, C, H, n, L, e, c, f, m⟩ := h
  exact ⟨A, C, H, n, L, e, c, f, ⟨m.mt, fun ad h => Nat.lt_of_lt_of_le (m.o ad h) hh, fun i hi ad h => Nat.lt_of_lt_of_le (m.r i hi ad h) hh⟩⟩
theorem FamU.ext (k : Ext W W') (h : FamU W hi A vs) : FamU W' hi A vs := ⟨h.rw.ext k, fun i hi => (h.good i hi).ext k⟩
theorem FamU.put (k : Put W W' b) (hb : b < 0 ∨ hi ≤ b) (h : FamU W hi A vs) : FamU W' hi A vs := ⟨h.rw.put k hb, fun i hi => (h.good i hi).put k hb⟩
theorem rw_val {lo i : Nat} (h : Rw W lo A vs) (hi : i < vs.length) : A = some ⟨bkOf A, ofOf A, none⟩ ∧ W.cell? ⟨bkOf A, ofOf A + i, none⟩ = some (vs.getD i .nilIface) :=
  rw_at h (by simp [List.getD, hi])
theorem fam_four {lo C : Nat} {v0 v1 v2 v3 : Value} (ho : W.ownsRow lo 22 1 (.slice A 4 C) 4 [v0, v1, v2, v3]) (h0 : GoodV W hi v0) (h1 : GoodV W hi v1) (h2 : GoodV W hi v2) (h3 : GoodV W hi v3) (hh : hi ≤ W.heap.size) :
    ∃ vs : List Value, vs.length = 4 ∧ FamU W W.heap.size A vs := by
  refine ⟨[v0, v1, v2, v3], rfl, ⟨⟨(Rw.of_own ho).mono (Nat.zero_le _), (Rw.of_own ho).hi⟩, fun i hi => ?_⟩⟩
  match i, hi with
  | 0, _ => exact h0.up hh
  | 1, _ => exact h1.up hh
  | 2, _ => exact h2.up hh
  | 3, _ => exact h3.up hh
end
def two {α : Type} (a b : α) : Nat → α := fun i => if i = 0 then a else b
theorem mt_two {W : World} {lo lo0 lo1 C c0 c1 : Nat} {A P0 P1 : Option Addr} {l0 l1 : List R} (ho : W.ownsRow lo 23 1 (.slice A 2 C) 2 [.slice P0 l0.length c0, .slice P1 l1.length c1])
    (h0 : Rw W lo0 P0 (cellsR l0)) (h1 : Rw W lo1 P1 (cellsR l1)) (k0 : l0.length ≤ c0) (k1 : l1.length ≤ c1) :
    MtU W 0 W.heap.size A 2 (two (.slice P0 l0.length c0) (.slice P1 l1.length c1)) (two l0 l1) := by
  refine MtU.of ⟨(Rw.of_own ho).mono (Nat.zero_le _), fun i hi => ?_, fun i hi => ?_, fun i hi => ?_⟩ <;> match i, hi with
  | 0, _ => first | rfl | exact h0.mono (Nat.zero_le _) | exact k0
  | 1, _ => first | rfl | exact h1.mono (Nat.zero_le _) | exact k1
theorem two_fewV {l0 l1 : List R} (h0 : FewV l0) (h1 : FewV l1) (k : Nat) : FewV (two l0 l1 k) := by unfold two; split <;> assumption
theorem fewV_ok {l : List R} {n : Nat} (hn : n ≤ 9) (hl : l.length = n) (h : ∀ k, k < n → okR (rAt l k) = true) : FewV l := ⟨by omega, fun k hk => lenR_ok (h k om)⟩
theorem MatR.get {lo n : Nat} {w : World} {v : Value} {L : Rows} (h : MatR lo w v n L) : ∃ A C H, v = .slice A n C ∧ n ≤ C ∧ Mt w lo A n H L := h
set_option maxRecDepth 100000 in
theorem square_ok {x0 : Int} {lo CX : Nat} {X : Option Addr} {xs : List Int} {w : World} (hx0 : In64 x0) (hx : Rw w lo X (intZ xs)) (hz : ∀ z ∈ xs, In64 z) (hxl : xs.length ≤ 9223372036854775807) :
    Calls Tryz.prog 9 #[.int .i64 (x0), .slice (X) (xs.length) (CX)] w (Ret w fun v w' => ∃ n m L, MatR w.heap.size w' v n L ∧ (1 ≤ n ∧ n ≤ 5) ∧ (1 ≤ m ∧ m ≤ 5) ∧ MakeR n m L) := by
 refine f_in Tryz.func9 rfl ?_;refine go ?_;refine clb en34 (hc := pickL_ok x0 4 _ hx0 om) (hk := ?_);rintro aw ax ai rfl;have aa := ai.2;have ay := pick_bd x0 4 om;refine go ?_;refine clb en8 (hc := make13_ok (by unfold In64; omega) (by unfold In64; omega) (hx.ext aa) hz hxl) (hk := ?_);rintro az a7 aj ak;have aa := xt aa aj.2;obtain ⟨ab, am, ao, ⟨ae, ag, a8, rfl, ap, aq⟩, ar, au, ah⟩ := ak;have bc := ah.few om om;have av := MtU.of aq;refine go ?_;exact f_ret1 (t := 4) (v := .slice (ae) (ab) (ag)) rfl aa ⟨ab, am, ao, ⟨_, _, _, rfl, ap, (av).mt.mono om⟩, ar, au, ah⟩ rfl
end Go.Proofs.YtdmhligiipjchaaGreatDoor
