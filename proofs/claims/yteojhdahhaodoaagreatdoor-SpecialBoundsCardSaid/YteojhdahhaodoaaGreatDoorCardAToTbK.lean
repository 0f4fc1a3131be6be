/- Part of the proof of a statement about the special functions. -/
import Derived.Test.YteojhdahhaodoaaGreatDoorLaw3
import Derived.Test.YteojhdahhaodoaaGreatDoorTie
import Derived.Test.YteojhdahhaodoaaGreatDoorCards
import Derived.ProofKit
import Derived.OpenShut
import Derived.LaidMore
import Derived.Lay
import Derived.SevenTiedAt
import Derived.Stop.Joined
import Derived.Deep.SlicePairs
import Derived.Deep.Frames
import Derived.Deep.Onto
import Derived.WideKeyArgs
import Derived.SizedLaws
import Derived.Test.YteojhdahhaodoaaGreatDoorSp9ToSp14
set_option linter.all false
namespace Go.Proofs.YteojhdahhaodoaaGreatDoor
open Go Go.ChangeShapes Go.WideShapes Go.ChangeAt Go.RowKit Go.Deep Go.Eng
theorem cOwn : ownKnob Tryz.prog.godebug = none := by kernel_rfl
theorem cLaid : laidOutB Tryz.prog = true := by kernel_rfl
theorem c3 : Tryz.prog.cellsOf 3 = 1 := by kernel_rfl
theorem c88 : Tryz.prog.cellsOf 22 = 2 := by kernel_rfl
theorem add_cell {W : World} {b o i : Nat} : W.cell? ((⟨b, o, none⟩ : Addr).add i) = W.cell? ⟨b, o + i, none⟩ := by unfold Addr.add; split <;> simp_all
theorem gPow : Tryz.prog.globalNamed "internal/strconv.uint64pow10" = some 4 := by kernel_rfl
theorem tPow : (Tryz.prog.globals[4]?).map (·.type) = some 206 := by kernel_rfl
theorem zPow0 : (((begin Tryz.prog (fun _ _ => 0) default).world.heap[4]?).bind Obj.row?).map (·.2) = some 206 := by kernel_rfl
theorem zPow : ∃ z, (((begin Tryz.prog (fun _ _ => 0) default).world.heap[4]?).bind Obj.row?) = some (z, 206) := by
  obtain ⟨⟨z, t⟩, h, e⟩ := Option.map_eq_some_iff.1 zPow0
  cases e; exact ⟨z, h⟩
theorem nPow : 4 < Tryz.prog.globals.size := of_decide_eq_true (by kernel_rfl)
theorem lPow : Rows.laid_internal_strconv_uint64pow10 = (.agg (Lib.pow10Tab.map fun z => DataW.lit (.int .u64 z)) : DataW Unit) := by kernel_rfl
theorem cU : Tryz.prog.cellsOf 157 = 1 := by kernel_rfl
theorem uU : Tryz.prog.underlying 157 = some (.int .u64) := by kernel_rfl
theorem cA : Tryz.prog.cellsOf 206 = 20 := by kernel_rfl
theorem kPow : Lib.pow10Tab.length = 20 := by kernel_rfl
theorem trod_cons {H : Type} {enc : TypeId × Value → H} {P : Program} {w : World} {base : Nat} {sp : Nat → Bool} {hd : Bool} {t : TypeId} {ts : List TypeId} {vs : List Value} {ds : List (DataW H)} {ps : List MemPlace}
    (h : DataW.TrodAll enc P w base sp hd (t :: ts) vs ds ps) : ∃ v vs' d ds' p q, vs = v :: vs' ∧ ds = d :: ds' ∧ DataW.Trod enc P w base sp hd t v d p ∧ DataW.TrodAll enc P w base sp hd ts vs' ds' q := by
  match vs, ds, h with
  | v :: vs', d :: ds', h =>
    obtain ⟨p, q, h1, h2, _⟩ := h
    exact ⟨v, vs', d, ds', p, q, rfl, rfl, h1, h2⟩
theorem trod_end {H : Type} {enc : TypeId × Value → H} {P : Program} {w : World} {base : Nat} {sp : Nat → Bool} {hd : Bool} {vs : List Value} {ds : List (DataW H)} {ps : List MemPlace}
    (h : DataW.TrodAll enc P w base sp hd [] vs ds ps) : vs = [] ∧ ds = [] := by
  match vs, ds, h with
  | [], [], _ => exact ⟨rfl, rfl⟩
theorem all_again {H : Type} {enc : TypeId × Value → H} {W W' : World} {sp' : Nat → Bool} (k : Ext W W') : ∀ {ts : List TypeId} {vs : List Value} {ds : List (DataW H)} {ps : List MemPlace},
    (∀ t ∈ ts, Tryz.prog.readableRec t = true ∧ t < Tryz.prog.types.size) → DataW.TrodAll enc Tryz.prog W 0 (fun _ => true) true ts vs ds ps → (∀ p ∈ ps, p.block < W.heap.size) → (∀ p ∈ ps, sp' p.block = true) → DataW.TrodAll enc Tryz.prog W' 0 sp' true ts vs ds ps
  | [], [], [], _, _, h, _, _ => h
  | t :: ts, v :: vs, d :: ds, ps, hr, h, hl, hs => by
    obtain ⟨p, q, h1, h2, rfl⟩ := h
    refine ⟨p, q, WideElems.Trod_stays cLaid (hr t (by simp)).1 (hr t (by simp)).2 h1 (fun x hx => ?_) (fun x hx => hs x (by simp [hx])), all_again k (fun u hu => hr u (by simp [hu])) h2 (fun x hx => hl x (by simp [hx])) (fun x hx => hs x (by simp [hx])), rfl⟩
    have hb := hl x (by simp [hx])
    cases x with
    | cell b o => exact World.cell?_of_block (k.block b hb)
    | map b => exact k.block b hb
  | [], [], _ :: _, _, _, h, _, _ => h.elim
  | [], _ :: _, _, _, _, h, _, _ => h.elim
  | _ :: _, [], _, _, _, h, _, _ => h.elim
  | _ :: _, _ :: _, [], _, _, h, _, _ => h.elim
theorem wf64 {n : Int} (h : (Lit.int .i64 n).wf = true) : In64 n := by
  simp only [Lit.wf, Bool.and_eq_true, decide_eq_true_eq] at h
  have e1 : IntKind.i64.min = -9223372036854775808 := rfl
  have e2 : IntKind.i64.max = 9223372036854775807 := rfl
  rw [e1, e2] at h
  unfold In64; omega
section
variable {H : Type} {enc : TypeId × Value → H} {W : World} {base fuel b0 : Nat} {x : DataW H × List MemPlace}
set_option maxRecDepth 100000 in
theorem pair_of {v : Value} (hv : Value.okWide Tryz.prog W .any b0 22 v) (h : DataW.trod enc Tryz.prog W base (fun _ => true) true fuel 22 v.cells.toList = some x) :
    ∃ a b : Int, v = .agg #[.int .i64 a, .int .i64 b] ∧ In64 a ∧ In64 b := by
  unfold Value.okWide at hv
  rw [Tryz.underlying22] at hv
  obtain ⟨cs, rfl, hs, _⟩ := hv
  rw [c88] at hs
  obtain ⟨xs, m, _, _, _, hl, hx⟩ := DataW.trod_array Tryz.underlying22 h
  obtain ⟨l⟩ := cs
  match l, hs with
  | [u, v], _ =>
    have h0 := hx 0 (by decide)
    have h1 := hx 1 (by decide)
    rw [c3] at h0 h1
    rw [List.getElem?_eq_getElem (show 0 < xs.length by omega)] at h0
    rw [List.getElem?_eq_getElem (show 1 < xs.length by omega)] at h1
    obtain ⟨a, ea, _, wa⟩ := DataW.trod_int Tryz.underlying3 h0
    obtain ⟨b, eb, _, wb⟩ := DataW.trod_int Tryz.underlying3 h1
    have ea : u = .int .i64 a := by simpa [Value.cells] using ea
    have eb : v = .int .i64 b := by simpa [Value.cells] using eb
    exact ⟨a, b, by rw [ea, eb], wf64 wa, wf64 wb⟩
end
end Go.Proofs.YteojhdahhaodoaaGreatDoor
namespace Go.Proofs.YteojhdahhaodoaaGreatDoor
open Go Go.Eng Go.RowKit
def fz (v : Nat) (k : Nat → Bool) : Bool := Nat.rec (motive := fun _ => Bool) (k 0) (fun m _ => k (Nat.succ m)) v
theorem fz_eq (v : Nat) (k : Nat → Bool) : fz v k = k v := by cases v <;> rfl
def bdK (a b : Nat) : Bool := and (Nat.ble a 99999999999999999999999999999999999999999999999999999999999999999999999999999999999999999999999) (Nat.ble b 99999999999999999999999999999999999999999999999999999999999999999999999999999999999999999999999)
theorem bdK_ok {a b : Nat} (h : bdK a b = true) : bdB (a, b) = true := by
  unfold bdK at h
  simp only [Bool.and_eq_true, Nat.ble_eq] at h
  unfold bdB
  simp only [Bool.and_eq_true, decide_eq_true_eq]
  omega
theorem cond_t {c x y : Bool} : cond c x y = true → (c = true ∧ x = true) ∨ (c = false ∧ y = true) := by cases c <;> simp
theorem upn_eq {a b : Nat} (hb : 0 < b) : upn a b = (a + (b - 1)) / b := by
  unfold upn
  have h1 := Nat.div_add_mod a b
  have h2 := Nat.mod_lt a hb
  split
  · rename_i h
    rw [h, Nat.add_zero] at h1
    symm
    rw [Nat.div_eq_iff hb]
    rw [Nat.mul_comm]
    omega
  · rename_i h
    symm
    rw [Nat.div_eq_iff hb, Nat.add_mul, Nat.mul_comm (a / b) b]
    omega
def sumK (g h : Nat → Nat → Nat) (K : Nat → Nat → Bool) (f : Nat) : Nat → Nat → Nat → Nat → Nat → Nat → Bool :=
  Nat.rec (motive := fun _ => Nat → Nat → Nat → Nat → Nat → Nat → Bool) (fun _ _ _ _ _ _ => false)
    (fun _ ih n t1 t2 a1 a2 l => cond (bdK t1 t2) (cond (and (Nat.ble t2 2) (and (Nat.ble 2 n) (Nat.ble (Nat.mul t2 2) (Nat.add l 2))))
      (K (Nat.add a1 t1) (Nat.add (Nat.add a2 t2) (Nat.add t2 4)))
      (fz (g n t1) fun u1 => fz (h n t2) fun u2 => fz (Nat.add a1 t1) fun c1 => fz (Nat.add a2 t2) fun c2 => fz (Nat.succ n) fun n' => ih n' u1 u2 c1 c2 t2)) false) f
theorem sumK_ok {nx : Nat → N2 → N2} {g h : Nat → Nat → Nat} {K : Nat → Nat → Bool} (hg : ∀ n t, 1 ≤ n → nx n t = (g n t.1, h n t.2)) : ∀ {f F n t1 t2 a1 a2 l : Nat}, f ≤ F → 1 ≤ n → sumK g h K f n t1 t2 a1 a2 l = true → ∃ r, sumF nx F n (t1, t2) (a1, a2) l = some r ∧ K r.1 r.2 = true
  | 0, _, _, _, _, _, _, _, _, _, hk => by cases hk
  | f + 1, F, n, t1, t2, a1, a2, l, hF, hn, hk => by
    obtain ⟨G, rfl⟩ : ∃ G, F = G + 1 := ⟨F - 1, by omega⟩
    change cond _ (cond _ _ _) false = true at hk
    rcases cond_t hk with ⟨hb, hk⟩ | ⟨_, hk⟩
    · unfold sumF
      rw [if_pos (bdK_ok hb)]
      rcases cond_t hk with ⟨hs, hk⟩ | ⟨hs, hk⟩
      · simp only [Bool.and_eq_true, Nat.ble_eq] at hs
        rw [if_pos ⟨hs.2.1, hs.1, hs.2.2⟩]
        exact ⟨_, rfl, hk⟩
      · have hs' : ¬ (2 ≤ n ∧ t2 ≤ 2 ∧ t2 * 2 ≤ l + 2) := fun hc => by
          have : and (Nat.ble t2 2) (and (Nat.ble 2 n) (Nat.ble (Nat.mul t2 2) (Nat.add l 2))) = true := by
            simp only [Bool.and_eq_true, Nat.ble_eq]; exact ⟨hc.2.1, hc.1, hc.2.2⟩
          rw [this] at hs; cases hs
        rw [if_neg hs', hg n _ hn]
        rw [fz_eq, fz_eq, fz_eq, fz_eq, fz_eq] at hk
        have hk' : sumK g h K f (n + 1) (g n t1) (h n t2) (a1 + t1) (a2 + t2) t2 = true := hk
        exact sumK_ok hg (by omega) (by omega) hk'
    · cases hk
theorem sumK_p {nx : Nat → N2 → N2} {g h : Nat → Nat → Nat} {K : Nat → Nat → Bool} {f t1 t2 : Nat} (hg : ∀ n t, 1 ≤ n → nx n t = (g n t.1, h n t.2)) (hf : f ≤ 1000) (hk : sumK g h K f 1 t1 t2 0 0 0 = true) : ∃ r, sumP nx (t1, t2) = some r ∧ K r.1 r.2 = true :=
  sumK_ok hg hf (Nat.le_refl 1) hk
def sqK (S S1 : Nat) (K : Nat → Nat → Bool) (h : Nat) : Nat → Nat → Bool :=
  Nat.rec (motive := fun _ => Nat → Nat → Bool) (fun a b => cond (bdK a b) (K a b) false) (fun _ ih a b => cond (bdK a b) (fz (Nat.div (Nat.mul a a) S) fun u => fz (Nat.div (Nat.add (Nat.mul b b) S1) S) fun v => ih u v) false) h
theorem sqK_ok {S S1 : Nat} {K : Nat → Nat → Bool} (hS : 0 < S) (h1 : S1 = S - 1) : ∀ {h a b : Nat}, sqK S S1 K h a b = true → ∃ r, sqF S h (a, b) = some r ∧ K r.1 r.2 = true
  | 0, a, b, hk => by
    change cond _ _ _ = true at hk
    rcases cond_t hk with ⟨hb, hk⟩ | ⟨_, hk⟩
    · unfold sqF; rw [if_pos (bdK_ok hb)]; exact ⟨_, rfl, hk⟩
    · cases hk
  | h + 1, a, b, hk => by
    change cond _ _ _ = true at hk
    rcases cond_t hk with ⟨hb, hk⟩ | ⟨_, hk⟩
    · unfold sqF; rw [if_pos (bdK_ok hb)]
      rw [fz_eq, fz_eq] at hk
      have hk' : sqK S S1 K h (Nat.div (Nat.mul a a) S) (Nat.div (Nat.add (Nat.mul b b) S1) S) = true := hk
      have h2 := sqK_ok hS h1 hk'
      rw [show tmP S (a, b) (a, b) = (Nat.div (Nat.mul a a) S, Nat.div (Nat.add (Nat.mul b b) S1) S) by unfold tmP; rw [upn_eq hS, h1]; rfl]
      exact h2
    · cases hk
def halfK (S : Nat) (K : Nat → Nat → Nat → Bool) (f : Nat) : Nat → Nat → Nat → Bool :=
  Nat.rec (motive := fun _ => Nat → Nat → Nat → Bool) (fun _ _ _ => false) (fun _ ih a b h => cond (Nat.ble (Nat.mul b 2) S) (K a b h) (fz (Nat.div a 2) fun u => fz (Nat.div (Nat.add b 1) 2) fun v => fz (Nat.succ h) fun i => ih u v i)) f
theorem halfK_ok {S : Nat} {K : Nat → Nat → Nat → Bool} : ∀ {f F a b h : Nat}, f ≤ F → halfK S K f a b h = true → ∃ p, halfF S F (a, b) h = some p ∧ K p.1.1 p.1.2 p.2 = true
  | 0, _, _, _, _, _, hk => by cases hk
  | f + 1, F, a, b, h, hF, hk => by
    obtain ⟨G, rfl⟩ : ∃ G, F = G + 1 := ⟨F - 1, by omega⟩
    change cond _ _ _ = true at hk
    unfold halfF
    rcases cond_t hk with ⟨hb, hk⟩ | ⟨hb, hk⟩
    · have : b * 2 ≤ S := by simpa using hb
      rw [if_neg (by simp only; omega)]; exact ⟨_, rfl, hk⟩
    · have : ¬ b * 2 ≤ S := fun hc => by rw [show Nat.ble (Nat.mul b 2) S = true from Nat.ble_eq_true_of_le hc] at hb; cases hb
      rw [if_pos (by simp only; omega)]
      rw [fz_eq, fz_eq, fz_eq] at hk
      have hk' : halfK S K f (Nat.div a 2) (Nat.div (Nat.add b 1) 2) (h + 1) = true := hk
      have h2 := halfK_ok (F := G) (by omega) hk'
      rw [show byP (a, b) 1 2 = (Nat.div a 2, Nat.div (Nat.add b 1) 2) by unfold byP; rw [upn_eq (by decide), Nat.mul_one, Nat.mul_one]; rfl]
      exact h2
def expK (S S1 : Nat) (K : Nat → Nat → Bool) (a b : Nat) : Bool :=
  cond (bdK a b) (halfK S (fun y1 y2 h => sumK (fun n t => Nat.div (Nat.div (Nat.mul t y1) S) n) (fun n t => Nat.div (Nat.add (Nat.div (Nat.add (Nat.mul t y2) S1) S) (Nat.pred n)) n) (sqK S S1 K h) 100 1 S S 0 0 0) 60 a b 0) false
theorem expK_ok {S S1 a b : Nat} {K : Nat → Nat → Bool} (hS : 0 < S) (h1 : S1 = S - 1) (hk : expK S S1 K a b = true) : ∃ r, expP S (a, b) = some r ∧ K r.1 r.2 = true := by
  unfold expK at hk
  rcases cond_t hk with ⟨hb, hk⟩ | ⟨_, hk⟩
  · obtain ⟨p, hp, hk⟩ := halfK_ok (F := 200) (by decide) hk
    obtain ⟨s, hs, hk⟩ := sumK_p (nx := expN S p.1) (fun n t hn => by
      unfold expN byP tmP
      simp only [Nat.mul_one]
      rw [upn_eq hS, upn_eq (by omega), h1]; rfl) (by decide) hk
    obtain ⟨r, hr, hk⟩ := sqK_ok hS h1 hk
    refine ⟨r, ?_, hk⟩
    unfold expP
    rw [if_pos (bdK_ok hb), hp, Option.bind_some, Nat.one_mul, hs, Option.bind_some]
    exact hr
  · cases hk
def artK (S S1 : Nat) (K : Nat → Nat → Bool) (a b : Nat) : Bool :=
  cond (bdK a b) (fz (Nat.div (Nat.mul a a) S) fun q1 => fz (Nat.div (Nat.add (Nat.mul b b) S1) S) fun q2 => cond (bdK q1 q2)
    (sumK (fun n t => Nat.div (Nat.mul (Nat.div (Nat.mul t q1) S) (Nat.pred (Nat.mul 2 n))) (Nat.succ (Nat.mul 2 n))) (fun n t => Nat.div (Nat.add (Nat.mul (Nat.div (Nat.add (Nat.mul t q2) S1) S) (Nat.pred (Nat.mul 2 n))) (Nat.mul 2 n)) (Nat.succ (Nat.mul 2 n))) (fun a1 a2 => K (Nat.mul a1 2) (Nat.mul a2 2)) 200 1 a b 0 0 0) false) false
theorem artK_ok {S S1 a b : Nat} {K : Nat → Nat → Bool} (hS : 0 < S) (h1 : S1 = S - 1) (hk : artK S S1 K a b = true) : ∃ r, artP S (a, b) = some r ∧ K r.1 r.2 = true := by
  unfold artK at hk
  rcases cond_t hk with ⟨hb, hk⟩ | ⟨_, hk⟩
  · simp only [fz_eq] at hk
    have hq : tmP S (a, b) (a, b) = (Nat.div (Nat.mul a a) S, Nat.div (Nat.add (Nat.mul b b) S1) S) := by unfold tmP; rw [upn_eq hS, h1]; rfl
    rcases cond_t hk with ⟨hc, hk⟩ | ⟨_, hk⟩
    · obtain ⟨s, hs, hk⟩ := sumK_p (nx := artN S (Nat.div (Nat.mul a a) S, Nat.div (Nat.add (Nat.mul b b) S1) S)) (fun n t hn => by
        unfold artN byP tmP
        rw [upn_eq hS, upn_eq (by omega), h1, show 2 * n + 1 - 1 = 2 * n from rfl]; rfl) (by decide) hk
      refine ⟨byP s 2 1, ?_, ?_⟩
      · unfold artP
        rw [if_pos (bdK_ok hb), hq, if_pos (bdK_ok hc), hs]; rfl
      · unfold byP
        rw [upn_eq (by decide), Nat.div_one, Nat.div_one]
        exact hk
    · cases hk
  · cases hk
def lgK (n : Nat) (K : Nat → Nat → Bool) (f : Nat) : Nat → Nat → Bool :=
  Nat.rec (motive := fun _ => Nat → Nat → Bool) (fun _ _ => false) (fun _ ih d k => cond (Nat.ble n (Nat.mul 2 d)) (K d k) (fz (Nat.mul 2 d) fun u => fz (Nat.succ k) fun i => ih u i)) f
theorem lgK_ok {n : Nat} {K : Nat → Nat → Bool} : ∀ {f F d k : Nat}, f ≤ F → lgK n K f d k = true → ∃ p, lgF F n d k = some p ∧ K p.1 p.2 = true
  | 0, _, _, _, _, hk => by cases hk
  | f + 1, F, d, k, hF, hk => by
    obtain ⟨G, rfl⟩ : ∃ G, F = G + 1 := ⟨F - 1, by omega⟩
    change cond _ _ _ = true at hk
    unfold lgF
    rcases cond_t hk with ⟨hb, hk⟩ | ⟨hb, hk⟩
    · have : n ≤ 2 * d := by simpa using hb
      rw [if_neg (by omega)]; exact ⟨_, rfl, hk⟩
    · have : ¬ n ≤ 2 * d := fun hc => by rw [show Nat.ble n (Nat.mul 2 d) = true from Nat.ble_eq_true_of_le hc] at hb; cases hb
      rw [if_pos (by omega)]
      rw [fz_eq, fz_eq] at hk
      have hk' : lgK n K f (2 * d) (k + 1) = true := hk
      exact lgK_ok (by omega) hk'
def logK (S S1 x1 x2 : Nat) (K : Nat → Nat → Bool) (n d : Nat) : Bool :=
  lgK n (fun p k => fz (Nat.mul (Nat.sub n p) S) fun u => artK S S1 (fun a1 a2 => K (Nat.add a1 (Nat.mul x1 k)) (Nat.add a2 (Nat.mul x2 k))) (Nat.div u (Nat.add n p)) (Nat.div (Nat.add u (Nat.pred (Nat.add n p))) (Nat.add n p))) 60 d 0
theorem lg_pos : ∀ {f n d k : Nat} {p : Nat × Nat}, 0 < d → lgF f n d k = some p → 0 < p.1
  | 0, _, _, _, _, _, h => by cases h
  | f + 1, n, d, k, p, hd, h => by
    unfold lgF at h
    split at h
    · exact lg_pos (by omega) h
    · cases h; exact hd
theorem logK_ok {S S1 n d : Nat} {x : N2} {K : Nat → Nat → Bool} (hS : 0 < S) (h1 : S1 = S - 1) (hx : artP S (ofP S 1 3) = some x) (hn : n < 10 ^ 80) (hd : d < 10 ^ 80) (h0 : 0 < d) (hdn : d ≤ n) (hk : logK S S1 x.1 x.2 K n d = true) : ∃ r, logP S n d = some r ∧ K r.1 r.2 = true := by
  unfold logK at hk
  obtain ⟨p, hp, hk⟩ := lgK_ok (F := 100) (by decide) hk
  have hp0 := lg_pos h0 hp
  simp only [fz_eq] at hk
  obtain ⟨a, ha, hk⟩ := artK_ok hS h1 hk
  refine ⟨plP a (byP x p.2 1), ?_, ?_⟩
  · unfold logP
    rw [if_pos ⟨hn, hd, h0, hdn⟩, hp, Option.bind_some, hx, Option.bind_some]
    have : ofP S (n - p.1) (n + p.1) = (Nat.div (Nat.mul (Nat.sub n p.1) S) (Nat.add n p.1), Nat.div (Nat.add (Nat.mul (Nat.sub n p.1) S) (Nat.pred (Nat.add n p.1))) (Nat.add n p.1)) := by
      unfold ofP; rw [upn_eq (by omega)]; rfl
    rw [this, ha]; rfl
  · unfold plP byP
    rw [upn_eq (by decide), Nat.div_one, Nat.div_one]
    exact hk
end Go.Proofs.YteojhdahhaodoaaGreatDoor
namespace Go.Proofs.YteojhdahhaodoaaGreatDoor
open Go Go.Eng Go.RowKit
theorem fl_n {u pl k : Nat} : flI (u : Int) (tenI (pl + k)) (tenI pl) = ((u / 10 ^ k : Nat) : Int) := by
  unfold flI tenI
  rw [← Int.natCast_mul, ← Int.natCast_ediv, Nat.pow_add, Nat.mul_comm (10 ^ pl) (10 ^ k), Nat.mul_div_mul_right _ _ (Nat.pow_pos (by decide))]
theorem cl_n {u pl k : Nat} : clI (u : Int) (tenI (pl + k)) (tenI pl) = ((upn u (10 ^ k) : Nat) : Int) := by
  have h1 := fl_n (u := u) (pl := pl) (k := k)
  unfold flI at h1
  unfold clI upn
  rw [h1]
  have hp : 0 < 10 ^ pl := Nat.pow_pos (by decide)
  have h2 : (u : Int) * tenI pl % tenI (pl + k) = ((u % 10 ^ k * 10 ^ pl : Nat) : Int) := by
    unfold tenI
    rw [← Int.natCast_mul, ← Int.natCast_emod, Nat.pow_add, Nat.mul_comm (10 ^ pl) (10 ^ k), Nat.mul_mod_mul_right]
  rw [h2]
  by_cases h : u % 10 ^ k = 0
  · rw [if_pos h, if_pos (by rw [h, Nat.zero_mul]; rfl)]
  · have h4 : 0 < u % 10 ^ k * 10 ^ pl := Nat.mul_pos (by omega) hp
    rw [if_neg h, if_neg (by omega)]; rfl
theorem flI_neg {a b t : Int} (hb : 0 < b) : flI (-a) b t = - clI a b t := by
  unfold flI clI
  rw [Int.neg_mul, Int.neg_ediv]
  by_cases h : a * t % b = 0
  · rw [if_pos h, if_pos (Int.dvd_of_emod_eq_zero h)]; omega
  · rw [if_neg h, if_neg (fun hd => h (Int.emod_eq_zero_of_dvd hd)), Int.sign_eq_one_of_pos hb]; omega
theorem clI_neg {a b t : Int} (hb : 0 < b) : clI (-a) b t = - flI a b t := by
  have h := flI_neg (a := -a) (t := t) hb
  rw [Int.neg_neg] at h
  omega
theorem cl_fl_le {a b t : Int} : flI a b t ≤ clI a b t := by unfold flI clI; split <;> omega
def cellK (k a b : Nat) (K : Nat → Nat → Bool) : Bool :=
  cond (and (Nat.ble a b) (Nat.ble b 1000000000000000000000000000000000000000000000000000000000000)) (fz (Nat.div a k) fun f => fz (Nat.div (Nat.add b (Nat.pred k)) k) fun c => cond (Nat.ble c (Nat.succ f)) (K f c) false) false
theorem cellK_ok {a b : Nat} {K : Nat → Nat → Bool} (pl : Nat) (h : cellK 1000000000000000 a b K = true) : ∃ f c : Nat, CellR pl ((a : Int), (b : Int)) (f : Int) (c : Int) ∧ CellR pl (-(b : Int), -(a : Int)) (-(c : Int)) (-(f : Int)) ∧ K f c = true ∧ a ≤ b := by
  unfold cellK at h
  rcases cond_t h with ⟨h1, h⟩ | ⟨_, h⟩
  · simp only [Bool.and_eq_true, Nat.ble_eq] at h1
    obtain ⟨h1, h2⟩ := h1
    simp only [fz_eq] at h
    have hk : (10 : Nat) ^ 15 = 1000000000000000 := by decide
    rcases cond_t h with ⟨h3, h⟩ | ⟨_, h⟩
    · rw [Nat.ble_eq] at h3
      have e1 : Nat.div a 1000000000000000 = a / 10 ^ 15 := by rw [hk]; rfl
      have e2 : Nat.div (Nat.add b (Nat.pred 1000000000000000)) 1000000000000000 = upn b (10 ^ 15) := by rw [upn_eq (by decide), hk]; rfl
      rw [e1, e2] at h h3
      have f1 : a / 10 ^ 15 ≤ a := Nat.div_le_self _ _
      have f2 : upn b (10 ^ 15) ≤ b := upn_le (by decide)
      have hle : ((a / 10 ^ 15 : Nat) : Int) ≤ ((upn b (10 ^ 15) : Nat) : Int) := by
        have : a / 10 ^ 15 ≤ upn b (10 ^ 15) := by
          rw [upn_eq (by decide)]; exact Nat.div_le_div_right (by omega)
        omega
      have l1 : (1000000000000000000000000000000000000000000000000000000000000 : Nat) < 10 ^ 70 := by decide
      have l2 : (1000000000000000000000000000000000000000000000000000000000000 : Nat) < 10 ^ 90 := by decide
      refine ⟨a / 10 ^ 15, upn b (10 ^ 15), ⟨by simp only; omega, by simp only; omega, by simp only; omega, fl_n, cl_n, by omega, by omega, hle, by omega⟩, ⟨by simp only; omega, by simp only; omega, by simp only; omega, ?_, ?_, by omega, by omega, by omega, by omega⟩, h, h1⟩
      · rw [flI_neg (ten_pos _)]; simp only [cl_n]
      · rw [clI_neg (ten_pos _)]; simp only [fl_n]
    · cases h
  · cases h
def allN (ck : Nat → Bool) (n : Nat) : Bool := Nat.rec (motive := fun _ => Bool) true (fun m ih => cond (ck (Nat.succ m)) ih false) n
theorem allN_ok {ck : Nat → Bool} : ∀ {n : Nat}, allN ck n = true → ∀ i, 1 ≤ i → i ≤ n → ck i = true
  | 0, _, i, h1, h2 => by omega
  | n + 1, h, i, h1, h2 => by
    change cond _ _ _ = true at h
    rcases cond_t h with ⟨h3, h⟩ | ⟨_, h⟩
    · by_cases e : i = n + 1
      · subst e; exact h3
      · have h' : allN ck n = true := h
        exact allN_ok h' i h1 (by omega)
    · cases h
def expCk (N d : Nat) : Bool := fz (Nat.mul N 10000000000000000000000000) fun u => expK 10000000000000000000000000 9999999999999999999999999 (fun e1 e2 =>
    cond (cellK 1000000000000000 e1 e2 fun _ c => Nat.ble (Nat.mul (Nat.add N d) 10000000000) (Nat.mul c d))
      (cond (Nat.ble 1 e1) (fz (Nat.div 100000000000000000000000000000000000000000000000000 e2) fun r1 => fz (Nat.div (Nat.add 100000000000000000000000000000000000000000000000000 (Nat.pred e1)) e1) fun r2 => cellK 1000000000000000 r1 r2 fun _ c => Nat.ble (Nat.mul d 10000000000) (Nat.add (Nat.mul c d) (Nat.mul N 10000000000))) false) false)
  (Nat.div u d) (Nat.div (Nat.add u (Nat.pred d)) d)
abbrev S25 : Nat := 10000000000000000000000000
def ExR (N : Int) (d : Nat) : Prop := ∃ r, ∃ f c : Int, exP S25 N d = some r ∧ CellR 10 (zP r) f c ∧ (N + d) * 10000000000 ≤ c * d ∧ 0 ≤ f
theorem of_eq {S N d : Nat} (hd : 0 < d) : ofP S N d = (Nat.div (Nat.mul N S) d, Nat.div (Nat.add (Nat.mul N S) (Nat.pred d)) d) := by unfold ofP; rw [upn_eq hd]; rfl
theorem expCk_ok {N d : Nat} (hN : 0 < N) (hN9 : N < 10 ^ 90) (hd : 0 < d) (hd9 : d < 10 ^ 90) (h : expCk N d = true) : ExR (N : Int) d ∧ ExR (-(N : Int)) d := by
  unfold expCk at h
  rw [fz_eq] at h
  rw [show (Nat.div (Nat.mul N 10000000000000000000000000) d) = (ofP S25 N d).1 by rw [of_eq hd], show (Nat.div (Nat.add (Nat.mul N 10000000000000000000000000) (Nat.pred d)) d) = (ofP S25 N d).2 by rw [of_eq hd]] at h
  obtain ⟨e, he, h⟩ := expK_ok (by decide) (by decide) h
  rcases cond_t h with ⟨h1, h⟩ | ⟨_, h⟩
  · rcases cond_t h with ⟨h2, h⟩ | ⟨_, h⟩
    · simp only [fz_eq] at h
      rw [Nat.ble_eq] at h2
      obtain ⟨f, c, c1, _, c3, c4⟩ := cellK_ok 10 h1
      obtain ⟨f', c', d1, _, d3, d4⟩ := cellK_ok 10 h
      rw [Nat.ble_eq] at c3 d3
      constructor
      · refine ⟨e, f, c, ?_, c1, ?_, by omega⟩
        · unfold exP
          rw [if_pos ⟨by omega, hd9, hd⟩, show ((N : Int)).natAbs = N from rfl, he, Option.bind_some, if_neg (by omega)]
        · have : ((((N + d) * 10000000000 : Nat)) : Int) ≤ ((c * d : Nat) : Int) := Int.ofNat_le.2 c3
          rw [Int.natCast_mul, Int.natCast_mul, Int.natCast_add] at this
          exact this
      · have e3 : ovP S25 (1 * S25, 1 * S25) e = (Nat.div 100000000000000000000000000000000000000000000000000 e.2, Nat.div (Nat.add 100000000000000000000000000000000000000000000000000 (Nat.pred e.1)) e.1) := by
          unfold ovP
          rw [upn_eq (by omega)]; rfl
        refine ⟨(Nat.div 100000000000000000000000000000000000000000000000000 e.2, Nat.div (Nat.add 100000000000000000000000000000000000000000000000000 (Nat.pred e.1)) e.1), f', c', ?_, d1, ?_, by omega⟩
        · unfold exP
          rw [if_pos ⟨by omega, hd9, hd⟩, show (-(N : Int)).natAbs = N by omega, he, Option.bind_some, if_pos (by omega), if_pos ⟨by omega, by omega⟩, e3]
        · have : (((d * 10000000000 : Nat)) : Int) ≤ ((c' * d + N * 10000000000 : Nat) : Int) := Int.ofNat_le.2 d3
          rw [Int.natCast_mul, Int.natCast_add, Int.natCast_mul, Int.natCast_mul] at this
          rw [Int.add_mul, Int.neg_mul]
          have h5 : ((10000000000 : Nat) : Int) = 10000000000 := rfl
          rw [h5] at this
          omega
    · cases h
  · cases h
def expRow (d : Nat) : Bool := allN (fun N => cond (Nat.beq (Nat.gcd N d) 1) (expCk N d) true) (Nat.mul 19 d)
def expRows (lo n : Nat) : Bool := allN (fun i => fz (Nat.add lo i) expRow) n
theorem expRows_ok {lo n N d : Nat} (h : expRows lo n = true) (hl : lo < d) (hh : d ≤ lo + n) (hN : 0 < N) (h19 : N ≤ 19 * d) (hd : d ≤ 1000) (hg : Nat.gcd N d = 1) : ExR (N : Int) d ∧ ExR (-(N : Int)) d := by
  unfold expRows at h
  have h1 := allN_ok h (d - lo) (by omega) (by omega)
  rw [fz_eq, show Nat.add lo (d - lo) = d from by show lo + (d - lo) = d; omega] at h1
  unfold expRow at h1
  have h2 := allN_ok h1 N hN h19
  have l1 : 19 * 1000 < 10 ^ 90 := by decide
  rcases cond_t h2 with ⟨_, h3⟩ | ⟨h3, _⟩
  · exact expCk_ok hN (by omega) (by omega) (by omega) h3
  · rw [hg] at h3; cases h3
def logCk (x1 x2 n d : Nat) : Bool := logK 10000000000000000000000000 9999999999999999999999999 x1 x2 (fun u1 u2 => cellK 1000000000000000 u1 u2 fun f c => and (Nat.ble (Nat.add (Nat.mul f d) (Nat.mul d 10000000000)) (Nat.mul n 10000000000)) (Nat.ble (Nat.mul n 10000000000) (Nat.add (Nat.mul c n) (Nat.mul d 10000000000)))) n d
def LgR (n d : Nat) : Prop := ∃ r, ∃ f c : Int, lgB S25 n d = some r ∧ CellR 10 r f c ∧ f * d ≤ ((n : Int) - d) * 10000000000
theorem logCk_ok {x : N2} {n d : Nat} (hx : artP S25 (ofP S25 1 3) = some x) (hd : 0 < d) (hdn : d < n) (hn : n < 10 ^ 80) (h : logCk x.1 x.2 n d = true) : LgR n d ∧ LgR d n := by
  obtain ⟨u, hu, h⟩ := logK_ok (by decide) (by decide) hx hn (by omega) hd (by omega) h
  obtain ⟨f, c, c1, c2, c3, _⟩ := cellK_ok 10 h
  simp only [Bool.and_eq_true, Nat.ble_eq] at c3
  obtain ⟨c3, c5⟩ := c3
  have h5 : ((10000000000 : Nat) : Int) = 10000000000 := rfl
  constructor
  · refine ⟨zP u, f, c, ?_, c1, ?_⟩
    · unfold lgB
      rw [if_pos ⟨hn, by omega, hd, by omega⟩, if_neg (by omega), hu]; rfl
    · have : ((f * d + d * 10000000000 : Nat) : Int) ≤ ((n * 10000000000 : Nat) : Int) := Int.ofNat_le.2 c3
      rw [Int.natCast_add, Int.natCast_mul, Int.natCast_mul, Int.natCast_mul, h5] at this
      omega
  · refine ⟨_, _, _, ?_, c2, ?_⟩
    · unfold lgB
      rw [if_pos ⟨by omega, hn, by omega, hd⟩, if_pos hdn, hu]
      show some ((0 : Int) - (u.2 : Int), (0 : Int) - (u.1 : Int)) = _
      rw [Int.zero_sub, Int.zero_sub]
    · have : ((n * 10000000000 : Nat) : Int) ≤ ((c * n + d * 10000000000 : Nat) : Int) := Int.ofNat_le.2 c5
      rw [Int.natCast_add, Int.natCast_mul, Int.natCast_mul, Int.natCast_mul, h5] at this
      rw [Int.neg_mul]
      omega
def logRow (x1 x2 d : Nat) : Bool := allN (fun i => fz (Nat.add d i) fun n => cond (Nat.beq (Nat.gcd n d) 1) (logCk x1 x2 n d) true) (Nat.sub 999 d)
def logRows (x1 x2 lo n : Nat) : Bool := allN (fun i => fz (Nat.add lo i) (logRow x1 x2)) n
theorem logRows_ok {x : N2} {lo m n d : Nat} (hx : artP S25 (ofP S25 1 3) = some x) (h : logRows x.1 x.2 lo m = true) (hl : lo < d) (hh : d ≤ lo + m) (hdn : d < n) (h9 : n ≤ 999) (hg : Nat.gcd n d = 1) : LgR n d ∧ LgR d n := by
  unfold logRows at h
  have h1 := allN_ok h (d - lo) (by omega) (by omega)
  rw [fz_eq, show Nat.add lo (d - lo) = d from by show lo + (d - lo) = d; omega] at h1
  unfold logRow at h1
  have h2 := allN_ok h1 (n - d) (by omega) (by show n - d ≤ 999 - d; omega)
  rw [fz_eq, show Nat.add d (n - d) = n from by show d + (n - d) = n; omega] at h2
  have l1 : 999 < 10 ^ 80 := by decide
  rcases cond_t h2 with ⟨_, h3⟩ | ⟨h3, _⟩
  · exact logCk_ok hx (by omega) hdn (by omega) h3
  · rw [hg] at h3; cases h3
end Go.Proofs.YteojhdahhaodoaaGreatDoor
