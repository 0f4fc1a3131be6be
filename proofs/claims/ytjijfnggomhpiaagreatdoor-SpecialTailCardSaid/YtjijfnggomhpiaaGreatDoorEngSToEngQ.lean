/- Part of the proof of a statement about the special functions. -/
import Derived.Test.YtjijfnggomhpiaaGreatDoorBaseToEngR
import Derived.Scope
import Derived.Laws.BytesString
import Derived.DefersIn
import Derived.Recover
set_option linter.all false
namespace Go.Eng
open Go Go.RowKit
section
variable {P : Program} {r : Option Nat} {n N : Nat} {e : Nat → Value} {ds : List Deferred} {w : World} {Q : Exit → Act → World → Prop} {K : Act → World → Prop}
variable {d ty : Nat} {pos : String} {af : Array Edge} {g : Option (Nat × Bool)} {v u : Value} {x y : Operand} {t t' : TypeId}
theorem k_convert {src dst : TypeId} {k k' : IntKind} {a c : Int} {D : TypeDesc} (hs : P.underlying src = some D) (hd : P.underlying dst = some (.int k')) (hx : ev N e x = .int k a) (hc : k'.wrap a = c) (hk : K (act N (upd e d (.int k' c)) ds) w) :
    Oper.wpIn (Fw r) n P ⟨some d, .convert src dst x, ty, pos, af, g⟩ (act N e ds) w K Q := by
  refine k_val (v := .int k' c) (w' := w) rfl ?_ (by rw [act_put]; exact hk)
  subst hc
  simp [execOp, hx, convert, run_underlying hs, run_underlying hd, Conv.intToInt]
theorem k_shr {k k' : IntKind} {a b c : Int} (hx : ev N e x = .int k a) (hy : ev N e y = .int k' b) (hb : 0 ≤ b ∧ b ≤ 8) (hc : a / 2 ^ b.toNat = c) (hk : K (act N (upd e d (.int k c)) ds) w) :
    Oper.wpIn (Fw r) n P ⟨some d, .binOp .shr t x y t', ty, pos, af, g⟩ (act N e ds) w K Q := by
  refine k_bin hx hy (guard_int ..) ?_ hk
  have h1 : ¬ b < 0 := by omega
  have h2 : min b.toNat k.bits = b.toNat := by
    have : 8 ≤ k.bits := by cases k <;> decide
    omega
  subst hc
  simp only [binOp, Op.shift, h1, if_false, h2]
  simp [Int.fdiv_eq_ediv_of_nonneg _ (show (0 : Int) ≤ 2 ^ b.toNat from Int.le_of_lt (Int.pow_pos (by omega)))]
theorem k_callB {R : Value → World → Prop} {f : FuncId} {la : List Value} {xs : Array Operand} {ats : Array TypeId} {vs : List Value} (hf : Enters P f) (hx : ev N e x = .func (.func f) la.toArray #[]) (hv : xs.toList.map (ev N e) = vs) (hc : Calls P f (la ++ vs).toArray w (Ret w R))
    (hk : ∀ v w', Ext w w' → R v w' → K (act N (upd e d v) ds) w') : Oper.wpIn (Fw r) n P ⟨some d, .call { callee := .value x, args := xs, argTypes := ats }, ty, pos, af, g⟩ (act N e ds) w K Q := by
  subst hv
  have h2 : la.toArray ++ xs.map (ev N e) = (la ++ xs.toList.map (ev N e)).toArray := by simp
  refine k_enter (f := f) (args := la.toArray ++ xs.map (ev N e)) (R := R) rfl ?_ (by rw [h2]; exact hc) (fun v w' h1 h2 => by rw [act_put]; exact hk v w' h1 h2)
  simp [execOp, resolve, Deferred.ofValue, hx, invoke, hf _ _]
theorem own_blk {base sz m b : Nat} {el : TypeId} {xs : List Value} (h : w.ownsRow base el sz (.slice (some ⟨b, 0, none⟩) m m) m xs) : Blk w b el xs.toArray := by
  obtain ⟨hl, ⟨hv, _⟩ | ⟨g, cap, cur, hv, hg, hh, hc, hm, hs, ht⟩⟩ := h
  · cases hv
  · simp only [Value.slice.injEq] at hv
    obtain ⟨hv, -, rfl⟩ := hv
    cases hv
    rw [List.take_of_length_le (by simp [hs])] at ht
    subst ht
    simpa [Blk] using hh
theorem Rw.of_blk {lo b : Nat} {el : TypeId} {xs : List Value} (h : Blk w b el xs.toArray) (hb : lo ≤ b) : Rw w lo (some ⟨b, 0, none⟩) xs := by
  refine ⟨fun j u hu => ⟨b, 0, rfl, ?_⟩, fun ad e => by cases e; exact hb, fun ad e => by cases e; exact h.lt⟩
  rw [Nat.zero_add]
  exact h.cell (by simpa using hu)
theorem Rw.of_blk0 {lo b : Nat} {el : TypeId} {xs : List Value} (h : Blk w b el xs.toArray) (hb : lo ≤ b) {A : Option Addr} (hA : xs ≠ [] → A = some ⟨b, 0, none⟩) (hA2 : ∀ ad, A = some ad → ad.block = b) : Rw w lo A xs := by
  refine ⟨fun j u hu => ⟨b, 0, hA (by rintro rfl; simp at hu), ?_⟩, fun ad e => by rw [hA2 ad e]; exact hb, fun ad e => by rw [hA2 ad e]; exact h.lt⟩
  rw [Nat.zero_add]
  exact h.cell (by simpa using hu)
def Each (p : Nat → Prop) : List Nat → Prop
  | [] => True
  | i :: is => p i ∧ Each p is
theorem each_mem {p : Nat → Prop} : ∀ {l : List Nat}, Each p l → ∀ i ∈ l, p i
  | _ :: _, h, i, hi => by
    rcases List.mem_cons.1 hi with rfl | hi
    · exact h.1
    · exact each_mem h.2 i hi
theorem a_start {id : Nat} {l : List Oper} (hm : P.follows .mixedOrders = true) (h : wpAnyIn (Fw r) n P .any l.toArray Q l.length (Array.replicate l.length false) (act N e ds) w.drew) : (Code.region id l.toArray true).wpIn (Fw r) n P Q (act N e ds) w :=
  wpIn_region_any hm h
theorem a_step {l : List Oper} {fuel : Nat} {listed : Array Bool} {i : Nat} {is : List Nat} {a : Act} (hr : Region.ready .any l.toArray listed = i :: is)
    (h : Each (fun i => wpOpIn (Fw r) n P l.toArray Q i (wpAnyIn (Fw r) n P .any l.toArray Q fuel (listed.setIfInBounds i true)) a w) (i :: is)) : wpAnyIn (Fw r) n P .any l.toArray Q (fuel + 1) listed a w :=
  ⟨fun h0 => (by rw [hr] at h0; cases h0), fun j hj => each_mem h j (by rw [hr] at hj; exact hj)⟩
theorem a_op {l : List Oper} {i : Nat} {a : Act} {dst : Option Nat} {op : Op} (ho : l[i]? = some ⟨dst, op, ty, pos, af, none⟩) (h : Oper.wpIn (Fw r) n P ⟨dst, op, ty, pos, af, none⟩ a w K Q) : wpOpIn (Fw r) n P l.toArray Q i K a w := by
  unfold wpOpIn
  rw [List.getElem?_toArray, ho]
  simp only [Region.wanted, if_true]
  exact h
theorem a_end {l : List Oper} {listed : Array Bool} {a : Act} (hr : Region.ready .any l.toArray listed = []) (h : Q .normal a w) : wpAnyIn (Fw r) n P .any l.toArray Q 0 listed a w := ⟨hr, h⟩
theorem wrap_i64 {a : Int} (h : -9223372036854775808 ≤ a ∧ a ≤ 9223372036854775807) : IntKind.i64.wrap a = a := wrap_in h
theorem wrap_u64 {a : Int} (h : 0 ≤ a ∧ a ≤ 18446744073709551615) : IntKind.u64.wrap a = a := by
  have h1 : a % 18446744073709551616 = a := Int.emod_eq_of_lt h.1 (by omega)
  simp [IntKind.wrap, IntKind.bits, IntKind.signed, h1]
theorem Cf.ext {w w' : World} {a : Addr} {v : Value} (k : Ext w w') (h : w.cell? a = some v) : w'.cell? a = some v := k.cell h
theorem Cf2.ext {w w' : World} {b o : Nat} {cs : List Value} (k : Ext w w') (h : ∀ j u, cs[j]? = some u → w.cell? ⟨b, o + j, none⟩ = some u) : ∀ j u, cs[j]? = some u → w'.cell? ⟨b, o + j, none⟩ = some u := fun j u hu => k.cell (h j u hu)
theorem k_subK {k : IntKind} {a b c : Int} (hx : ev N e x = .int k a) (hy : ev N e y = .int k b) (hc : k.wrap (a - b) = c) (hk : K (act N (upd e d (.int k c)) ds) w) :
    Oper.wpIn (Fw r) n P ⟨some d, .binOp .sub t x y t', ty, pos, af, g⟩ (act N e ds) w K Q :=
  k_bin hx hy (guard_int ..) (by subst hc; simp [binOp, Op.intArith]) hk
theorem wrap_u8 {a : Int} (h : 0 ≤ a ∧ a ≤ 255) : IntKind.u8.wrap a = a := by
  have h1 : a % 256 = a := Int.emod_eq_of_lt h.1 (by omega)
  simp [IntKind.wrap, IntKind.bits, IntKind.signed, h1]
theorem l_und {l : List Oper} {op : Op} {rest : List Oper} {j s dd : Nat} {q : Bool} (hj : dstOf l j = some s) (hv : ev N e (.tmp s) = undef) (hs : Nat.blt s N = true)
    (h : wpListIn (Fw r) n P l.toArray Q rest (act N (upd e dd undef) ds) w) : wpListIn (Fw r) n P l.toArray Q (⟨some dd, op, ty, pos, af, some (j, q)⟩ :: rest) (act N e ds) w := by
  have hj' : (l.toArray[j]?).bind (·.dst) = some s := by rw [List.getElem?_toArray]; exact hj
  have hy : yielded l.toArray (act N e ds).tmps j = none := by
    have h2 : (act N e ds).eval (.tmp s) = undef := by rw [act_eval]; exact hv
    simp only [Act.eval] at h2
    have hs' : s < (act N e ds).tmps.size := by rw [Nat.blt_eq] at hs; simpa [act] using hs
    simp only [Array.getD, hs', dif_pos] at h2
    have h3 : (act N e ds).tmps[s]? = some undef := by rw [Array.getElem?_eq_getElem hs']; exact congrArg some h2
    unfold yielded; rw [hj', Option.bind_some, h3]; rfl
  unfold wpListIn
  rw [if_neg (by simp [Region.wanted, hy])]
  exact ⟨fun f _ => Fw_fn r f, by rw [act_put]; exact h⟩
theorem byteAt_ {l : List UInt8} {i : Nat} (h : i < l.length) : l[i]? = some (l.getD i 0) := by rw [List.getElem?_eq_getElem h]; simp [List.getD, h]
theorem byte_ex {l : List UInt8} {i : Nat} (h : i < l.length) : ∃ c, l[i]? = some c := ⟨l[i], List.getElem?_eq_getElem h⟩
theorem k_nilCheck {b o : Nat} (hx : ev N e x = .pointer (some ⟨b, o, none⟩)) (hk : K (act N (upd e d (.pointer (some ⟨b, o, none⟩))) ds) w) :
    Oper.wpIn (Fw r) n P ⟨some d, .nilCheck x, ty, pos, af, g⟩ (act N e ds) w K Q := by
  refine k_val (v := .pointer (some ⟨b, o, none⟩)) (w' := w) rfl ?_ (by rw [act_put]; exact hk)
  simp [execOp, hx]
theorem k_lenLm {l : List UInt8} {m : Nat} (hu : P.underlying t = some .string) (hx : ev N e x = S l) (hm : l.length = m) (hk : K (act N (upd e d (.int .i64 ((m : Nat) : Int))) ds) w) :
    Oper.wpIn (Fw r) n P ⟨some d, .call { callee := .builtin .len, args := #[x], argTypes := #[t] }, ty, pos, af, g⟩ (act N e ds) w K Q :=
  k_lenL (l := l) hu hx (by rw [hm]; exact hk)
theorem own_nil {W : World} {base : Nat} {et : TypeId} {sz : Nat} : W.ownsRow base et sz (.slice none 0 0) 0 [] := ⟨by simp, .inl ⟨rfl, rfl⟩⟩
theorem own_ne_new {W : World} {base sz k : Nat} {et : TypeId} {v : Value} {cs : List Value} (h : W.ownsRow base et sz v k cs) : v.ownBlock ≠ some W.heap.size := by
  obtain ⟨hl, ⟨rfl, _⟩ | ⟨g, cap, cur, rfl, hg, hh, _⟩⟩ := h
  · simp [Value.ownBlock]
  · have : g < W.heap.size := (Array.getElem?_eq_some_iff.1 hh).1
    simp [Value.ownBlock]; omega
theorem own_ne_app {W : World} {v v' : Value} {b : Nat} (ha : v'.ownBlock = v.ownBlock ∨ v'.ownBlock = some W.heap.size) (hn : v.ownBlock ≠ some b) (hb : b < W.heap.size) : v'.ownBlock ≠ some b := by
  rcases ha with h | h
  · rw [h]; exact hn
  · rw [h]; simp; omega
def OwnNe (v u : Value) : Prop := ∀ g, v.ownBlock = some g → u.ownBlock ≠ some g
theorem OwnNe.symm {v u : Value} (h : OwnNe v u) : OwnNe u v := fun g hg e => h g e hg
theorem OwnNe.nil {u : Value} {n c : Nat} : OwnNe (.slice none n c) u := fun g hg => by simp [Value.ownBlock] at hg
theorem OwnNe.app {W : World} {v v' u : Value} {base sz k : Nat} {et : TypeId} {cs : List Value} (ha : v'.ownBlock = v.ownBlock ∨ v'.ownBlock = some W.heap.size) (hn : OwnNe v u) (hu : W.ownsRow base et sz u k cs) : OwnNe v' u := by
  intro g hg
  rcases ha with h | h
  · exact hn g (by rw [← h]; exact hg)
  · rw [h] at hg; cases hg; exact own_ne_new hu
theorem OwnNe.gr {W W' : World} {v u : Value} {base sz k : Nat} {et : TypeId} {cs : List Value} (hn : OwnNe v u) (hg : W.grownBy W' v.ownBlock) (h : W.ownsRow base et sz u k cs) : W'.ownsRow base et sz u k cs :=
  own_gr hg (fun g h1 h2 => hn g h2.symm h1) h
theorem own_ge {W : World} {base sz k : Nat} {et : TypeId} {v : Value} {cs : List Value} (h : W.ownsRow base et sz v k cs) : ∀ g, v.ownBlock = some g → base ≤ g := by
  obtain ⟨hl, ⟨rfl, _⟩ | ⟨g, cap, cur, rfl, hg, hh, _⟩⟩ := h
  · simp [Value.ownBlock]
  · intro g' e; simp [Value.ownBlock] at e; omega
theorem low_app {W0 W W' : World} {B base sz k : Nat} {et : TypeId} {v : Value} {cs : List Value} (h : W.ownsRow base et sz v k cs) (hB : B ≤ base) (hBw : B ≤ W.heap.size) (hE : Below B W0 W) (hg : W.grownBy W' v.ownBlock) : Below B W0 W' :=
  low_gr hE hg hBw (fun g e => Nat.le_trans hB (own_ge h g e))
theorem own_cast {W : World} {base sz k k' : Nat} {et : TypeId} {v : Value} {cs cs' : List Value} (h : W.ownsRow base et sz v k cs) (hk : k = k') (hc : cs = cs') : W.ownsRow base et sz v k' cs' := by subst hk hc; exact h
theorem own_one {W : World} {base sz k : Nat} {et : TypeId} {v : Value} {cs : List Value} (h : W.ownsRow base et sz v k cs) : v.oneCell' = true := by
  obtain ⟨hl, ⟨rfl, _⟩ | ⟨g, cap, cur, rfl, _⟩⟩ := h <;> rfl
def RetA (R : Value → World → Prop) : Ending → World → Prop
  | .returned v, w' => R v w'
  | _, _ => False
theorem k_callA {R : Value → World → Prop} {f : FuncId} {xs : Array Operand} {ats : Array TypeId} {vs : List Value} (hf : Enters P f) (hv : xs.toList.map (ev N e) = vs) (hc : Calls P f vs.toArray w (RetA R))
    (hk : ∀ v w', R v w' → K (act N (upd e d v) ds) w') : Oper.wpIn (Fw r) n P ⟨some d, .call { callee := .value (.func f), args := xs, argTypes := ats }, ty, pos, af, g⟩ (act N e ds) w K Q := by
  subst hv
  refine ⟨fun f _ => Fw_fn r f, ?_⟩
  have hs : (execOp (ev N e) ⟨some d, .call { callee := .value (.func f), args := xs, argTypes := ats }, ty, pos, af, g⟩).run P w = .ok (.enter f (xs.map (ev N e))) w := by
    simp [execOp, resolve, Deferred.ofValue, ev, invoke, hf _ _]
  rw [semAt_Fw rfl, act_eval, hs]
  refine ⟨(fun h => by rw [Fw_depth] at h; cases h), Fw_calls ((show Calls P f (xs.map (ev N e)) w (RetA R) from by have h := hc; rwa [show (xs.toList.map (ev N e)).toArray = xs.map (ev N e) by rw [← Array.toList_map, Array.toArray_toList]] at h).mono ?_)⟩
  intro e' w' h
  cases e' with
  | returned v =>
    show K ((act N e ds).put (some d) v) w'
    rw [act_put]; exact hk v w' h
  | panicked c => exact h.elim
  | outgrown => exact h.elim
theorem reta_of {f : FuncId} {args : Array Value} {R : Ending → World → Prop} {Q : Value → World → Prop} (h : Calls P f args w R) (hq : ∀ e w', R e w' → ∃ v, e = .returned v ∧ Q v w') : Calls P f args w (RetA Q) :=
  h.mono (by
    intro e w' hR
    obtain ⟨v, rfl, h2⟩ := hq e w' hR
    exact h2)
theorem gb_ext {A B C : World} {row : Option Nat} (h : A.grownBy B row) (k : Ext B C) : A.grownBy C row :=
  ⟨k.os.trans h.os, k.tape.trans h.tape, k.output.trans h.output, Nat.le_trans h.size k.size, fun i hi hr => (k.block i (Nat.lt_of_lt_of_le hi h.size)).trans (h.block i hi hr)⟩
theorem gb_put {A B C : World} {b : Nat} (h : A.grownBy B (some b)) (k : Put B C b) : A.grownBy C (some b) :=
  ⟨k.os.trans h.os, k.tape.trans h.tape, k.output.trans h.output, by rw [k.size]; exact h.size, fun i hi hr => (k.block i (fun e => hr (by rw [e]))).trans (h.block i hi hr)⟩
theorem gb_putn {A B C : World} {b : Nat} {row : Option Nat} (h : A.grownBy B row) (k : Put B C b) (hb : A.heap.size ≤ b) : A.grownBy C row :=
  ⟨k.os.trans h.os, k.tape.trans h.tape, k.output.trans h.output, by rw [k.size]; exact h.size, fun i hi hr => (k.block i (by omega)).trans (h.block i hi hr)⟩
theorem gb_trans {A B C : World} {row : Option Nat} (h : A.grownBy B row) (k : B.grownBy C row) : A.grownBy C row :=
  ⟨k.os.trans h.os, k.tape.trans h.tape, k.output.trans h.output, Nat.le_trans h.size k.size, fun i hi hr => (k.block i (Nat.lt_of_lt_of_le hi h.size) hr).trans (h.block i hi hr)⟩
theorem f_inA {f : FuncId} {fn : Func} {c : Code} {args : List Value} {R : Value → World → Prop} (hf : P.funcs[f]? = some fn) (hb : fn.body = some c)
    (h : c.wpIn (Fw none) 0 P (bodyPost P fn (RetA R)) (act (args.length + (fn.ntmps - args.length)) (ent args) []) w) : Calls P f args.toArray w (RetA R) := by
  refine calls_Fw (n := 0) (callsIn_of_wp hf hb trivial ?_)
  rw [act_start]
  exact h
theorem f_outA {fn : Func} {R : Value → World → Prop} {N : Nat} {e : Nat → Value} {w' : World} {v : Value} (hr : (results fn (act N e []).tmps).run P w' = .ok v w') (hR : R v w') : bodyPost P fn (RetA R) .ret (act N e []) w' :=
  ⟨rfl, v, hr, hR⟩
theorem f_endA {fn : Func} {R : Value → World → Prop} {N : Nat} {e : Nat → Value} {w' : World} {v : Value} (hr : (results fn (act N e []).tmps).run P w' = .ok v w') (hR : R v w') : bodyPost P fn (RetA R) .normal (act N e []) w' :=
  ⟨rfl, v, hr, hR⟩
end
end Go.Eng
namespace Go.Eng
open Go Go.RowKit
section draws
variable {P : Program} {r : Option Nat} {n N : Nat} {e0 : Nat → Value} {ds : List Deferred} {w0 : World} {Q : Exit → Act → World → Prop} {ops : Array Oper} {M : Nat}
theorem c_drawJ {id : Nat} {l : List Oper} (hm : P.follows .mixedOrders = true) (M : Nat) (R : World → World → Prop) (hR0 : ∀ w, R w w.drew) (hRt : ∀ a b c, R a b → R b c → R a c) (Φ : Nat → Value → World → Prop)
    (hΦ : ∀ i v w w', R w w' → Φ i v w → Φ i v w')
    (J : (Nat → Bool) → World → Prop) (hJ0 : J (fun _ => false) w0.drew)
    (hwf : ∀ (i : Nat) (o : Oper), l.toArray[i]? = some o → ∀ e ∈ o.after, Region.binds .any e = true → e.on < i)
    (hshape : Region.sinkB .any l.toArray M = true ∧ Region.chainB .any l.toArray M = true ∧ M < l.toArray.size ∨ M = l.toArray.size)
    (hdst : ∀ i j d, i < M → j < M → (l.toArray[i]?).bind (·.dst) = some d → (l.toArray[j]?).bind (·.dst) = some d → i = j)
    (hstep : ∀ (i : Nat) (o : Oper), i < M → l.toArray[i]? = some o → ∀ (e : Nat → Value) (w : World) (ls : Nat → Bool), J ls w → (∀ j oj, l.toArray[j]? = some oj → ls j = true → ∀ ed ∈ oj.after, Region.binds .any ed = true → ls ed.on = true) → ls i = false → (∀ ed ∈ o.after, Region.binds .any ed = true → ls ed.on = true) → R w0 w → (∀ t, (∀ j, j < M → (l.toArray[j]?).bind (·.dst) ≠ some t) → e t = e0 t) →
      (∀ j, (∃ ed ∈ o.after, Region.binds .any ed = true ∧ ed.on = j) → ∀ d, (l.toArray[j]?).bind (·.dst) = some d → Φ j (e d) w) →
      wpListIn (Fw r) n P l.toArray (fun x a' w' => x = .normal ∧ ∃ v, a' = (act N e ds).put o.dst v ∧ R w w' ∧ Φ i v w' ∧ J (fun j => if j = i then true else ls j) w') [o] (act N e ds) w)
    (hfin : ∀ (e : Nat → Value) (w : World), (∃ ls : Nat → Bool, (∀ j, j < M → ls j = true) ∧ J ls w) → R w0 w → (∀ t, (∀ j, j < M → (l.toArray[j]?).bind (·.dst) ≠ some t) → e t = e0 t) →
      (∀ j d, j < M → (l.toArray[j]?).bind (·.dst) = some d → Φ j (e d) w) → wpListIn (Fw r) n P l.toArray Q (l.drop M) (act N e ds) w) :
    (Code.region id l.toArray true).wpIn (Fw r) n P Q (act N e0 ds) w0 := by
  have hMle : M ≤ l.toArray.size := by rcases hshape with ⟨_, _, h⟩ | h <;> omega
  have hchain : Region.chainB .any l.toArray M = true := by
    rcases hshape with ⟨_, h, _⟩ | h
    · exact h
    · refine List.all_eq_true.2 fun t ht => ?_
      have := List.mem_range.1 ht
      simp only [Bool.or_eq_true, decide_eq_true_eq]
      left; omega
  refine wpIn_region_any hm ?_
  have main : ∀ (fuel : Nat) (listed : Array Bool) (e : Nat → Value) (w : World), left l.toArray listed ≤ fuel → HeadInv .any l.toArray M listed → J (fun j => listed.getD j false) w → R w0 w →
      (∀ t, (∀ j, j < M → (l.toArray[j]?).bind (·.dst) ≠ some t) → e t = e0 t) →
      (∀ j d, j < M → listed.getD j false = true → (l.toArray[j]?).bind (·.dst) = some d → Φ j (e d) w) →
      wpAnyIn (Fw r) n P .any l.toArray Q fuel listed (act N e ds) w := by
    intro fuel
    induction fuel with
    | zero =>
      intro listed e w hf inv hJ hR hs hφ
      have hall : ∀ i, i < l.toArray.size → listed.getD i false = true := by
        intro i hi
        cases hb : listed.getD i false with
        | true => rfl
        | false =>
          have := left_set hi inv.size hb
          omega
      refine tail_run hchain hwf 0 l.toArray.size listed _ w 0 rfl hMle inv.size hall (fun i h1 h2 => by omega) (Nat.le_refl _) ?_
      by_cases hM : M = l.toArray.size
      · have h := hfin e w ⟨_, fun j hj => hall j (by omega), hJ⟩ hR hs (fun j d hj hd => hφ j d hj (hall j (by omega)) hd)
        rw [hM] at h
        simpa using h
      · have h1 := inv.tail M (Nat.le_refl _) (by omega)
        have h2 := hall M (by omega)
        rw [getD_both h1] at h2
        cases h2
    | succ fuel ih =>
      intro listed e w hf inv hJ hR hs hφ
      by_cases hdone : ∀ i, i < M → listed.getD i false = true
      · refine tail_run hchain hwf (l.toArray.size - M) M listed _ w (fuel + 1) (by omega) (Nat.le_refl _) inv.size hdone (fun i h1 h2 => inv.tail i h1 h2) ?_ ?_
        · have h1 : l.toArray.size - M ≤ left l.toArray listed := left_tail hMle (fun i h1 h2 => getD_both (inv.tail i h1 h2))
          omega
        · simpa using hfin e w ⟨_, fun j hj => hdone j hj, hJ⟩ hR hs (fun j d hj hd => hφ j d hj (hdone j hj) hd)
      · have hex : ∃ i, i < M ∧ listed.getD i false = false := by
          refine Classical.byContradiction fun hn => hdone fun i hi => ?_
          cases hb : listed.getD i false with
          | true => rfl
          | false => exact absurd ⟨i, hi, hb⟩ hn
        obtain ⟨i0, hi0, hb0⟩ := hex
        have hin : ∀ i ∈ Region.ready .any l.toArray listed, i < M := by
          intro i hi
          rcases Nat.lt_or_ge i M with h | h
          · exact h
          · rcases hshape with ⟨h1, h2, h3⟩ | h3
            · exact absurd hi (tail_waits h1 h2 h3 inv _ i0 rfl hi0 (getD_in (by rw [inv.size]; omega) hb0) i h)
            · obtain ⟨_, o, ho, _⟩ := mem_ready.1 hi
              have := (Array.getElem?_eq_some_iff.1 ho).1
              omega
        refine ⟨fun h0 => ?_, fun i hi => ?_⟩
        ·
          exfalso
          have least : ∀ k i, i ≤ k → i < l.toArray.size → listed.getD i false = false → ∃ j, j ∈ Region.ready .any l.toArray listed := by
            intro k
            induction k with
            | zero =>
              intro i hi hl hb
              obtain rfl : i = 0 := by omega
              refine ⟨0, mem_ready.2 ⟨getD_in (by rw [inv.size]; exact hl) hb, l.toArray[0], Array.getElem?_eq_getElem hl, fun ed he hbb => ?_⟩⟩
              have := hwf 0 _ (Array.getElem?_eq_getElem hl) ed he hbb
              omega
            | succ k ihk =>
              intro i hi hl hb
              by_cases hp : ∀ ed ∈ (l.toArray[i]).after, Region.binds .any ed = true → listed.getD ed.on false = true
              · exact ⟨i, mem_ready.2 ⟨getD_in (by rw [inv.size]; exact hl) hb, l.toArray[i], Array.getElem?_eq_getElem hl, hp⟩⟩
              · have : ∃ ed ∈ (l.toArray[i]).after, Region.binds .any ed = true ∧ listed.getD ed.on false = false := by
                  refine Classical.byContradiction fun hn => hp fun ed he hbb => ?_
                  cases hb : listed.getD ed.on false with
                  | true => rfl
                  | false => exact absurd ⟨ed, he, hbb, hb⟩ hn
                obtain ⟨ed, he, hbb, hun⟩ := this
                have hlt := hwf i _ (Array.getElem?_eq_getElem hl) ed he hbb
                exact ihk ed.on (by omega) (by omega) hun
          obtain ⟨j, hj⟩ := least i0 i0 (Nat.le_refl _) (by omega) hb0
          rw [h0] at hj
          cases hj
        · have hiM := hin i hi
          obtain ⟨hun, o, ho, hpred⟩ := mem_ready.1 hi
          have hst := hstep i o hiM ho e w (fun j => listed.getD j false) hJ (fun j oj hj hl => inv.closed j oj hj hl) (getD_both hun) hpred hR hs (fun j ⟨ed, he, hb, hon⟩ d hd => hφ j d (by have := hwf i o ho ed he hb; omega) (by rw [← hon]; exact hpred ed he hb) hd)
          have hnext : ∀ a' w', (∃ v, a' = (act N e ds).put o.dst v ∧ R w w' ∧ Φ i v w' ∧ J (fun j => if j = i then true else listed.getD j false) w') → wpAnyIn (Fw r) n P .any l.toArray Q fuel (listed.setIfInBounds i true) a' w' := by
            rintro a' w' ⟨v, rfl, hR', hv, hJ'⟩
            have hil : i < l.toArray.size := by omega
            have hJ2 : J (fun j => (listed.setIfInBounds i true).getD j false) w' := by
              have e : (fun j => (listed.setIfInBounds i true).getD j false) = (fun j => if j = i then true else listed.getD j false) := by
                funext j
                by_cases hj : j = i
                · subst hj; rw [if_pos rfl]; have := inv.size; simp [Array.getD, this]; omega
                · rw [if_neg hj, getD_set_ne false (fun h => hj h.symm)]
              rw [e]; exact hJ'
            have hlf : left l.toArray (listed.setIfInBounds i true) ≤ fuel := by
              have := left_set hil inv.size (getD_both hun)
              omega
            cases hd : o.dst with
            | none =>
              refine ih _ e w' hlf (inv.set hi hiM) hJ2 (hRt _ _ _ hR hR') hs (fun j d hj hl hjd => ?_)
              by_cases hij : i = j
              · subst hij; rw [ho] at hjd; simp [hd] at hjd
              · rw [getD_set_ne false hij] at hl; exact hΦ _ _ _ _ hR' (hφ j d hj hl hjd)
            | some d0 =>
              rw [act_put]
              refine ih _ _ w' hlf (inv.set hi hiM) hJ2 (hRt _ _ _ hR hR') (fun t ht => ?_) (fun j d hj hl hjd => ?_)
              · have : t ≠ d0 := fun h => ht i hiM (by rw [ho]; simp [hd, h])
                rw [upd_ne _ _ this]; exact hs t ht
              · by_cases hij : i = j
                · subst hij
                  rw [ho] at hjd
                  simp only [Option.bind_some, hd, Option.some.injEq] at hjd
                  subst hjd
                  rw [upd_eq]; exact hv
                · rw [getD_set_ne false hij] at hl
                  have hne : d ≠ d0 := fun h => hij (hdst i j d hiM hj (by rw [ho]; simp [hd, h]) hjd)
                  rw [upd_ne _ _ hne]
                  exact hΦ _ _ _ _ hR' (hφ j d hj hl hjd)
          unfold wpOpIn
          rw [ho]
          dsimp only
          unfold wpListIn at hst
          split
          · rename_i hw
            rw [if_pos hw] at hst
            exact oper_mono2 (fun a' w' hh => hnext a' w' hh.2) (fun c a w h => by cases h.1) (fun a w h => by cases h.1) hst
          · rename_i hw
            rw [if_neg hw] at hst
            exact ⟨hst.1, hnext _ _ hst.2.2⟩
  refine main _ _ e0 w0.drew ?_ ⟨by simp, fun j oj hj hl => ?_, fun t h1 h2 => ?_⟩ ((congrArg (fun f => J f w0.drew) (funext fun j => getD_replicate_false _ j)).mpr hJ0) (hR0 w0) (fun _ _ => rfl) (fun j d hj hl => ?_)
  · unfold left
    exact Nat.le_trans (List.length_filter_le _ _) (by simp)
  · rw [getD_replicate_false] at hl; cases hl
  · have h3 : t < l.length := by simpa using h2
    simp [h3]
  · rw [getD_replicate_false] at hl; cases hl
def posOf (C : List Nat) (i : Nat) : Option Nat := C.findIdx? (Nat.beq i)
def chainC (l : List Oper) (C : List Nat) : Bool := (List.range C.length).all fun p => match C[p]? with
  | none => false
  | some c => Nat.beq p 0 || (match C[p - 1]?, l[c]? with | some c', some o => predB o c' | _, _ => false)
def nodupB (C : List Nat) : Bool := (List.range C.length).all fun p => (List.range C.length).all fun q => Nat.beq p q || (match C[p]?, C[q]? with | some a, some b => !Nat.beq a b | _, _ => true)
def cnt (C : List Nat) (ls : Nat → Bool) : Nat := (C.filter ls).length
def HeadC (r : Option Nat) (n : Nat) (P : Program) (N : Nat) (ds : List Deferred) (l : List Oper) (M : Nat) (R : World → World → Prop) (Φ : List (Value → World → Prop)) (C : List Nat) (I : Nat → World → Prop) (e0 : Nat → Value) (w0 : World) : Nat → List Oper → List (Value → World → Prop) → Prop
  | _, [], _ => True
  | _, _ :: _, [] => False
  | i, o :: os, φ :: φs => (∀ (e : Nat → Value) (w : World) (k : Nat), I k w → (∀ p, posOf C i = some p → k = p) → R w0 w → (∀ t, isDst l M t = false → e t = e0 t) → (∀ j d, predB o j = true → dstOf l j = some d → phi Φ j (e d) w) →
      wpListIn (Fw r) n P l.toArray (fun x a' w' => x = .normal ∧ ∃ v, a' = (act N e ds).put o.dst v ∧ R w w' ∧ φ v w' ∧ I (match posOf C i with | some p => p + 1 | none => k) w') [o] (act N e ds) w) ∧ HeadC r n P N ds l M R Φ C I e0 w0 (i + 1) os φs
theorem headC_get {l : List Oper} {R : World → World → Prop} {Φ : List (Value → World → Prop)} {C : List Nat} {I : Nat → World → Prop} : ∀ (os : List Oper) (φs : List (Value → World → Prop)) (i0 : Nat), HeadC r n P N ds l M R Φ C I e0 w0 i0 os φs → ∀ i o, os[i]? = some o →
    (∀ (e : Nat → Value) (w : World) (k : Nat), I k w → (∀ p, posOf C (i0 + i) = some p → k = p) → R w0 w → (∀ t, isDst l M t = false → e t = e0 t) → (∀ j d, predB o j = true → dstOf l j = some d → phi Φ j (e d) w) →
      wpListIn (Fw r) n P l.toArray (fun x a' w' => x = .normal ∧ ∃ v, a' = (act N e ds).put o.dst v ∧ R w w' ∧ phi φs i v w' ∧ I (match posOf C (i0 + i) with | some p => p + 1 | none => k) w') [o] (act N e ds) w)
  | [], _, _, _, i, o, h => by simp at h
  | o' :: os, [], _, h, i, o, ho => h.elim
  | o' :: os, φ :: φs, i0, h, 0, o, ho => by simp at ho; subst ho; exact h.1
  | o' :: os, φ :: φs, i0, h, i + 1, o, ho => by
    have := headC_get os φs (i0 + 1) h.2 i o (by simpa using ho)
    rw [show i0 + 1 + i = i0 + (i + 1) by omega] at this
    simpa only [phi, List.getElem?_cons_succ] using this
theorem posOf_some {C : List Nat} {i p : Nat} (h : posOf C i = some p) : C[p]? = some i := by
  unfold posOf at h
  obtain ⟨h1, h2, _⟩ := List.findIdx?_eq_some_iff_getElem.1 h
  rw [List.getElem?_eq_getElem h1, Nat.eq_of_beq_eq_true h2]
theorem posOf_none {C : List Nat} {i : Nat} (h : posOf C i = none) : i ∉ C := by
  unfold posOf at h
  rw [List.findIdx?_eq_none_iff] at h
  intro hm
  have := h i hm
  simp at this
theorem cnt_le (C : List Nat) (ls : Nat → Bool) : cnt C ls ≤ C.length := List.length_filter_le _ _
theorem cnt_not {C : List Nat} {ls : Nat → Bool} {i : Nat} (h : i ∉ C) : cnt C (fun j => if j = i then true else ls j) = cnt C ls := by
  unfold cnt
  congr 1
  apply List.filter_congr
  intro x hx
  rw [if_neg (fun e => h (by rw [← e]; exact hx))]
theorem cnt_all {C : List Nat} {ls : Nat → Bool} (h : ∀ c ∈ C, ls c = true) : cnt C ls = C.length := by
  unfold cnt; rw [List.filter_eq_self.2 h]
theorem cnt_split {C : List Nat} {ls : Nat → Bool} {p : Nat} (hp : p ≤ C.length) (h1 : ∀ q c, q < p → C[q]? = some c → ls c = true) (h2 : ∀ q c, p ≤ q → C[q]? = some c → ls c = false) : cnt C ls = p := by
  have e : C.filter ls = (C.take p).filter ls ++ (C.drop p).filter ls := by rw [← List.filter_append, List.take_append_drop]
  unfold cnt
  rw [e, List.length_append]
  have e1 : (C.take p).filter ls = C.take p := List.filter_eq_self.2 (fun c hc => by
    obtain ⟨q, hq⟩ := List.mem_iff_getElem?.1 hc
    rw [List.getElem?_take] at hq
    split at hq
    · next hlt => exact h1 q c hlt hq
    · cases hq)
  have e2 : (C.drop p).filter ls = [] := List.filter_eq_nil_iff.2 (fun c hc => by
    obtain ⟨q, hq⟩ := List.mem_iff_getElem?.1 hc
    rw [List.getElem?_drop] at hq
    rw [h2 (p + q) c (by omega) hq]; simp)
  rw [e1, e2]; simp; omega
theorem cnt_ge {l : List Oper} {C : List Nat} {ls : Nat → Bool} {p i : Nat}
    (hlink : ∀ p c c', C[p]? = some c' → C[p + 1]? = some c → ∃ o, l[c]? = some o ∧ ∃ ed ∈ o.after, Region.binds .any ed = true ∧ ed.on = c')
    (hcl : ∀ j oj, l.toArray[j]? = some oj → ls j = true → ∀ ed ∈ oj.after, Region.binds .any ed = true → ls ed.on = true) (hget : ∀ j : Nat, l.toArray[j]? = l[j]?)
    (hni : ls i = false) (hpi : C[p]? = some i) : ∀ q c, p ≤ q → C[q]? = some c → ls c = false := by
  have hdn : ∀ d q c, C[q]? = some c → p + d = q → ls c = false := by
    intro d
    induction d with
    | zero =>
      intro q c hq hqd
      have : c = i := by rw [show q = p by omega, hpi] at hq; exact (Option.some.inj hq).symm
      rw [this]; exact hni
    | succ d ih =>
      intro q c hq hqd
      have hl1 : p + d < C.length := by have := (List.getElem?_eq_some_iff.1 hq).1; omega
      obtain ⟨o2, ho2, ed, he, hb, hon⟩ := hlink (p + d) c (C[p + d]) (List.getElem?_eq_getElem hl1) (by rw [show p + d + 1 = q by omega]; exact hq)
      have h8 := ih (p + d) _ (List.getElem?_eq_getElem hl1) rfl
      cases hc : ls c with
      | false => rfl
      | true =>
        have := hcl c o2 (by rw [hget]; exact ho2) hc ed he hb
        rw [hon, h8] at this
        cases this
  exact fun q c hq hc => hdn (q - p) q c hc (by omega)
theorem cnt_lt {l : List Oper} {C : List Nat} {ls : Nat → Bool} {p i : Nat} {o : Oper}
    (hlink : ∀ p c c', C[p]? = some c' → C[p + 1]? = some c → ∃ o, l[c]? = some o ∧ ∃ ed ∈ o.after, Region.binds .any ed = true ∧ ed.on = c')
    (hcl : ∀ j oj, l.toArray[j]? = some oj → ls j = true → ∀ ed ∈ oj.after, Region.binds .any ed = true → ls ed.on = true) (hget : ∀ j : Nat, l.toArray[j]? = l[j]?)
    (hpi : C[p]? = some i) (ho : l[i]? = some o) (hpr : ∀ ed ∈ o.after, Region.binds .any ed = true → ls ed.on = true) : ∀ q c, q < p → C[q]? = some c → ls c = true := by
  have hup : ∀ d q c, C[q]? = some c → q + d = p → 0 < d → ls c = true := by
    intro d
    induction d with
    | zero => intro q c _ _ h0; omega
    | succ d ih =>
      intro q c hq hqd _
      have hl1 : q + 1 < C.length := by have := (List.getElem?_eq_some_iff.1 hpi).1; omega
      obtain ⟨o2, ho2, ed, he, hb, hon⟩ := hlink q (C[q + 1]) c hq (List.getElem?_eq_getElem hl1)
      by_cases hd : d = 0
      · subst hd
        have : C[q + 1] = i := by
          have h9 : C[q + 1]? = some i := by rw [show q + 1 = p by omega]; exact hpi
          rw [List.getElem?_eq_getElem hl1] at h9
          exact Option.some.inj h9
        rw [this, ho] at ho2
        cases ho2
        have := hpr ed he hb
        rwa [hon] at this
      · have h8 := ih (q + 1) (C[q + 1]) (List.getElem?_eq_getElem hl1) (by omega) (by omega)
        have := hcl _ o2 (by rw [hget]; exact ho2) h8 ed he hb
        rwa [hon] at this
  exact fun q c hq hc => hup (p - q) q c hc (by omega) (by omega)
theorem list_mono1 {l : List Oper} {K1 K2 : Act → World → Prop} {o : Oper} {a : Act} {w : World} (h : wpListIn (Fw r) n P l.toArray (fun x a w => x = .normal ∧ K1 a w) [o] a w) (hk : ∀ a w, K1 a w → K2 a w) : wpListIn (Fw r) n P l.toArray (fun x a w => x = .normal ∧ K2 a w) [o] a w := by
  unfold wpListIn at h ⊢
  split
  · rename_i hw
    rw [if_pos hw] at h
    exact oper_mono2 (fun a' w' hh => ⟨hh.1, hk _ _ hh.2⟩) (fun c a w h => by cases h.1) (fun a w h => by cases h.1) h
  · rename_i hw
    rw [if_neg hw] at h
    exact ⟨h.1, h.2.1, hk _ _ h.2.2⟩
theorem c_anyC {id : Nat} {l : List Oper} (hm : P.follows .mixedOrders = true) (M : Nat) (R : World → World → Prop) (hR0 : ∀ w, R w w.drew) (hRt : ∀ a b c, R a b → R b c → R a c) (Φ : List (Value → World → Prop))
    (hΦ : Stable R Φ) (hwf : wfB l = true) (hshape : shapeB l M = true) (hdst : dstB l M = true) (C : List Nat) (hC : chainC l C = true) (hN : nodupB C = true) (hCM : (C.all fun c => Nat.blt c M) = true) (I : Nat → World → Prop) (hI0 : I 0 w0.drew)
    (hstep : HeadC r n P N ds l M R Φ C I e0 w0 0 (l.take M) Φ)
    (hfin : ∀ (e : Nat → Value) (w : World), I C.length w → R w0 w → (∀ t, isDst l M t = false → e t = e0 t) → (∀ j d, Nat.blt j M = true → dstOf l j = some d → phi Φ j (e d) w) → wpListIn (Fw r) n P l.toArray Q (l.drop M) (act N e ds) w) :
    (Code.region id l.toArray true).wpIn (Fw r) n P Q (act N e0 ds) w0 := by
  have hget : ∀ j : Nat, l.toArray[j]? = l[j]? := fun j => by rw [List.getElem?_toArray]
  have hnd : ∀ t, isDst l M t = false → ∀ j, j < M → (l.toArray[j]?).bind (·.dst) ≠ some t := by
    intro t ht j hj h
    rw [hget] at h
    cases ho : l[j]? with
    | none => rw [ho] at h; cases h
    | some o =>
      rw [ho] at h
      simp only [Option.bind_some] at h
      have h1 := List.any_eq_false.1 ht o (List.mem_iff_getElem?.2 ⟨j, by rw [List.getElem?_take, if_pos hj]; exact ho⟩)
      rw [h] at h1
      simp at h1
  have hlink : ∀ p c c', C[p]? = some c' → C[p + 1]? = some c → ∃ o, l[c]? = some o ∧ ∃ ed ∈ o.after, Region.binds .any ed = true ∧ ed.on = c' := by
    intro p c c' h1 h2
    have h3 := List.all_eq_true.1 hC (p + 1) (List.mem_range.2 (List.getElem?_eq_some_iff.1 h2).1)
    rw [h2] at h3
    simp only [Nat.add_sub_cancel, h1] at h3
    cases ho : l[c]? with
    | none => rw [ho] at h3; simp at h3
    | some o =>
      rw [ho] at h3
      simp at h3
      obtain ⟨ed, he, hb⟩ := List.any_eq_true.1 h3
      simp only [Bool.and_eq_true] at hb
      exact ⟨o, rfl, ed, by simpa using he, hb.1, Nat.eq_of_beq_eq_true hb.2⟩
  have hdup : ∀ p q c : Nat, C[p]? = some c → C[q]? = some c → p = q := by
    intro p q c h1 h2
    have h3 := List.all_eq_true.1 (List.all_eq_true.1 hN p (List.mem_range.2 (List.getElem?_eq_some_iff.1 h1).1)) q (List.mem_range.2 (List.getElem?_eq_some_iff.1 h2).1)
    rw [h1, h2] at h3
    simp at h3
    exact h3
  refine c_drawJ hm M R hR0 hRt (phi Φ) (stable_get hΦ) (fun ls w => I (cnt C ls) w) ?_ ?_ ?_ ?_ ?_ ?_
  · have : cnt C (fun _ => false) = 0 := by unfold cnt; rw [List.filter_eq_nil_iff.2 (by simp)]; rfl
    rw [this]; exact hI0
  · intro i o ho ed he hb
    rw [hget] at ho
    have h1 := List.all_eq_true.1 hwf i (List.mem_range.2 (List.getElem?_eq_some_iff.1 ho).1)
    rw [ho] at h1
    have h2 := List.all_eq_true.1 h1 ed (by simpa using he)
    simp only [hb, Bool.not_true, Bool.false_or] at h2
    rwa [Nat.blt_eq] at h2
  · simp only [shapeB, Bool.or_eq_true, Bool.and_eq_true] at hshape
    rcases hshape with ⟨⟨h1, h2⟩, h3⟩ | h
    · rw [Nat.blt_eq] at h3; exact .inl ⟨h1, h2, by simpa using h3⟩
    · exact .inr (by simpa using Nat.eq_of_beq_eq_true h)
  · intro i j d hi hj hdi hdj
    have h1 := List.all_eq_true.1 (List.all_eq_true.1 hdst i (List.mem_range.2 hi)) j (List.mem_range.2 hj)
    rw [hget] at hdi hdj
    simp only [dstOf, hdi, hdj, Bool.or_eq_true] at h1
    rcases h1 with h1 | h1
    · exact Nat.eq_of_beq_eq_true h1
    · simp at h1
  · intro i o hi ho e w ls hJ hcl hni hpr hR hs hφ
    have ho' := ho
    rw [hget] at ho
    have hk : ∀ p, posOf C i = some p → cnt C ls = p := by
      intro p hp
      have hpi := posOf_some hp
      refine cnt_split (Nat.le_of_lt (List.getElem?_eq_some_iff.1 hpi).1) (cnt_lt hlink hcl hget hpi ho hpr) (cnt_ge hlink hcl hget hni hpi)
    have h1 := headC_get (l.take M) Φ 0 hstep i o (by rw [List.getElem?_take, if_pos hi]; exact ho) e w (cnt C ls) hJ (fun p hp => hk p (by rw [Nat.zero_add] at hp; exact hp)) hR (fun t ht => hs t (hnd t ht)) (fun j d hp hd => ?_)
    · refine list_mono1 h1 ?_
      rintro a' w' ⟨v, ha, hR', hv, hI'⟩
      refine ⟨v, ha, hR', hv, ?_⟩
      rw [Nat.zero_add] at hI'
      cases hp : posOf C i with
      | none => rw [hp] at hI'; show I (cnt C _) w'; rw [cnt_not (posOf_none hp)]; exact hI'
      | some p =>
        rw [hp] at hI'
        have hkp := hk p hp
        have hpi := posOf_some hp
        show I (cnt C _) w'
        have : cnt C (fun j => if j = i then true else ls j) = p + 1 := by
          refine cnt_split (by have := (List.getElem?_eq_some_iff.1 hpi).1; omega) (fun q c hq hc => ?_) (fun q c hq hc => ?_)
          · by_cases hci : c = i
            · rw [if_pos hci]
            · rw [if_neg hci]
              have hqp : q < p := by
                rcases Nat.lt_or_ge q p with h | h
                · exact h
                · have : q = p := by omega
                  subst this; rw [hpi] at hc; exact absurd (Option.some.inj hc).symm hci
              exact cnt_lt hlink hcl hget hpi ho hpr q c hqp hc
          · have hci : c ≠ i := fun e => by subst e; have := hdup _ _ _ hc hpi; omega
            rw [if_neg hci]
            exact cnt_ge hlink hcl hget hni hpi q c (by omega) hc
        rw [this]; exact hI'
    · obtain ⟨ed, he, hb⟩ := List.any_eq_true.1 hp
      simp only [Bool.and_eq_true] at hb
      exact hφ j ⟨ed, by simpa using he, hb.1, Nat.eq_of_beq_eq_true hb.2⟩ d (by rw [hget]; exact hd)
  · rintro e w ⟨ls, hall, hJ⟩ hR hs hφ
    have hc : cnt C ls = C.length := cnt_all (fun c hc => hall c (by have := List.all_eq_true.1 hCM c hc; rwa [Nat.blt_eq] at this))
    rw [hc] at hJ
    exact hfin e w hJ hR (fun t ht => hs t (hnd t ht)) (fun j d hj hd => hφ j d (by rwa [Nat.blt_eq] at hj) (by rw [hget]; exact hd))
end draws
section scope
variable {P : Program} {F : Fence} {n : Nat} {b : Frame} {a : Act} {k : List Item} {cs : List Frame} {w : World} {Q : Exit → Act → World → Prop}
theorem stepR_scope {c : Code} : step P (lone (b.atR a (.code (.scope c) :: k)) cs w) = .next (lone (b.atR a (.code c :: .inScope c :: k)) cs w) :=
  step_lone_go (by simp [stepG, stepG.exec, Frame.atR])
theorem stepR_inScope {c : Code} : step P (lone (b.atR a (.inScope c :: k)) cs w) = .next (lone (b.atR a k) cs w) :=
  step_lone_go (by simp [stepG, stepG.exec, Frame.atR])
theorem wpIn_scope {c : Code} (h : c.wpIn F n P (Exit.noGoto Q) a w) : (Code.scope c).wpIn F n P Q a w := by
  intro b k cs hro hb hr
  have h0 : (lone (b.atR a (.code (.scope c) :: k)) cs w).fenced P F := fenced_calm hb hr rfl
  obtain ⟨e, a₁, w₁, hq, harr⟩ := h b (.inScope c :: k) cs hro hb hr
  cases e with
  | normal => exact ⟨.normal, a₁, w₁, hq, .head h0 stepR_scope (StepsIn.trans harr (.one (fenced_calm hb hr rfl) stepR_inScope))⟩
  | exit id =>
    exact ⟨.exit id, a₁, w₁, hq, fun k' hk => .head h0 stepR_scope (harr.1 k' (by simp [exitTo, hk])),
      fun hr' hk => let ⟨k₁, h1, h2⟩ := harr.2 hr' (by simp [exitTo, hk]); ⟨k₁, h1, .head h0 stepR_scope h2⟩⟩
  | goto l => exact hq.elim
  | ret => exact ⟨_, a₁, w₁, hq, .of_steps (.one h0 stepR_scope) harr⟩
  | panic ch => exact ⟨_, a₁, w₁, hq, .of_steps (.one h0 stepR_scope) harr⟩
  | outgrown => exact ⟨_, a₁, w₁, hq, .of_steps (.one h0 stepR_scope) harr⟩
theorem r_scope (h : Q .ret a w) : Exit.noGoto Q .ret a w := h
theorem n_scope (h : Q .normal a w) : Exit.noGoto Q .normal a w := h
end scope
section conv
variable {P : Program} {r : Option Nat} {n N : Nat} {e : Nat → Value} {ds : List Deferred} {w : World} {Q : Exit → Act → World → Prop} {K : Act → World → Prop}
variable {d ty : Nat} {pos : String} {af : Array Edge} {g : Option (Nat × Bool)} {v u : Value} {x y : Operand} {t t' : TypeId}
theorem push_all : ∀ (l : List UInt8) (s : ByteArray), (l.map (fun b => ((b.toNat : Nat) : Int))).foldl (fun r n => r.push (UInt8.ofNat n.toNat)) s = ⟨(s.data.toList ++ l).toArray⟩
  | [], s => by simp
  | b :: l, s => by
    simp only [List.map_cons, List.foldl_cons]
    rw [push_all l]
    congr 1
    simp [ByteArray.push]
theorem k_b2s {src dst el m c lo : Nat} {A : Option Addr} {l : List UInt8} (hs : P.underlying src = some (.slice el)) (he : P.underlying el = some (.int .u8)) (hd : P.underlying dst = some .string)
    (hx : ev N e x = .slice A m c) (hr : Rw w lo A (l.map fun b => Value.int .u8 b.toNat)) (hm : l.length = m) (hk : K (act N (upd e d (S l)) ds) w) :
    Oper.wpIn (Fw r) n P ⟨some d, .convert src dst x, ty, pos, af, g⟩ (act N e ds) w K Q := by
  refine k_val (v := S l) (w' := w) rfl ?_ (by rw [act_put]; exact hk)
  have key : (convert src dst (.slice A m c)).run P w = .ok (S l) w := by
    rw [run_convert_bytes_string w src dst el A m c hs he hd]
    cases A with
    | none =>
      have : l = [] := by
        cases l with
        | nil => rfl
        | cons b t =>
          obtain ⟨_, _, h, _⟩ := hr.cells 0 _ rfl
          cases h
      subst this
      simp [Conv.bytesToString, S]; rfl
    | some a =>
      have hl : (loadCells a m).run P w = .ok ((l.map (fun b => ((b.toNat : Nat) : Int))).map (Value.int .u8)).toArray w := by
        by_cases h0 : l = []
        · subst h0; simp at hm; subst hm; simp [loadCells, loadCellsFrom]
        · have hlt : 0 < l.length := List.length_pos_iff.2 h0
          obtain ⟨b, o, hA, _⟩ := hr.cells 0 _ (by rw [List.getElem?_map, List.getElem?_eq_getElem hlt]; rfl)
          cases hA
          have h9 := run_loadCells_list (P := P) (w := w) ⟨b, o, none⟩ (l.map fun b => Value.int .u8 b.toNat) (fun j v hv => by
            obtain ⟨b', o', hA', hc⟩ := hr.cells j v hv
            cases hA'
            rw [Addr.add_mid]; exact hc)
          rw [List.length_map, hm] at h9
          rw [h9, List.map_map]; rfl
      rw [run_bytesToString w a m c _ hl, push_all]
      rfl
  simp [execOp, hx, key]
theorem k_quoT {a b c : Int} (hx : ev N e x = .int .i64 a) (hy : ev N e y = .int .i64 b) (h1 : b ≠ 0) (hc : a.tdiv b = c) (hr : In64 c) (hk : K (act N (upd e d (.int .i64 c)) ds) w) :
    Oper.wpIn (Fw r) n P ⟨some d, .binOp .quo t x y t', ty, pos, af, g⟩ (act N e ds) w K Q :=
  k_bin hx hy (guard_int ..) (by subst hc; simp [binOp, Op.intDiv, h1, wrap_in hr]) hk
theorem k_remT {a b c : Int} (hx : ev N e x = .int .i64 a) (hy : ev N e y = .int .i64 b) (h1 : b ≠ 0) (hc : a.tmod b = c) (hk : K (act N (upd e d (.int .i64 c)) ds) w) :
    Oper.wpIn (Fw r) n P ⟨some d, .binOp .rem t x y t', ty, pos, af, g⟩ (act N e ds) w K Q :=
  k_bin hx hy (guard_int ..) (by subst hc; simp [binOp, Op.intDiv, h1]) hk
theorem res4 {fn : Func} {tmps : Array Value} {r1 r2 r3 r4 : ResultVar} {v1 v2 v3 v4 : Value} (h : fn.results = #[r1, r2, r3, r4]) (h1 : (resRun tmps r1).run P w = .ok v1 w) (h2 : (resRun tmps r2).run P w = .ok v2 w) (h3 : (resRun tmps r3).run P w = .ok v3 w) (h4 : (resRun tmps r4).run P w = .ok v4 w) :
    (results fn tmps).run P w = .ok (.tuple #[v1, v2, v3, v4]) w := by
  rw [results_eq, h]; simp [h1, h2, h3, h4]
theorem f_ret4 {fn : Func} {R : Value → World → Prop} {N t u s q : Nat} {e : Nat → Value} {w w' : World} {v1 v2 v3 v4 : Value} (hres : fn.results = #[.tmp t, .tmp u, .tmp s, .tmp q]) (hx : Ext w w') (hR : R (.tuple #[v1, v2, v3, v4]) w') (h1 : ev N e (.tmp t) = v1) (h2 : ev N e (.tmp u) = v2) (h3 : ev N e (.tmp s) = v3) (h4 : ev N e (.tmp q) = v4) : bodyPost P fn (Ret w R) .ret (act N e []) w' :=
  f_out (res4 hres (res_tmp h1 w') (res_tmp h2 w') (res_tmp h3 w') (res_tmp h4 w')) hx hR
theorem k_arrAddr {el m : Nat} {b o i s oo : Nat} {k : IntKind} (hu : P.underlying t = some (.array m el)) (hs : (P.info? el).map (·.size) = some s)
    (hx : ev N e x = .pointer (some ⟨b, o, none⟩)) (hy : ev N e y = .int k (i : Int)) (hlt : i < m) (hoo : o + i * s = oo)
    (hk : K (act N (upd e d (.pointer (some ⟨b, oo, none⟩))) ds) w) : Oper.wpIn (Fw r) n P ⟨some d, .indexAddr t x y, ty, pos, af, g⟩ (act N e ds) w K Q := by
  refine k_val (v := .pointer (some ⟨b, oo, none⟩)) (w' := w) rfl ?_ (by rw [act_put]; exact hk)
  subst hoo
  cases hi : P.info? el with
  | none => simp [hi] at hs
  | some inf =>
    have hs' : inf.size = s := by simpa [hi] using hs
    subst hs'
    simp [execOp, hx, hy, Instr.indexAt, run_underlying hu, asIntOf, hlt, sizeOf, typeInfo, hi, Addr.add_mid, Instr.sureAddr]
end conv
end Go.Eng
namespace Go.Eng
open Go Go.RowKit
def setB (ls : Nat → Bool) (i : Nat) : Nat → Bool := fun j => match Nat.beq j i with | true => true | false => ls j
def updO (e : Nat → Value) : Option Nat → Value → Nat → Value
  | some d, v => upd e d v
  | none, _ => e
section draws
variable {P : Program} {r : Option Nat} {n N : Nat} {e0 : Nat → Value} {ds : List Deferred} {w0 : World} {Q : Exit → Act → World → Prop} {ops : Array Oper} {M : Nat}
theorem c_state {id : Nat} {l : List Oper} (hm : P.follows .mixedOrders = true) (M : Nat) (J : (Nat → Bool) → (Nat → Value) → World → Prop) (hJ0 : J (fun _ => false) e0 w0.drew)
    (hwf : ∀ (i : Nat) (o : Oper), l.toArray[i]? = some o → ∀ e ∈ o.after, Region.binds .any e = true → e.on < i)
    (hshape : Region.sinkB .any l.toArray M = true ∧ Region.chainB .any l.toArray M = true ∧ M < l.toArray.size ∨ M = l.toArray.size)
    (hstep : ∀ (i : Nat) (o : Oper), i < M → l.toArray[i]? = some o → ∀ (e : Nat → Value) (w : World) (ls : Nat → Bool), J ls e w → (∀ j oj, l.toArray[j]? = some oj → ls j = true → ∀ ed ∈ oj.after, Region.binds .any ed = true → ls ed.on = true) → ls i = false → (∀ ed ∈ o.after, Region.binds .any ed = true → ls ed.on = true) →
      wpListIn (Fw r) n P l.toArray (fun x a' w' => x = .normal ∧ ∃ v, a' = (act N e ds).put o.dst v ∧ J (setB ls i) (updO e o.dst v) w') [o] (act N e ds) w)
    (hfin : ∀ (e : Nat → Value) (w : World) (ls : Nat → Bool), (∀ j, j < M → ls j = true) → J ls e w → wpListIn (Fw r) n P l.toArray Q (l.drop M) (act N e ds) w) :
    (Code.region id l.toArray true).wpIn (Fw r) n P Q (act N e0 ds) w0 := by
  have hMle : M ≤ l.toArray.size := by rcases hshape with ⟨_, _, h⟩ | h <;> omega
  have hchain : Region.chainB .any l.toArray M = true := by
    rcases hshape with ⟨_, h, _⟩ | h
    · exact h
    · refine List.all_eq_true.2 fun t ht => ?_
      have := List.mem_range.1 ht
      simp only [Bool.or_eq_true, decide_eq_true_eq]
      left; omega
  refine wpIn_region_any hm ?_
  have main : ∀ (fuel : Nat) (listed : Array Bool) (e : Nat → Value) (w : World), left l.toArray listed ≤ fuel → HeadInv .any l.toArray M listed → J (fun j => listed.getD j false) e w →
      wpAnyIn (Fw r) n P .any l.toArray Q fuel listed (act N e ds) w := by
    intro fuel
    induction fuel with
    | zero =>
      intro listed e w hf inv hJ
      have hall : ∀ i, i < l.toArray.size → listed.getD i false = true := by
        intro i hi
        cases hb : listed.getD i false with
        | true => rfl
        | false =>
          have := left_set hi inv.size hb
          omega
      refine tail_run hchain hwf 0 l.toArray.size listed _ w 0 rfl hMle inv.size hall (fun i h1 h2 => by omega) (Nat.le_refl _) ?_
      by_cases hM : M = l.toArray.size
      · have h := hfin e w _ (fun j hj => hall j (by omega)) hJ
        rw [hM] at h
        simpa using h
      · have h1 := inv.tail M (Nat.le_refl _) (by omega)
        have h2 := hall M (by omega)
        rw [getD_both h1] at h2
        cases h2
    | succ fuel ih =>
      intro listed e w hf inv hJ
      by_cases hdone : ∀ i, i < M → listed.getD i false = true
      · refine tail_run hchain hwf (l.toArray.size - M) M listed _ w (fuel + 1) (by omega) (Nat.le_refl _) inv.size hdone (fun i h1 h2 => inv.tail i h1 h2) ?_ ?_
        · have h1 : l.toArray.size - M ≤ left l.toArray listed := left_tail hMle (fun i h1 h2 => getD_both (inv.tail i h1 h2))
          omega
        · simpa using hfin e w _ (fun j hj => hdone j hj) hJ
      · have hex : ∃ i, i < M ∧ listed.getD i false = false := by
          refine Classical.byContradiction fun hn => hdone fun i hi => ?_
          cases hb : listed.getD i false with
          | true => rfl
          | false => exact absurd ⟨i, hi, hb⟩ hn
        obtain ⟨i0, hi0, hb0⟩ := hex
        have hin : ∀ i ∈ Region.ready .any l.toArray listed, i < M := by
          intro i hi
          rcases Nat.lt_or_ge i M with h | h
          · exact h
          · rcases hshape with ⟨h1, h2, h3⟩ | h3
            · exact absurd hi (tail_waits h1 h2 h3 inv _ i0 rfl hi0 (getD_in (by rw [inv.size]; omega) hb0) i h)
            · obtain ⟨_, o, ho, _⟩ := mem_ready.1 hi
              have := (Array.getElem?_eq_some_iff.1 ho).1
              omega
        refine ⟨fun h0 => ?_, fun i hi => ?_⟩
        ·
          exfalso
          have least : ∀ k i, i ≤ k → i < l.toArray.size → listed.getD i false = false → ∃ j, j ∈ Region.ready .any l.toArray listed := by
            intro k
            induction k with
            | zero =>
              intro i hi hl hb
              obtain rfl : i = 0 := by omega
              refine ⟨0, mem_ready.2 ⟨getD_in (by rw [inv.size]; exact hl) hb, l.toArray[0], Array.getElem?_eq_getElem hl, fun ed he hbb => ?_⟩⟩
              have := hwf 0 _ (Array.getElem?_eq_getElem hl) ed he hbb
              omega
            | succ k ihk =>
              intro i hi hl hb
              by_cases hp : ∀ ed ∈ (l.toArray[i]).after, Region.binds .any ed = true → listed.getD ed.on false = true
              · exact ⟨i, mem_ready.2 ⟨getD_in (by rw [inv.size]; exact hl) hb, l.toArray[i], Array.getElem?_eq_getElem hl, hp⟩⟩
              · have : ∃ ed ∈ (l.toArray[i]).after, Region.binds .any ed = true ∧ listed.getD ed.on false = false := by
                  refine Classical.byContradiction fun hn => hp fun ed he hbb => ?_
                  cases hb : listed.getD ed.on false with
                  | true => rfl
                  | false => exact absurd ⟨ed, he, hbb, hb⟩ hn
                obtain ⟨ed, he, hbb, hun⟩ := this
                have hlt := hwf i _ (Array.getElem?_eq_getElem hl) ed he hbb
                exact ihk ed.on (by omega) (by omega) hun
          obtain ⟨j, hj⟩ := least i0 i0 (Nat.le_refl _) (by omega) hb0
          rw [h0] at hj
          cases hj
        · have hiM := hin i hi
          obtain ⟨hun, o, ho, hpred⟩ := mem_ready.1 hi
          have hst := hstep i o hiM ho e w (fun j => listed.getD j false) hJ (fun j oj hj hl => inv.closed j oj hj hl) (getD_both hun) hpred
          have hnext : ∀ a' w', (∃ v, a' = (act N e ds).put o.dst v ∧ J (setB (fun j => listed.getD j false) i) (updO e o.dst v) w') → wpAnyIn (Fw r) n P .any l.toArray Q fuel (listed.setIfInBounds i true) a' w' := by
            rintro a' w' ⟨v, rfl, hJ'⟩
            have hil : i < l.toArray.size := by omega
            have hJ2 : J (fun j => (listed.setIfInBounds i true).getD j false) (updO e o.dst v) w' := by
              have e' : (fun j => (listed.setIfInBounds i true).getD j false) = setB (fun j => listed.getD j false) i := by
                funext j
                by_cases hj : j = i
                · subst hj; unfold setB; simp; have := inv.size; simp [this]; omega
                · have hb : Nat.beq j i = false := by
                    cases hb : Nat.beq j i with
                    | false => rfl
                    | true => exact absurd (Nat.eq_of_beq_eq_true hb) hj
                  unfold setB; rw [hb]; simp only; rw [getD_set_ne false (fun h => hj h.symm)]
              rw [e']; exact hJ'
            have hlf : left l.toArray (listed.setIfInBounds i true) ≤ fuel := by
              have := left_set hil inv.size (getD_both hun)
              omega
            cases hd : o.dst with
            | none =>
              rw [hd] at hJ2
              exact ih _ e w' hlf (inv.set hi hiM) hJ2
            | some d0 =>
              rw [hd] at hJ2
              rw [act_put]
              exact ih _ _ w' hlf (inv.set hi hiM) hJ2
          unfold wpOpIn
          rw [ho]
          dsimp only
          unfold wpListIn at hst
          split
          · rename_i hw
            rw [if_pos hw] at hst
            exact oper_mono2 (fun a' w' hh => hnext a' w' hh.2) (fun c a w h => by cases h.1) (fun a w h => by cases h.1) hst
          · rename_i hw
            rw [if_neg hw] at hst
            exact ⟨hst.1, hnext _ _ hst.2.2⟩
  refine main _ _ e0 w0.drew ?_ ⟨by simp, fun j oj hj hl => ?_, fun t h1 h2 => ?_⟩ ((congrArg (fun f => J f e0 w0.drew) (funext fun j => getD_replicate_false _ j)).mpr hJ0)
  · unfold left
    exact Nat.le_trans (List.length_filter_le _ _) (by simp)
  · rw [getD_replicate_false] at hl; cases hl
  · have h3 : t < l.length := by simpa using h2
    simp [h3]
def predAt (l : List Oper) (j k : Nat) : Bool := match l[j]? with | some o => predB o k | none => false
def StepsS (r : Option Nat) (n : Nat) (P : Program) (N : Nat) (ds : List Deferred) (l : List Oper) (J : (Nat → Bool) → (Nat → Value) → World → Prop) : Nat → List Oper → Prop
  | _, [] => True
  | i, o :: os => (∀ (e : Nat → Value) (w : World) (ls : Nat → Bool), J ls e w → (∀ j k, predAt l j k = true → ls j = true → ls k = true) → ls i = false → (∀ k, predAt l i k = true → ls k = true) →
      wpListIn (Fw r) n P l.toArray (fun x a' w' => x = .normal ∧ ∃ v, a' = (act N e ds).put o.dst v ∧ J (setB ls i) (updO e o.dst v) w') [o] (act N e ds) w) ∧ StepsS r n P N ds l J (i + 1) os
theorem stepsS_get {l : List Oper} {J : (Nat → Bool) → (Nat → Value) → World → Prop} : ∀ (os : List Oper) (i0 : Nat), StepsS r n P N ds l J i0 os → ∀ i o, os[i]? = some o →
    (∀ (e : Nat → Value) (w : World) (ls : Nat → Bool), J ls e w → (∀ j k, predAt l j k = true → ls j = true → ls k = true) → ls (i0 + i) = false → (∀ k, predAt l (i0 + i) k = true → ls k = true) →
      wpListIn (Fw r) n P l.toArray (fun x a' w' => x = .normal ∧ ∃ v, a' = (act N e ds).put o.dst v ∧ J (setB ls (i0 + i)) (updO e o.dst v) w') [o] (act N e ds) w)
  | [], _, _, i, o, h => by simp at h
  | o' :: os, i0, h, 0, o, ho => by simp at ho; subst ho; exact h.1
  | o' :: os, i0, h, i + 1, o, ho => by
    have := stepsS_get os (i0 + 1) h.2 i o (by simpa using ho)
    rwa [show i0 + 1 + i = i0 + (i + 1) by omega] at this
theorem pred_iff {l : List Oper} {j k : Nat} {o : Oper} (ho : l[j]? = some o) : predAt l j k = true ↔ ∃ ed ∈ o.after, Region.binds .any ed = true ∧ ed.on = k := by
  unfold predAt predB
  rw [ho]
  simp only [List.any_eq_true, Bool.and_eq_true]
  constructor
  · rintro ⟨ed, h1, h2, h3⟩; exact ⟨ed, by simpa using h1, h2, Nat.eq_of_beq_eq_true h3⟩
  · rintro ⟨ed, h1, h2, h3⟩; exact ⟨ed, by simpa using h1, h2, by subst h3; simp⟩
theorem c_st {id : Nat} {l : List Oper} (hm : P.follows .mixedOrders = true) (M : Nat) (J : (Nat → Bool) → (Nat → Value) → World → Prop) (hJ0 : J (fun _ => false) e0 w0.drew)
    (hwf : wfB l = true) (hshape : shapeB l M = true) (hstep : StepsS r n P N ds l J 0 (l.take M))
    (hfin : ∀ (e : Nat → Value) (w : World) (ls : Nat → Bool), (∀ j, Nat.blt j M = true → ls j = true) → J ls e w → wpListIn (Fw r) n P l.toArray Q (l.drop M) (act N e ds) w) :
    (Code.region id l.toArray true).wpIn (Fw r) n P Q (act N e0 ds) w0 := by
  have hget : ∀ j : Nat, l.toArray[j]? = l[j]? := fun j => by rw [List.getElem?_toArray]
  refine c_state hm M J hJ0 ?_ ?_ ?_ (fun e w ls h1 h2 => hfin e w ls (fun j hj => h1 j (by rwa [Nat.blt_eq] at hj)) h2)
  · intro i o ho ed he hb
    rw [hget] at ho
    have h1 := List.all_eq_true.1 hwf i (List.mem_range.2 (List.getElem?_eq_some_iff.1 ho).1)
    rw [ho] at h1
    have h2 := List.all_eq_true.1 h1 ed (by simpa using he)
    simp only [hb, Bool.not_true, Bool.false_or] at h2
    rwa [Nat.blt_eq] at h2
  · simp only [shapeB, Bool.or_eq_true, Bool.and_eq_true] at hshape
    rcases hshape with ⟨⟨h1, h2⟩, h3⟩ | h
    · rw [Nat.blt_eq] at h3; exact .inl ⟨h1, h2, by simpa using h3⟩
    · exact .inr (by simpa using Nat.eq_of_beq_eq_true h)
  · intro i o hi ho e w ls hJ hcl hni hpr
    rw [hget] at ho
    have h1 := stepsS_get (l.take M) 0 hstep i o (by rw [List.getElem?_take, if_pos hi]; exact ho)
    simp only [Nat.zero_add] at h1
    refine h1 e w ls hJ (fun j k hp hl => ?_) hni (fun k hp => ?_)
    · cases hj : l[j]? with
      | none => unfold predAt at hp; rw [hj] at hp; cases hp
      | some oj =>
        obtain ⟨ed, he, hb, rfl⟩ := (pred_iff hj).1 hp
        exact hcl j oj (by rw [hget]; exact hj) hl ed he hb
    · obtain ⟨ed, he, hb, rfl⟩ := (pred_iff ho).1 hp
      exact hpr ed he hb
theorem c_st2 {id : Nat} {l : List Oper} (hm : P.follows .mixedOrders = true) (M : Nat) (J : (Nat → Value) → (Nat → Bool) → (Nat → Value) → World → Prop) (hJ0 : J e0 (fun _ => false) e0 w0.drew)
    (hwf : wfB l = true) (hshape : shapeB l M = true) (hstep : StepsS r n P N ds l (J e0) 0 (l.take M))
    (hfin : ∀ (e : Nat → Value) (w : World) (ls : Nat → Bool), (∀ j, Nat.blt j M = true → ls j = true) → J e0 ls e w → wpListIn (Fw r) n P l.toArray Q (l.drop M) (act N e ds) w) :
    (Code.region id l.toArray true).wpIn (Fw r) n P Q (act N e0 ds) w0 := c_st hm M (J e0) hJ0 hwf hshape hstep hfin
theorem unl {l : List Oper} {ls : Nat → Bool} {i j : Nat} (hcl : ∀ j k, predAt l j k = true → ls j = true → ls k = true) (hp : predAt l j i = true) (h : ls i = false) : ls j = false := by
  cases hj : ls j with
  | false => rfl
  | true => have := hcl j i hp hj; rw [h] at this; cases this
theorem ff {b : Bool} {p : Prop} (h : b = false) (hb : b = true) : p := by rw [h] at hb; cases hb
theorem tf {b : Bool} {p : Prop} (h : b = true) (hb : b = false) : p := by rw [h] at hb; cases hb
theorem same_st {mods mods' : List Nat} {e1 e2 e' : Nat → Value} (hs : ∀ t, inB mods' t = false → e2 t = e' t) (hsub : (mods'.all fun d => inB mods d) = true) (h : ∀ t, inB mods t = false → e' t = e1 t) :
    ∀ t, inB mods t = false → e2 t = e1 t := same_loop hs hsub h
end draws
end Go.Eng
namespace Go.Eng
open Go Go.RowKit
def pan (t : TypeId) (c : Int) : List PanicEntry := [{ v := .iface t (.int .i64 c), recovered := false }]
def RetE {α : Type} (p : List PanicEntry) (w : World) (T : Option α) (R : α → Value → World → Prop) : Ending → World → Prop
  | .returned v, w' => Ext w w' ∧ ∃ a, T = some a ∧ R a v w'
  | .panicked c, w' => Ext w w' ∧ T = none ∧ c = p
  | .outgrown, _ => False
theorem RetE.ret {α : Type} {p : List PanicEntry} {w : World} {T : Option α} {R : α → Value → World → Prop} {a : α} (hT : T = some a) {P : Program} {f : FuncId} {args : Array Value} (h : Calls P f args w (RetE p w T R)) : Calls P f args w (Ret w (R a)) :=
  h.mono fun e w' h => by
    cases e with
    | returned v => obtain ⟨h1, a', h2, h3⟩ := h; rw [hT] at h2; cases h2; exact ⟨h1, h3⟩
    | panicked c => obtain ⟨_, h2, _⟩ := h; rw [hT] at h2; cases h2
    | outgrown => exact h.elim
def RetPan (p : List PanicEntry) (w : World) : Ending → World → Prop
  | .panicked c, w' => Ext w w' ∧ c = p
  | _, _ => False
theorem RetE.pan {α : Type} {p : List PanicEntry} {w : World} {T : Option α} {R : α → Value → World → Prop} (hT : T = none) {P : Program} {f : FuncId} {args : Array Value} (h : Calls P f args w (RetE p w T R)) : Calls P f args w (RetPan p w) :=
  h.mono fun e w' h => by
    cases e with
    | returned v => obtain ⟨h1, a', h2, h3⟩ := h; rw [hT] at h2; cases h2
    | panicked c => exact ⟨h.1, h.2.2⟩
    | outgrown => exact h.elim
theorem RetE.of {α : Type} {p : List PanicEntry} {w : World} {T : Option α} {R : α → Value → World → Prop} {P : Program} {f : FuncId} {args : Array Value} (h1 : ∀ a, T = some a → Calls P f args w (Ret w (R a))) (h2 : T = none → Calls P f args w (RetPan p w)) : Calls P f args w (RetE p w T R) := by
  cases hT : T with
  | none =>
    refine (h2 hT).mono ?_
    intro e w' h
    cases e with
    | returned v => exact h.elim
    | panicked c => exact ⟨h.1, rfl, h.2⟩
    | outgrown => exact h.elim
  | some a =>
    refine (h1 a hT).mono ?_
    intro e w' h
    cases e with
    | returned v => exact ⟨h.1, a, rfl, h.2⟩
    | panicked c => exact h.elim
    | outgrown => exact h.elim
theorem Ret.mono {w : World} {R R' : Value → World → Prop} {P : Program} {f : FuncId} {args : Array Value} (h : Calls P f args w (Ret w R)) (hr : ∀ v w', R v w' → R' v w') : Calls P f args w (Ret w R') :=
  Calls.mono h fun e w' h => by
    cases e with
    | returned v => exact ⟨h.1, hr _ _ h.2⟩
    | panicked c => exact h.elim
    | outgrown => exact h.elim
def notPtr : TypeDesc → Bool
  | .pointer _ => false
  | _ => true
def notIface : TypeDesc → Bool
  | .interface _ => false
  | _ => true
section ops
variable {P : Program} {r : Option Nat} {n N : Nat} {e : Nat → Value} {ds : List Deferred} {w w' : World} {Q : Exit → Act → World → Prop} {K : Act → World → Prop}
variable {d ty : Nat} {pos : String} {af : Array Edge} {g : Option (Nat × Bool)} {v u : Value} {x y : Operand} {t : TypeId}
theorem k_iface {D : TypeDesc} (hu : P.underlying t = some D) (hd : notIface D = true) (hx : ev N e x = v) (hk : K (act N (upd e d (.iface t v)) ds) w) :
    Oper.wpIn (Fw r) n P ⟨some d, .makeInterface t x, ty, pos, af, g⟩ (act N e ds) w K Q := by
  refine k_val (v := .iface t v) (w' := w) rfl ?_ (by rw [act_put]; exact hk)
  subst hx
  have h : (Instr.makeInterface t (ev N e x)).run P w = .ok (.iface t (ev N e x)) w := by
    unfold Instr.makeInterface
    cases D <;> first | (cases hd; done) | simp [run_underlying hu]
  simp [execOp, h]
def MethodOf (P : Program) (t : TypeId) (name : String) (f : FuncId) : Prop :=
  ∃ i m, P.info? t = some i ∧ i.methods.find? (·.name == name) = some m ∧ m.path = #[] ∧ m.func = some (f, false)
theorem methodOf {t : TypeId} {name : String} {f : FuncId} (h : ((P.info? t).bind fun i => (i.methods.find? (·.name == name)).map fun m => (m.path.size, m.func)) = some (0, some (f, false))) : MethodOf P t name f := by
  cases hi : P.info? t with
  | none => rw [hi] at h; cases h
  | some i =>
    rw [hi] at h
    simp only [Option.bind_some] at h
    cases hm : i.methods.find? (·.name == name) with
    | none => rw [hm] at h; cases h
    | some m =>
      rw [hm] at h
      simp only [Option.map_some, Option.some.injEq, Prod.mk.injEq] at h
      exact ⟨i, m, hi, hm, Array.eq_empty_of_size_eq_zero h.1, h.2⟩
theorem run_method {D : TypeDesc} {name : String} {f : FuncId} (hm : MethodOf P t name f) (hu : P.underlying t = some D) (hd : notPtr D = true) (k : Nat) (v : Value) :
    (method (k + 1) t v name).run P w = .ok (f, v) w := by
  obtain ⟨i, m, h1, h2, h3, h4⟩ := hm
  cases D <;> first | (cases hd; done) | simp [method, typeInfo, h1, h2, h3, h4, follow, receiverAt, run_underlying hu, Place.get]
theorem k_enterPan {o : Oper} {f : FuncId} {args : Array Value} {p : List PanicEntry} (hd : noDefer o.op = true) (hr : (execOp (ev N e) o).run P w = .ok (.enter f args) w)
    (hc : Calls P f args w (RetPan p w)) (hk : ∀ w', Ext w w' → Q (.panic p) (act N e ds) w') : o.wpIn (Fw r) n P (act N e ds) w K Q := by
  refine ⟨fun f _ => Fw_fn r f, ?_⟩
  rw [semAt_Fw hd, act_eval, hr]
  refine ⟨(fun h => by rw [Fw_depth] at h; cases h), Fw_calls (hc.mono ?_)⟩
  intro e' w' h
  cases e' with
  | returned v => exact h.elim
  | panicked c => obtain ⟨h1, rfl⟩ := h; exact hk w' h1
  | outgrown => exact h.elim
theorem k_callPan {dd : Option Nat} {f : FuncId} {xs : Array Operand} {ats : Array TypeId} {vs : List Value} {p : List PanicEntry} (hf : Enters P f) (hv : xs.toList.map (ev N e) = vs) (hc : Calls P f vs.toArray w (RetPan p w))
    (hk : ∀ w', Ext w w' → Q (.panic p) (act N e ds) w') : Oper.wpIn (Fw r) n P ⟨dd, .call { callee := .value (.func f), args := xs, argTypes := ats }, ty, pos, af, g⟩ (act N e ds) w K Q := by
  subst hv
  refine k_enterPan (f := f) (args := xs.map (ev N e)) rfl ?_ (by have h := hc; rwa [show (xs.toList.map (ev N e)).toArray = xs.map (ev N e) by rw [← Array.toList_map, Array.toArray_toList]] at h) hk
  simp [execOp, resolve, Deferred.ofValue, ev, invoke, hf _ _]
theorem k_callVPan {dd : Option Nat} {f : FuncId} {lb : List Value} {xs : Array Operand} {ats : Array TypeId} {vs : List Value} {p : List PanicEntry} (hf : Enters P f) (hx : ev N e x = .func (.func f) #[] lb.toArray) (hv : xs.toList.map (ev N e) = vs) (hc : Calls P f (vs ++ lb).toArray w (RetPan p w))
    (hk : ∀ w', Ext w w' → Q (.panic p) (act N e ds) w') : Oper.wpIn (Fw r) n P ⟨dd, .call { callee := .value x, args := xs, argTypes := ats }, ty, pos, af, g⟩ (act N e ds) w K Q := by
  subst hv
  have h2 : xs.map (ev N e) ++ lb.toArray = (xs.toList.map (ev N e) ++ lb).toArray := by simp
  refine k_enterPan (f := f) (args := xs.map (ev N e) ++ lb.toArray) rfl ?_ (by rw [h2]; exact hc) hk
  simp [execOp, resolve, Deferred.ofValue, hx, invoke, hf _ _]
theorem run_invoke {D : TypeDesc} {name : String} {f : FuncId} {xs : Array Operand} {vs : List Value} {cap : Array Value} (hf : Enters P f) (hm : MethodOf P t name f) (hu : P.underlying t = some D) (hd : notPtr D = true)
    (hv : xs.toList.map (ev N e) = vs) : (invoke (.fn (.method name) cap) (#[.iface t v] ++ xs.map (ev N e))).run P w = .ok (.enter f (v :: vs).toArray) w := by
  subst hv
  have h1 := run_method (P := P) (w := w) hm hu hd (P.types.size + Made.depth - 1) v
  have h0 : P.types.size + Made.depth - 1 + 1 = P.types.size + Made.depth := by
    have : 0 < Made.depth := by decide
    omega
  rw [h0] at h1
  have h2 : #[v] ++ xs.map (ev N e) = (v :: xs.toList.map (ev N e)).toArray := by simp
  have h3 : (#[Value.iface t v] ++ xs.map (ev N e)).extract 1 (#[Value.iface t v] ++ xs.map (ev N e)).size = xs.map (ev N e) := by
    apply Array.ext'
    simp
    exact List.take_of_length_le (by simp)
  have h4 : (#[Value.iface t v] ++ xs.map (ev N e))[0]? = some (.iface t v) := by rw [Array.getElem?_append_left (by simp)]; rfl
  unfold invoke
  simp only [h4, h3]
  simp [callMethod, h1, hf _ _, h2]
theorem k_invoke {D : TypeDesc} {name : String} {f : FuncId} {xs : Array Operand} {ats : Array TypeId} {vs : List Value} {R : Value → World → Prop} (hf : Enters P f) (hm : MethodOf P t name f) (hu : P.underlying t = some D) (hd : notPtr D = true)
    (hx : ev N e x = .iface t v) (hv : xs.toList.map (ev N e) = vs) (hc : Calls P f (v :: vs).toArray w (Ret w R))
    (hk : ∀ u w', Ext w w' → R u w' → K (act N (upd e d u) ds) w') : Oper.wpIn (Fw r) n P ⟨some d, .call { callee := .invoke x name, args := xs, argTypes := ats }, ty, pos, af, g⟩ (act N e ds) w K Q := by
  refine k_enter (f := f) (args := (v :: vs).toArray) (R := R) rfl ?_ hc (fun v w' h1 h2 => by rw [act_put]; exact hk v w' h1 h2)
  have h := run_invoke (P := P) (w := w) (v := v) (cap := #[]) hf hm hu hd hv
  simp only [execOp, resolve, hx]
  simpa using h
theorem k_invokePan {dd : Option Nat} {D : TypeDesc} {name : String} {f : FuncId} {xs : Array Operand} {ats : Array TypeId} {vs : List Value} {p : List PanicEntry} (hf : Enters P f) (hm : MethodOf P t name f) (hu : P.underlying t = some D) (hd : notPtr D = true)
    (hx : ev N e x = .iface t v) (hv : xs.toList.map (ev N e) = vs) (hc : Calls P f (v :: vs).toArray w (RetPan p w))
    (hk : ∀ w', Ext w w' → Q (.panic p) (act N e ds) w') : Oper.wpIn (Fw r) n P ⟨dd, .call { callee := .invoke x name, args := xs, argTypes := ats }, ty, pos, af, g⟩ (act N e ds) w K Q := by
  refine k_enterPan (f := f) (args := (v :: vs).toArray) rfl ?_ hc hk
  have h := run_invoke (P := P) (w := w) (v := v) (cap := #[]) hf hm hu hd hv
  simp only [execOp, resolve, hx]
  simpa using h
theorem k_nilM {D : TypeDesc} {name : String} {f : FuncId} {cap : Array Value} (hm : MethodOf P t name f) (hu : P.underlying t = some D) (hd : notPtr D = true)
    (hx : ev N e x = .func (.method name) #[.iface t v] cap) (hk : K (act N (upd e d (.func (.method name) #[.iface t v] cap)) ds) w) :
    Oper.wpIn (Fw r) n P ⟨some d, .nilCheck x, ty, pos, af, g⟩ (act N e ds) w K Q := by
  refine k_val (v := .func (.method name) #[.iface t v] cap) (w' := w) rfl ?_ (by rw [act_put]; exact hk)
  obtain ⟨i, m, h1, h2, h3, h4⟩ := hm
  have h0 : ∃ k, P.types.size + Made.depth = k + 1 := ⟨P.types.size + Made.depth - 1, by have : 0 < Made.depth := by decide
                                                                                         omega⟩
  obtain ⟨k, hk'⟩ := h0
  have h5 : (nilAhead (k + 1) t v name).run P w = .ok (some false) w := by
    cases D <;> first | (cases hd; done) | simp [nilAhead, typeInfo, h1, h2, h3, h4, followBlind, run_underlying hu]
  simp only [execOp, hx]
  simp [hk', h5]
theorem k_panic {ty' : TypeId} {u : Value} (hx : ev N e x = .iface ty' u) (hk : Q (.panic [{ v := .iface ty' u, recovered := false }]) (act N e ds) w) :
    Oper.wpIn (Fw r) n P ⟨none, .panic x, ty, pos, af, g⟩ (act N e ds) w K Q := by
  refine ⟨fun f _ => Fw_fn r f, ?_⟩
  rw [semAt_Fw rfl, act_eval]
  have : (execOp (ev N e) ⟨none, .panic x, ty, pos, af, g⟩).run P w = .halt (.panic (.iface ty' u)) w := by
    simp [execOp, hx, Instr.panic, goPanic]
  rw [this]
  exact hk
end ops
section draws
variable {P : Program} {r : Option Nat} {n N : Nat} {e0 : Nat → Value} {ds : List Deferred} {w0 : World} {Q : Exit → Act → World → Prop} {ops : Array Oper} {M : Nat}
theorem c_stateP {id : Nat} {l : List Oper} (hm : P.follows .mixedOrders = true) (M : Nat) (J : (Nat → Bool) → (Nat → Value) → World → Prop) (hJ0 : J (fun _ => false) e0 w0.drew)
    (hwf : ∀ (i : Nat) (o : Oper), l.toArray[i]? = some o → ∀ e ∈ o.after, Region.binds .any e = true → e.on < i)
    (hshape : Region.sinkB .any l.toArray M = true ∧ Region.chainB .any l.toArray M = true ∧ M < l.toArray.size ∨ M = l.toArray.size)
    (hstep : ∀ (i : Nat) (o : Oper), i < M → l.toArray[i]? = some o → ∀ (e : Nat → Value) (w : World) (ls : Nat → Bool), J ls e w → (∀ j oj, l.toArray[j]? = some oj → ls j = true → ∀ ed ∈ oj.after, Region.binds .any ed = true → ls ed.on = true) → ls i = false → (∀ ed ∈ o.after, Region.binds .any ed = true → ls ed.on = true) →
      wpListIn (Fw r) n P l.toArray (fun x a' w' => (x = .normal ∧ ∃ v, a' = (act N e ds).put o.dst v ∧ J (setB ls i) (updO e o.dst v) w') ∨ (∃ c, x = .panic c ∧ Q (.panic c) a' w')) [o] (act N e ds) w)
    (hfin : ∀ (e : Nat → Value) (w : World) (ls : Nat → Bool), (∀ j, j < M → ls j = true) → J ls e w → wpListIn (Fw r) n P l.toArray Q (l.drop M) (act N e ds) w) :
    (Code.region id l.toArray true).wpIn (Fw r) n P Q (act N e0 ds) w0 := by
  have hMle : M ≤ l.toArray.size := by rcases hshape with ⟨_, _, h⟩ | h <;> omega
  have hchain : Region.chainB .any l.toArray M = true := by
    rcases hshape with ⟨_, h, _⟩ | h
    · exact h
    · refine List.all_eq_true.2 fun t ht => ?_
      have := List.mem_range.1 ht
      simp only [Bool.or_eq_true, decide_eq_true_eq]
      left; omega
  refine wpIn_region_any hm ?_
  have main : ∀ (fuel : Nat) (listed : Array Bool) (e : Nat → Value) (w : World), left l.toArray listed ≤ fuel → HeadInv .any l.toArray M listed → J (fun j => listed.getD j false) e w →
      wpAnyIn (Fw r) n P .any l.toArray Q fuel listed (act N e ds) w := by
    intro fuel
    induction fuel with
    | zero =>
      intro listed e w hf inv hJ
      have hall : ∀ i, i < l.toArray.size → listed.getD i false = true := by
        intro i hi
        cases hb : listed.getD i false with
        | true => rfl
        | false =>
          have := left_set hi inv.size hb
          omega
      refine tail_run hchain hwf 0 l.toArray.size listed _ w 0 rfl hMle inv.size hall (fun i h1 h2 => by omega) (Nat.le_refl _) ?_
      by_cases hM : M = l.toArray.size
      · have h := hfin e w _ (fun j hj => hall j (by omega)) hJ
        rw [hM] at h
        simpa using h
      · have h1 := inv.tail M (Nat.le_refl _) (by omega)
        have h2 := hall M (by omega)
        rw [getD_both h1] at h2
        cases h2
    | succ fuel ih =>
      intro listed e w hf inv hJ
      by_cases hdone : ∀ i, i < M → listed.getD i false = true
      · refine tail_run hchain hwf (l.toArray.size - M) M listed _ w (fuel + 1) (by omega) (Nat.le_refl _) inv.size hdone (fun i h1 h2 => inv.tail i h1 h2) ?_ ?_
        · have h1 : l.toArray.size - M ≤ left l.toArray listed := left_tail hMle (fun i h1 h2 => getD_both (inv.tail i h1 h2))
          omega
        · simpa using hfin e w _ (fun j hj => hdone j hj) hJ
      · have hex : ∃ i, i < M ∧ listed.getD i false = false := by
          refine Classical.byContradiction fun hn => hdone fun i hi => ?_
          cases hb : listed.getD i false with
          | true => rfl
          | false => exact absurd ⟨i, hi, hb⟩ hn
        obtain ⟨i0, hi0, hb0⟩ := hex
        have hin : ∀ i ∈ Region.ready .any l.toArray listed, i < M := by
          intro i hi
          rcases Nat.lt_or_ge i M with h | h
          · exact h
          · rcases hshape with ⟨h1, h2, h3⟩ | h3
            · exact absurd hi (tail_waits h1 h2 h3 inv _ i0 rfl hi0 (getD_in (by rw [inv.size]; omega) hb0) i h)
            · obtain ⟨_, o, ho, _⟩ := mem_ready.1 hi
              have := (Array.getElem?_eq_some_iff.1 ho).1
              omega
        refine ⟨fun h0 => ?_, fun i hi => ?_⟩
        ·
          exfalso
          have least : ∀ k i, i ≤ k → i < l.toArray.size → listed.getD i false = false → ∃ j, j ∈ Region.ready .any l.toArray listed := by
            intro k
            induction k with
            | zero =>
              intro i hi hl hb
              obtain rfl : i = 0 := by omega
              refine ⟨0, mem_ready.2 ⟨getD_in (by rw [inv.size]; exact hl) hb, l.toArray[0], Array.getElem?_eq_getElem hl, fun ed he hbb => ?_⟩⟩
              have := hwf 0 _ (Array.getElem?_eq_getElem hl) ed he hbb
              omega
            | succ k ihk =>
              intro i hi hl hb
              by_cases hp : ∀ ed ∈ (l.toArray[i]).after, Region.binds .any ed = true → listed.getD ed.on false = true
              · exact ⟨i, mem_ready.2 ⟨getD_in (by rw [inv.size]; exact hl) hb, l.toArray[i], Array.getElem?_eq_getElem hl, hp⟩⟩
              · have : ∃ ed ∈ (l.toArray[i]).after, Region.binds .any ed = true ∧ listed.getD ed.on false = false := by
                  refine Classical.byContradiction fun hn => hp fun ed he hbb => ?_
                  cases hb : listed.getD ed.on false with
                  | true => rfl
                  | false => exact absurd ⟨ed, he, hbb, hb⟩ hn
                obtain ⟨ed, he, hbb, hun⟩ := this
                have hlt := hwf i _ (Array.getElem?_eq_getElem hl) ed he hbb
                exact ihk ed.on (by omega) (by omega) hun
          obtain ⟨j, hj⟩ := least i0 i0 (Nat.le_refl _) (by omega) hb0
          rw [h0] at hj
          cases hj
        · have hiM := hin i hi
          obtain ⟨hun, o, ho, hpred⟩ := mem_ready.1 hi
          have hst := hstep i o hiM ho e w (fun j => listed.getD j false) hJ (fun j oj hj hl => inv.closed j oj hj hl) (getD_both hun) hpred
          have hnext : ∀ a' w', (∃ v, a' = (act N e ds).put o.dst v ∧ J (setB (fun j => listed.getD j false) i) (updO e o.dst v) w') → wpAnyIn (Fw r) n P .any l.toArray Q fuel (listed.setIfInBounds i true) a' w' := by
            rintro a' w' ⟨v, rfl, hJ'⟩
            have hil : i < l.toArray.size := by omega
            have hJ2 : J (fun j => (listed.setIfInBounds i true).getD j false) (updO e o.dst v) w' := by
              have e' : (fun j => (listed.setIfInBounds i true).getD j false) = setB (fun j => listed.getD j false) i := by
                funext j
                by_cases hj : j = i
                · subst hj; unfold setB; simp; have := inv.size; simp [this]; omega
                · have hb : Nat.beq j i = false := by
                    cases hb : Nat.beq j i with
                    | false => rfl
                    | true => exact absurd (Nat.eq_of_beq_eq_true hb) hj
                  unfold setB; rw [hb]; simp only; rw [getD_set_ne false (fun h => hj h.symm)]
              rw [e']; exact hJ'
            have hlf : left l.toArray (listed.setIfInBounds i true) ≤ fuel := by
              have := left_set hil inv.size (getD_both hun)
              omega
            cases hd : o.dst with
            | none =>
              rw [hd] at hJ2
              exact ih _ e w' hlf (inv.set hi hiM) hJ2
            | some d0 =>
              rw [hd] at hJ2
              rw [act_put]
              exact ih _ _ w' hlf (inv.set hi hiM) hJ2
          unfold wpOpIn
          rw [ho]
          dsimp only
          unfold wpListIn at hst
          split
          · rename_i hw
            rw [if_pos hw] at hst
            exact oper_mono2 (fun a' w' hh => by
              rcases hh with hh | ⟨c, hc, _⟩
              · exact hnext a' w' hh.2
              · cases hc) (fun c a w h => by
              rcases h with h | ⟨c', hc, hq⟩
              · cases h.1
              · cases hc; exact hq) (fun a w h => by
              rcases h with h | ⟨c', hc, hq⟩
              · cases h.1
              · cases hc) hst
          · rename_i hw
            rw [if_neg hw] at hst
            refine ⟨hst.1, ?_⟩
            rcases hst.2 with hh | ⟨c, hc, _⟩
            · exact hnext _ _ hh.2
            · cases hc
  refine main _ _ e0 w0.drew ?_ ⟨by simp, fun j oj hj hl => ?_, fun t h1 h2 => ?_⟩ ((congrArg (fun f => J f e0 w0.drew) (funext fun j => getD_replicate_false _ j)).mpr hJ0)
  · unfold left
    exact Nat.le_trans (List.length_filter_le _ _) (by simp)
  · rw [getD_replicate_false] at hl; cases hl
  · have h3 : t < l.length := by simpa using h2
    simp [h3]
def StepsP (Q : Exit → Act → World → Prop) (r : Option Nat) (n : Nat) (P : Program) (N : Nat) (ds : List Deferred) (l : List Oper) (J : (Nat → Bool) → (Nat → Value) → World → Prop) : Nat → List Oper → Prop
  | _, [] => True
  | i, o :: os => (∀ (e : Nat → Value) (w : World) (ls : Nat → Bool), J ls e w → (∀ j k, predAt l j k = true → ls j = true → ls k = true) → ls i = false → (∀ k, predAt l i k = true → ls k = true) →
      wpListIn (Fw r) n P l.toArray (fun x a' w' => (x = .normal ∧ ∃ v, a' = (act N e ds).put o.dst v ∧ J (setB ls i) (updO e o.dst v) w') ∨ (∃ c, x = .panic c ∧ Q (.panic c) a' w')) [o] (act N e ds) w) ∧ StepsP Q r n P N ds l J (i + 1) os
theorem stepsP_get {l : List Oper} {J : (Nat → Bool) → (Nat → Value) → World → Prop} : ∀ (os : List Oper) (i0 : Nat), StepsP Q r n P N ds l J i0 os → ∀ i o, os[i]? = some o →
    (∀ (e : Nat → Value) (w : World) (ls : Nat → Bool), J ls e w → (∀ j k, predAt l j k = true → ls j = true → ls k = true) → ls (i0 + i) = false → (∀ k, predAt l (i0 + i) k = true → ls k = true) →
      wpListIn (Fw r) n P l.toArray (fun x a' w' => (x = .normal ∧ ∃ v, a' = (act N e ds).put o.dst v ∧ J (setB ls (i0 + i)) (updO e o.dst v) w') ∨ (∃ c, x = .panic c ∧ Q (.panic c) a' w')) [o] (act N e ds) w)
  | [], _, _, i, o, h => by simp at h
  | o' :: os, i0, h, 0, o, ho => by simp at ho; subst ho; exact h.1
  | o' :: os, i0, h, i + 1, o, ho => by
    have := stepsP_get os (i0 + 1) h.2 i o (by simpa using ho)
    rwa [show i0 + 1 + i = i0 + (i + 1) by omega] at this
theorem c_stP {id : Nat} {l : List Oper} (hm : P.follows .mixedOrders = true) (M : Nat) (J : (Nat → Bool) → (Nat → Value) → World → Prop) (hJ0 : J (fun _ => false) e0 w0.drew)
    (hwf : wfB l = true) (hshape : shapeB l M = true) (hstep : StepsP Q r n P N ds l J 0 (l.take M))
    (hfin : ∀ (e : Nat → Value) (w : World) (ls : Nat → Bool), (∀ j, Nat.blt j M = true → ls j = true) → J ls e w → wpListIn (Fw r) n P l.toArray Q (l.drop M) (act N e ds) w) :
    (Code.region id l.toArray true).wpIn (Fw r) n P Q (act N e0 ds) w0 := by
  have hget : ∀ j : Nat, l.toArray[j]? = l[j]? := fun j => by rw [List.getElem?_toArray]
  refine c_stateP hm M J hJ0 ?_ ?_ ?_ (fun e w ls h1 h2 => hfin e w ls (fun j hj => h1 j (by rwa [Nat.blt_eq] at hj)) h2)
  · intro i o ho ed he hb
    rw [hget] at ho
    have h1 := List.all_eq_true.1 hwf i (List.mem_range.2 (List.getElem?_eq_some_iff.1 ho).1)
    rw [ho] at h1
    have h2 := List.all_eq_true.1 h1 ed (by simpa using he)
    simp only [hb, Bool.not_true, Bool.false_or] at h2
    rwa [Nat.blt_eq] at h2
  · simp only [shapeB, Bool.or_eq_true, Bool.and_eq_true] at hshape
    rcases hshape with ⟨⟨h1, h2⟩, h3⟩ | h
    · rw [Nat.blt_eq] at h3; exact .inl ⟨h1, h2, by simpa using h3⟩
    · exact .inr (by simpa using Nat.eq_of_beq_eq_true h)
  · intro i o hi ho e w ls hJ hcl hni hpr
    rw [hget] at ho
    have h1 := stepsP_get (l.take M) 0 hstep i o (by rw [List.getElem?_take, if_pos hi]; exact ho)
    simp only [Nat.zero_add] at h1
    refine h1 e w ls hJ (fun j k hp hl => ?_) hni (fun k hp => ?_)
    · cases hj : l[j]? with
      | none => unfold predAt at hp; rw [hj] at hp; cases hp
      | some oj =>
        obtain ⟨ed, he, hb, rfl⟩ := (pred_iff hj).1 hp
        exact hcl j oj (by rw [hget]; exact hj) hl ed he hb
    · obtain ⟨ed, he, hb, rfl⟩ := (pred_iff ho).1 hp
      exact hpr ed he hb
theorem c_stP2 {id : Nat} {l : List Oper} (hm : P.follows .mixedOrders = true) (M : Nat) (J : (Nat → Value) → (Nat → Bool) → (Nat → Value) → World → Prop) (hJ0 : J e0 (fun _ => false) e0 w0.drew)
    (hwf : wfB l = true) (hshape : shapeB l M = true) (hstep : StepsP Q r n P N ds l (J e0) 0 (l.take M))
    (hfin : ∀ (e : Nat → Value) (w : World) (ls : Nat → Bool), (∀ j, Nat.blt j M = true → ls j = true) → J e0 ls e w → wpListIn (Fw r) n P l.toArray Q (l.drop M) (act N e ds) w) :
    (Code.region id l.toArray true).wpIn (Fw r) n P Q (act N e0 ds) w0 := c_stP hm M (J e0) hJ0 hwf hshape hstep hfin
end draws
section out
variable {K : Act → World → Prop} {Q : Exit → Act → World → Prop} {a : Act} {w : World} {c : List PanicEntry}
theorem p_then (h : Q (.panic c) a w) : Exit.then K Q (.panic c) a w := h
theorem p_in {id : Nat} (h : Q (.panic c) a w) : Exit.inBlock id Q (.panic c) a w := h
theorem p_scope (h : Q (.panic c) a w) : Exit.noGoto Q (.panic c) a w := h
theorem f_pan {P : Program} {fn : Func} {R : Ending → World → Prop} {N : Nat} {e : Nat → Value} (hR : R (.panicked c) w) : bodyPost P fn R (.panic c) (act N e []) w := ⟨rfl, hR⟩
end out
theorem f_inE {P : Program} {f : FuncId} {fn : Func} {c : Code} {args : List Value} {w : World} {R : Ending → World → Prop} (hf : P.funcs[f]? = some fn) (hb : fn.body = some c)
    (h : c.wpIn (Fw none) 0 P (bodyPost P fn R) (act (args.length + (fn.ntmps - args.length)) (ent args) []) w) : Calls P f args.toArray w R := by
  refine calls_Fw (n := 0) (callsIn_of_wp hf hb trivial ?_)
  rw [act_start]
  exact h
theorem f_outE {P : Program} {fn : Func} {R : Ending → World → Prop} {N : Nat} {e : Nat → Value} {w' : World} {v : Value} (hr : (results fn (act N e []).tmps).run P w' = .ok v w') (hR : R (.returned v) w') : bodyPost P fn R .ret (act N e []) w' :=
  ⟨rfl, v, hr, hR⟩
theorem f_endE {P : Program} {fn : Func} {R : Ending → World → Prop} {N : Nat} {e : Nat → Value} {w' : World} {v : Value} (hr : (results fn (act N e []).tmps).run P w' = .ok v w') (hR : R (.returned v) w') : bodyPost P fn R .normal (act N e []) w' :=
  ⟨rfl, v, hr, hR⟩
section rows
variable {P : Program} {r : Option Nat} {n N : Nat} {e : Nat → Value} {ds : List Deferred} {w : World} {Q : Exit → Act → World → Prop} {K : Act → World → Prop}
variable {d ty : Nat} {pos : String} {af : Array Edge} {g : Option (Nat × Bool)} {v u : Value} {x y : Operand} {t t' : TypeId}
theorem k_build0 {el : TypeId} {z : Value} {size bytes : Nat} (hu : P.underlying t = some (.slice el)) (hi : Inf P el z size bytes)
    (hk : ∀ w', Ext w w' → w.heap.size < w'.heap.size → w'.ownsRow w.heap.size el size (.slice (some ⟨w.heap.size, 0, none⟩) 0 0) 0 [] → K (act N (upd e d (.slice (some ⟨w.heap.size, 0, none⟩) 0 0)) ds) w') :
    Oper.wpIn (Fw r) n P ⟨some d, .buildSlice t 0 #[], ty, pos, af, g⟩ (act N e ds) w K Q := by
  obtain ⟨i, i1, i2, i3, i4⟩ := hi.parts
  subst i3
  refine k_val (v := .slice (some ⟨w.heap.size, 0, none⟩) 0 0) (w' := w.alloc (.cells #[] el)) rfl ?_ (by
    rw [act_put]
    exact hk _ (Ext.alloc _ _) (by simp) ⟨by simp, .inr ⟨w.heap.size, 0, #[], rfl, Nat.le_refl _, heap_alloc_new w _, Nat.le_refl _, by simp [maxLen], by simp, by simp⟩⟩)
  simp [execOp, Instr.buildSlice, run_underlying hu, sizeOf, typeInfo, i1, Instr.fill, newRow]
  rw [show (Array.range 0).map (fun _ => (default : Value)) = #[] from Array.eq_empty_of_size_eq_zero (by rw [Array.size_map, Array.size_range])]
theorem l_drop {l rest : List Oper} {M : Nat} {o : Oper} {ops : Array Oper} {a : Act} (h : List.drop M l = o :: rest) (hh : wpListIn (Fw r) n P ops Q (o :: rest) a w) : wpListIn (Fw r) n P ops Q (List.drop M l) a w := by rw [h]; exact hh
end rows
end Go.Eng
namespace Go.Eng
open Go Go.RowKit
section draws
variable {P : Program} {r : Option Nat} {n N : Nat} {e0 : Nat → Value} {ds : List Deferred} {w0 : World} {Q : Exit → Act → World → Prop}
def HeadOKP (r : Option Nat) (n : Nat) (P : Program) (N : Nat) (ds : List Deferred) (l : List Oper) (M : Nat) (R : World → World → Prop) (Φ : List (Value → World → Prop)) (e0 : Nat → Value) (w0 : World) (Q : Exit → Act → World → Prop) : List Oper → List (Value → World → Prop) → Prop
  | [], _ => True
  | _ :: _, [] => False
  | o :: os, φ :: φs => (∀ (e : Nat → Value) (w : World), R w0 w → (∀ t, isDst l M t = false → e t = e0 t) → (∀ j d, predB o j = true → dstOf l j = some d → phi Φ j (e d) w) →
      wpListIn (Fw r) n P l.toArray (fun x a' w' => (x = .normal ∧ ∃ v, a' = (act N e ds).put o.dst v ∧ R w w' ∧ φ v w') ∨ (∃ c, x = .panic c ∧ Q (.panic c) a' w')) [o] (act N e ds) w) ∧ HeadOKP r n P N ds l M R Φ e0 w0 Q os φs
theorem headOKP_get {l : List Oper} {M : Nat} {R : World → World → Prop} {Φ : List (Value → World → Prop)} : ∀ (os : List Oper) (φs : List (Value → World → Prop)), HeadOKP r n P N ds l M R Φ e0 w0 Q os φs → ∀ i o, os[i]? = some o →
    (∀ (e : Nat → Value) (w : World), R w0 w → (∀ t, isDst l M t = false → e t = e0 t) → (∀ j d, predB o j = true → dstOf l j = some d → phi Φ j (e d) w) →
      wpListIn (Fw r) n P l.toArray (fun x a' w' => (x = .normal ∧ ∃ v, a' = (act N e ds).put o.dst v ∧ R w w' ∧ phi φs i v w') ∨ (∃ c, x = .panic c ∧ Q (.panic c) a' w')) [o] (act N e ds) w)
  | [], _, _, i, o, h => by simp at h
  | o' :: os, [], h, i, o, ho => h.elim
  | o' :: os, φ :: φs, h, 0, o, ho => by simp at ho; subst ho; exact h.1
  | o' :: os, φ :: φs, h, i + 1, o, ho => by
    have := headOKP_get os φs h.2 i o (by simpa using ho)
    simpa only [phi, List.getElem?_cons_succ] using this
theorem list1_mono {l : List Oper} {o : Oper} {a : Act} {w : World} {A B : Exit → Act → World → Prop} (h : wpListIn (Fw r) n P l.toArray A [o] a w) (hk : ∀ x a w, A x a w → B x a w) : wpListIn (Fw r) n P l.toArray B [o] a w := by
  unfold wpListIn at h ⊢
  split
  · rename_i hw
    rw [if_pos hw] at h
    exact oper_mono2 (fun a w h => hk _ _ _ h) (fun c a w h => hk _ _ _ h) (fun a w h => hk _ _ _ h) h
  · rename_i hw
    rw [if_neg hw] at h
    exact ⟨h.1, hk _ _ _ h.2⟩
theorem c_anyP {id : Nat} {l : List Oper} (hm : P.follows .mixedOrders = true) (M : Nat) (R : World → World → Prop) (hR0 : ∀ w, R w w.drew) (hRt : ∀ a b c, R a b → R b c → R a c) (Φ : List (Value → World → Prop))
    (hΦ : Stable R Φ) (hwf : wfB l = true) (hshape : shapeB l M = true) (hdst : dstB l M = true)
    (hstep : HeadOKP r n P N ds l M R Φ e0 w0 Q (l.take M) Φ)
    (hfin : ∀ (e : Nat → Value) (w : World), R w0 w → (∀ t, isDst l M t = false → e t = e0 t) → (∀ j d, Nat.blt j M = true → dstOf l j = some d → phi Φ j (e d) w) → wpListIn (Fw r) n P l.toArray Q (l.drop M) (act N e ds) w) :
    (Code.region id l.toArray true).wpIn (Fw r) n P Q (act N e0 ds) w0 := by
  have hget : ∀ j : Nat, l.toArray[j]? = l[j]? := fun j => by rw [List.getElem?_toArray]
  have hisd : ∀ i o d, i < M → l[i]? = some o → o.dst = some d → isDst l M d = true := by
    intro i o d hi ho hd
    refine List.any_eq_true.2 ⟨o, List.mem_iff_getElem?.2 ⟨i, by rw [List.getElem?_take, if_pos hi]; exact ho⟩, ?_⟩
    rw [hd]; exact Nat.beq_refl d
  refine c_stateP hm M (fun ls e w => R w0 w ∧ (∀ t, isDst l M t = false → e t = e0 t) ∧ (∀ j d, j < M → ls j = true → dstOf l j = some d → phi Φ j (e d) w)) ⟨hR0 w0, fun _ _ => rfl, fun j d _ h => by cases h⟩ ?_ ?_ ?_ ?_
  · intro i o ho ed he hb
    rw [hget] at ho
    have h1 := List.all_eq_true.1 hwf i (List.mem_range.2 (List.getElem?_eq_some_iff.1 ho).1)
    rw [ho] at h1
    have h2 := List.all_eq_true.1 h1 ed (by simpa using he)
    simp only [hb, Bool.not_true, Bool.false_or] at h2
    rwa [Nat.blt_eq] at h2
  · simp only [shapeB, Bool.or_eq_true, Bool.and_eq_true] at hshape
    rcases hshape with ⟨⟨h1, h2⟩, h3⟩ | h
    · rw [Nat.blt_eq] at h3; exact .inl ⟨h1, h2, by simpa using h3⟩
    · exact .inr (by simpa using Nat.eq_of_beq_eq_true h)
  · rintro i o hi ho e w ls ⟨hR, hs, hφ⟩ hcl hni hpr
    have ho2 : l[i]? = some o := by rw [← hget]; exact ho
    have h1 := headOKP_get (l.take M) Φ hstep i o (by rw [List.getElem?_take, if_pos hi]; exact ho2) e w hR hs (fun j d hp hd => by
      obtain ⟨ed, he, hb⟩ := List.any_eq_true.1 hp
      simp only [Bool.and_eq_true] at hb
      have hj := Nat.eq_of_beq_eq_true hb.2
      have hlt : ed.on < i := by
        have h1 := List.all_eq_true.1 hwf i (List.mem_range.2 (List.getElem?_eq_some_iff.1 ho2).1)
        rw [ho2] at h1
        have h2 := List.all_eq_true.1 h1 ed (by simpa using he)
        simp only [hb.1, Bool.not_true, Bool.false_or] at h2
        rwa [Nat.blt_eq] at h2
      exact hφ j d (by omega) (by rw [← hj]; exact hpr ed (by simpa using he) hb.1) hd)
    refine list1_mono h1 ?_
    rintro x a' w' (⟨hx, v, ha, hR', hv⟩ | ⟨c, hx, hq⟩)
    · refine .inl ⟨hx, v, ha, hRt _ _ _ hR hR', fun t ht => ?_, fun j d hj hl hd => ?_⟩
      · cases hd : o.dst with
        | none => exact hs t ht
        | some d =>
          have : t ≠ d := fun e => by subst e; rw [hisd i o t hi ho2 hd] at ht; cases ht
          show upd e d v t = e0 t
          rw [upd_ne _ _ this]; exact hs t ht
      · by_cases hij : j = i
        · subst hij
          have hd2 : o.dst = some d := by unfold dstOf at hd; rw [ho2] at hd; exact hd
          rw [hd2]; show phi Φ j (upd e d v d) w'; rw [upd_eq]; exact hv
        · have hl2 : ls j = true := by
            have hb : Nat.beq j i = false := by
              cases hb : Nat.beq j i with
              | false => rfl
              | true => exact absurd (Nat.eq_of_beq_eq_true hb) hij
            unfold setB at hl; rw [hb] at hl; exact hl
          have hold := stable_get hΦ j (e d) w w' hR' (hφ j d hj hl2 hd)
          cases hdo : o.dst with
          | none => exact hold
          | some d0 =>
            have hne : d ≠ d0 := fun e => by
              subst e
              have h1 := List.all_eq_true.1 (List.all_eq_true.1 hdst i (List.mem_range.2 hi)) j (List.mem_range.2 hj)
              have hdi : dstOf l i = some d := by unfold dstOf; rw [ho2]; exact hdo
              simp only [hdi, hd, Bool.or_eq_true] at h1
              rcases h1 with h1 | h1
              · exact hij (Nat.eq_of_beq_eq_true h1).symm
              · simp at h1
            show phi Φ j (upd e d0 v d) w'
            rw [upd_ne _ _ hne]; exact hold
    · exact .inr ⟨c, hx, hq⟩
  · rintro e w ls hall ⟨hR, hs, hφ⟩
    exact hfin e w hR hs (fun j d hj hd => hφ j d (by rwa [Nat.blt_eq] at hj) (hall j (by rwa [Nat.blt_eq] at hj)) hd)
end draws
section code
variable {P : Program} {r : Option Nat} {n N : Nat} {e : Nat → Value} {ds : List Deferred} {w : World} {Q : Exit → Act → World → Prop} {K : Act → World → Prop} {c1 : Code}
theorem c_join (mods : List Nat) (I : (Nat → Value) → World → Prop)
    (h1 : c1.wpIn (Fw r) n P (Exit.then (fun a' w' => ∃ e', a' = act N e' ds ∧ (∀ t, inB mods t = false → e' t = e t) ∧ I e' w') Q) (act N e ds) w)
    (h2 : ∀ e1 w1, (∀ t, inB mods t = false → e1 t = e t) → I e1 w1 → K (act N e1 ds) w1) : c1.wpIn (Fw r) n P (Exit.then K Q) (act N e ds) w :=
  wpIn_mono h1 (by
    intro x a' w' hq
    cases x <;> first | exact hq | (obtain ⟨e', rfl, h3, h4⟩ := hq; exact h2 e' w' h3 h4))
end code
end Go.Eng
