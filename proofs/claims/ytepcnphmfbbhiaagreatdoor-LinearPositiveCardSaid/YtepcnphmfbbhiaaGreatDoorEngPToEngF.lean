/- Part of the proof that all functions of the layer agree with the reference implementation. -/
import Derived.Test.YtepcnphmfbbhiaaGreatDoorEngRToEngJ
import Derived.DefersIn
import Derived.Recover
import Derived.KernelRfl
set_option linter.all false
set_option linter.all false
namespace Go.Eng
open Go Go.RowKit
def pan (t : TypeId) (c : Int) : List PanicEntry := [{ v := .iface t (.int .i64 c), recovered := false }]
def RetE {α : Type} (p : List PanicEntry) (w : World) (T : Option α) (R : α → Value → World → Prop) : Ending → World → Prop
  | .returned v, w' => Ext w w' ∧ ∃ a, T = some a ∧ R a v w'
  | .panicked c, w' => Ext w w' ∧ T = none ∧ c = p
  | .outgrown, _ => False
theorem RetE.ret {α : Type} {p : List PanicEntry} {w : World} {T : Option α} {R : α → Value → World → Prop} {a : α} (hT : T = some a) {P : Program} {f : FuncId} {args : Array Value} (h : Calls P f args w (RetE p w T R)) : Calls P f args w (Ret w (R a)) :=
  h.mono fun e w' h => by
    cases e with
    | returned v => obtain ⟨h1, a', h2, h3⟩ := h; rw [hT] at h2; cases h2; exact ⟨h1, h3⟩
    | panicked c => obtain ⟨_, h2, _⟩ := h; rw [hT] at h2; cases h2
    | outgrown => exact h.elim
def RetPan (p : List PanicEntry) (w : World) : Ending → World → Prop
  | .panicked c, w' => Ext w w' ∧ c = p
  | _, _ => False
theorem RetE.pan {α : Type} {p : List PanicEntry} {w : World} {T : Option α} {R : α → Value → World → Prop} (hT : T = none) {P : Program} {f : FuncId} {args : Array Value} (h : Calls P f args w (RetE p w T R)) : Calls P f args w (RetPan p w) :=
  h.mono fun e w' h => by
    cases e with
    | returned v => obtain ⟨h1, a', h2, h3⟩ := h; rw [hT] at h2; cases h2
    | panicked c => exact ⟨h.1, h.2.2⟩
    | outgrown => exact h.elim
theorem RetE.of {α : Type} {p : List PanicEntry} {w : World} {T : Option α} {R : α → Value → World → Prop} {P : Program} {f : FuncId} {args : Array Value} (h1 : ∀ a, T = some a → Calls P f args w (Ret w (R a))) (h2 : T = none → Calls P f args w (RetPan p w)) : Calls P f args w (RetE p w T R) := by
  cases hT : T with
  | none =>
    refine (h2 hT).mono ?_
    intro e w' h
    cases e with
    | returned v => exact h.elim
    | panicked c => exact ⟨h.1, rfl, h.2⟩
    | outgrown => exact h.elim
  | some a =>
    refine (h1 a hT).mono ?_
    intro e w' h
    cases e with
    | returned v => exact ⟨h.1, a, rfl, h.2⟩
    | panicked c => exact h.elim
    | outgrown => exact h.elim
theorem Ret.mono {w : World} {R R' : Value → World → Prop} {P : Program} {f : FuncId} {args : Array Value} (h : Calls P f args w (Ret w R)) (hr : ∀ v w', R v w' → R' v w') : Calls P f args w (Ret w R') :=
  Calls.mono h fun e w' h => by
    cases e with
    | returned v => exact ⟨h.1, hr _ _ h.2⟩
    | panicked c => exact h.elim
    | outgrown => exact h.elim
def notPtr : TypeDesc → Bool
  | .pointer _ => false
  | _ => true
def notIface : TypeDesc → Bool
  | .interface _ => false
  | _ => true
section ops
variable {P : Program} {r : Option Nat} {n N : Nat} {e : Nat → Value} {ds : List Deferred} {w w' : World} {Q : Exit → Act → World → Prop} {K : Act → World → Prop}
variable {d ty : Nat} {pos : String} {af : Array Edge} {g : Option (Nat × Bool)} {v u : Value} {x y : Operand} {t : TypeId}
theorem k_iface {D : TypeDesc} (hu : P.underlying t = some D) (hd : notIface D = true) (hx : ev N e x = v) (hk : K (act N (upd e d (.iface t v)) ds) w) :
    Oper.wpIn (Fw r) n P ⟨some d, .makeInterface t x, ty, pos, af, g⟩ (act N e ds) w K Q := by
  refine k_val (v := .iface t v) (w' := w) rfl ?_ (by rw [act_put]; exact hk)
  subst hx
  have h : (Instr.makeInterface t (ev N e x)).run P w = .ok (.iface t (ev N e x)) w := by
    unfold Instr.makeInterface
    cases D <;> first | (cases hd; done) | simp [run_underlying hu]
  simp [execOp, h]
def MethodOf (P : Program) (t : TypeId) (name : String) (f : FuncId) : Prop :=
  ∃ i m, P.info? t = some i ∧ i.methods.find? (·.name == name) = some m ∧ m.path = #[] ∧ m.func = some (f, false)
theorem methodOf {t : TypeId} {name : String} {f : FuncId} (h : ((P.info? t).bind fun i => (i.methods.find? (·.name == name)).map fun m => (m.path.size, m.func)) = some (0, some (f, false))) : MethodOf P t name f := by
  cases hi : P.info? t with
  | none => rw [hi] at h; cases h
  | some i =>
    rw [hi] at h
    simp only [Option.bind_some] at h
    cases hm : i.methods.find? (·.name == name) with
    | none => rw [hm] at h; cases h
    | some m =>
      rw [hm] at h
      simp only [Option.map_some, Option.some.injEq, Prod.mk.injEq] at h
      exact ⟨i, m, hi, hm, Array.eq_empty_of_size_eq_zero h.1, h.2⟩
theorem run_method {D : TypeDesc} {name : String} {f : FuncId} (hm : MethodOf P t name f) (hu : P.underlying t = some D) (hd : notPtr D = true) (k : Nat) (v : Value) :
    (method (k + 1) t v name).run P w = .ok (f, v) w := by
  obtain ⟨i, m, h1, h2, h3, h4⟩ := hm
  cases D <;> first | (cases hd; done) | simp [method, typeInfo, h1, h2, h3, h4, follow, receiverAt, run_underlying hu, Place.get]
theorem k_enterPan {o : Oper} {f : FuncId} {args : Array Value} {p : List PanicEntry} (hd : noDefer o.op = true) (hr : (execOp (ev N e) o).run P w = .ok (.enter f args) w)
    (hc : Calls P f args w (RetPan p w)) (hk : ∀ w', Ext w w' → Q (.panic p) (act N e ds) w') : o.wpIn (Fw r) n P (act N e ds) w K Q := by
  refine ⟨fun f _ => Fw_fn r f, ?_⟩
  rw [semAt_Fw hd, act_eval, hr]
  refine ⟨(fun h => by rw [Fw_depth] at h; cases h), Fw_calls (hc.mono ?_)⟩
  intro e' w' h
  cases e' with
  | returned v => exact h.elim
  | panicked c => obtain ⟨h1, rfl⟩ := h; exact hk w' h1
  | outgrown => exact h.elim
theorem k_callPan {dd : Option Nat} {f : FuncId} {xs : Array Operand} {ats : Array TypeId} {vs : List Value} {p : List PanicEntry} (hf : Enters P f) (hv : xs.toList.map (ev N e) = vs) (hc : Calls P f vs.toArray w (RetPan p w))
    (hk : ∀ w', Ext w w' → Q (.panic p) (act N e ds) w') : Oper.wpIn (Fw r) n P ⟨dd, .call { callee := .value (.func f), args := xs, argTypes := ats }, ty, pos, af, g⟩ (act N e ds) w K Q := by
  subst hv
  refine k_enterPan (f := f) (args := xs.map (ev N e)) rfl ?_ (by have h := hc; rwa [show (xs.toList.map (ev N e)).toArray = xs.map (ev N e) by rw [← Array.toList_map, Array.toArray_toList]] at h) hk
  simp [execOp, resolve, Deferred.ofValue, ev, invoke, hf _ _]
theorem k_callVPan {dd : Option Nat} {f : FuncId} {lb : List Value} {xs : Array Operand} {ats : Array TypeId} {vs : List Value} {p : List PanicEntry} (hf : Enters P f) (hx : ev N e x = .func (.func f) #[] lb.toArray) (hv : xs.toList.map (ev N e) = vs) (hc : Calls P f (vs ++ lb).toArray w (RetPan p w))
    (hk : ∀ w', Ext w w' → Q (.panic p) (act N e ds) w') : Oper.wpIn (Fw r) n P ⟨dd, .call { callee := .value x, args := xs, argTypes := ats }, ty, pos, af, g⟩ (act N e ds) w K Q := by
  subst hv
  have h2 : xs.map (ev N e) ++ lb.toArray = (xs.toList.map (ev N e) ++ lb).toArray := by simp
  refine k_enterPan (f := f) (args := xs.map (ev N e) ++ lb.toArray) rfl ?_ (by rw [h2]; exact hc) hk
  simp [execOp, resolve, Deferred.ofValue, hx, invoke, hf _ _]
theorem run_invoke {D : TypeDesc} {name : String} {f : FuncId} {xs : Array Operand} {vs : List Value} {cap : Array Value} (hf : Enters P f) (hm : MethodOf P t name f) (hu : P.underlying t = some D) (hd : notPtr D = true)
    (hv : xs.toList.map (ev N e) = vs) : (invoke (.fn (.method name) cap) (#[.iface t v] ++ xs.map (ev N e))).run P w = .ok (.enter f (v :: vs).toArray) w := by
  subst hv
  have h1 := run_method (P := P) (w := w) hm hu hd (P.types.size + Made.depth - 1) v
  have h0 : P.types.size + Made.depth - 1 + 1 = P.types.size + Made.depth := by
    have : 0 < Made.depth := by decide
    omega
  rw [h0] at h1
  have h2 : #[v] ++ xs.map (ev N e) = (v :: xs.toList.map (ev N e)).toArray := by simp
  have h3 : (#[Value.iface t v] ++ xs.map (ev N e)).extract 1 (#[Value.iface t v] ++ xs.map (ev N e)).size = xs.map (ev N e) := by
    apply Array.ext'
    simp
    exact List.take_of_length_le (by simp)
  have h4 : (#[Value.iface t v] ++ xs.map (ev N e))[0]? = some (.iface t v) := by rw [Array.getElem?_append_left (by simp)]; rfl
  unfold invoke
  simp only [h4, h3]
  simp [callMethod, h1, hf _ _, h2]
theorem k_invoke {D : TypeDesc} {name : String} {f : FuncId} {xs : Array Operand} {ats : Array TypeId} {vs : List Value} {R : Value → World → Prop} (hf : Enters P f) (hm : MethodOf P t name f) (hu : P.underlying t = some D) (hd : notPtr D = true)
    (hx : ev N e x = .iface t v) (hv : xs.toList.map (ev N e) = vs) (hc : Calls P f (v :: vs).toArray w (Ret w R))
    (hk : ∀ u w', Ext w w' → R u w' → K (act N (upd e d u) ds) w') : Oper.wpIn (Fw r) n P ⟨some d, .call { callee := .invoke x name, args := xs, argTypes := ats }, ty, pos, af, g⟩ (act N e ds) w K Q := by
  refine k_enter (f := f) (args := (v :: vs).toArray) (R := R) rfl ?_ hc (fun v w' h1 h2 => by rw [act_put]; exact hk v w' h1 h2)
  have h := run_invoke (P := P) (w := w) (v := v) (cap := #[]) hf hm hu hd hv
  simp only [execOp, resolve, hx]
  simpa using h
theorem k_invokePan {dd : Option Nat} {D : TypeDesc} {name : String} {f : FuncId} {xs : Array Operand} {ats : Array TypeId} {vs : List Value} {p : List PanicEntry} (hf : Enters P f) (hm : MethodOf P t name f) (hu : P.underlying t = some D) (hd : notPtr D = true)
    (hx : ev N e x = .iface t v) (hv : xs.toList.map (ev N e) = vs) (hc : Calls P f (v :: vs).toArray w (RetPan p w))
    (hk : ∀ w', Ext w w' → Q (.panic p) (act N e ds) w') : Oper.wpIn (Fw r) n P ⟨dd, .call { callee := .invoke x name, args := xs, argTypes := ats }, ty, pos, af, g⟩ (act N e ds) w K Q := by
  refine k_enterPan (f := f) (args := (v :: vs).toArray) rfl ?_ hc hk
  have h := run_invoke (P := P) (w := w) (v := v) (cap := #[]) hf hm hu hd hv
  simp only [execOp, resolve, hx]
  simpa using h
theorem k_nilM {D : TypeDesc} {name : String} {f : FuncId} {cap : Array Value} (hm : MethodOf P t name f) (hu : P.underlying t = some D) (hd : notPtr D = true)
    (hx : ev N e x = .func (.method name) #[.iface t v] cap) (hk : K (act N (upd e d (.func (.method name) #[.iface t v] cap)) ds) w) :
    Oper.wpIn (Fw r) n P ⟨some d, .nilCheck x, ty, pos, af, g⟩ (act N e ds) w K Q := by
  refine k_val (v := .func (.method name) #[.iface t v] cap) (w' := w) rfl ?_ (by rw [act_put]; exact hk)
  obtain ⟨i, m, h1, h2, h3, h4⟩ := hm
  have h0 : ∃ k, P.types.size + Made.depth = k + 1 := ⟨P.types.size + Made.depth - 1, by have : 0 < Made.depth := by decide
                                                                                         omega⟩
  obtain ⟨k, hk'⟩ := h0
  have h5 : (nilAhead (k + 1) t v name).run P w = .ok (some false) w := by
    cases D <;> first | (cases hd; done) | simp [nilAhead, typeInfo, h1, h2, h3, h4, followBlind, run_underlying hu]
  simp only [execOp, hx]
  simp [hk', h5]
theorem k_panic {ty' : TypeId} {u : Value} (hx : ev N e x = .iface ty' u) (hk : Q (.panic [{ v := .iface ty' u, recovered := false }]) (act N e ds) w) :
    Oper.wpIn (Fw r) n P ⟨none, .panic x, ty, pos, af, g⟩ (act N e ds) w K Q := by
  refine ⟨fun f _ => Fw_fn r f, ?_⟩
  rw [semAt_Fw rfl, act_eval]
  have : (execOp (ev N e) ⟨none, .panic x, ty, pos, af, g⟩).run P w = .halt (.panic (.iface ty' u)) w := by
    simp [execOp, hx, Instr.panic, goPanic]
  rw [this]
  exact hk
end ops
section draws
variable {P : Program} {r : Option Nat} {n N : Nat} {e0 : Nat → Value} {ds : List Deferred} {w0 : World} {Q : Exit → Act → World → Prop} {ops : Array Oper} {M : Nat}
theorem c_stateP {id : Nat} {l : List Oper} (hm : P.follows .mixedOrders = true) (M : Nat) (J : (Nat → Bool) → (Nat → Value) → World → Prop) (hJ0 : J (fun _ => false) e0 w0.drew)
    (hwf : ∀ (i : Nat) (o : Oper), l.toArray[i]? = some o → ∀ e ∈ o.after, Region.binds .any e = true → e.on < i)
    (hshape : Region.sinkB .any l.toArray M = true ∧ Region.chainB .any l.toArray M = true ∧ M < l.toArray.size ∨ M = l.toArray.size)
    (hstep : ∀ (i : Nat) (o : Oper), i < M → l.toArray[i]? = some o → ∀ (e : Nat → Value) (w : World) (ls : Nat → Bool), J ls e w → (∀ j oj, l.toArray[j]? = some oj → ls j = true → ∀ ed ∈ oj.after, Region.binds .any ed = true → ls ed.on = true) → ls i = false → (∀ ed ∈ o.after, Region.binds .any ed = true → ls ed.on = true) →
      wpListIn (Fw r) n P l.toArray (fun x a' w' => (x = .normal ∧ ∃ v, a' = (act N e ds).put o.dst v ∧ J (setB ls i) (updO e o.dst v) w') ∨ (∃ c, x = .panic c ∧ Q (.panic c) a' w')) [o] (act N e ds) w)
    (hfin : ∀ (e : Nat → Value) (w : World) (ls : Nat → Bool), (∀ j, j < M → ls j = true) → J ls e w → wpListIn (Fw r) n P l.toArray Q (l.drop M) (act N e ds) w) :
    (Code.region id l.toArray true).wpIn (Fw r) n P Q (act N e0 ds) w0 := by
  have hMle : M ≤ l.toArray.size := by rcases hshape with ⟨_, _, h⟩ | h <;> omega
  have hchain : Region.chainB .any l.toArray M = true := by
    rcases hshape with ⟨_, h, _⟩ | h
    · exact h
    · refine List.all_eq_true.2 fun t ht => ?_
      have := List.mem_range.1 ht
      simp only [Bool.or_eq_true, decide_eq_true_eq]
      left; omega
  refine wpIn_region_any hm ?_
  have main : ∀ (fuel : Nat) (listed : Array Bool) (e : Nat → Value) (w : World), left l.toArray listed ≤ fuel → HeadInv .any l.toArray M listed → J (fun j => listed.getD j false) e w →
      wpAnyIn (Fw r) n P .any l.toArray Q fuel listed (act N e ds) w := by
    intro fuel
    induction fuel with
    | zero =>
      intro listed e w hf inv hJ
      have hall : ∀ i, i < l.toArray.size → listed.getD i false = true := by
        intro i hi
        cases hb : listed.getD i false with
        | true => rfl
        | false =>
          have := left_set hi inv.size hb
          omega
      refine tail_run hchain hwf 0 l.toArray.size listed _ w 0 rfl hMle inv.size hall (fun i h1 h2 => by omega) (Nat.le_refl _) ?_
      by_cases hM : M = l.toArray.size
      · have h := hfin e w _ (fun j hj => hall j (by omega)) hJ
        rw [hM] at h
        simpa using h
      · have h1 := inv.tail M (Nat.le_refl _) (by omega)
        have h2 := hall M (by omega)
        rw [getD_both h1] at h2
        cases h2
    | succ fuel ih =>
      intro listed e w hf inv hJ
      by_cases hdone : ∀ i, i < M → listed.getD i false = true
      · refine tail_run hchain hwf (l.toArray.size - M) M listed _ w (fuel + 1) (by omega) (Nat.le_refl _) inv.size hdone (fun i h1 h2 => inv.tail i h1 h2) ?_ ?_
        · have h1 : l.toArray.size - M ≤ left l.toArray listed := left_tail hMle (fun i h1 h2 => getD_both (inv.tail i h1 h2))
          omega
        · simpa using hfin e w _ (fun j hj => hdone j hj) hJ
      · have hex : ∃ i, i < M ∧ listed.getD i false = false := by
          refine Classical.byContradiction fun hn => hdone fun i hi => ?_
          cases hb : listed.getD i false with
          | true => rfl
          | false => exact absurd ⟨i, hi, hb⟩ hn
        obtain ⟨i0, hi0, hb0⟩ := hex
        have hin : ∀ i ∈ Region.ready .any l.toArray listed, i < M := by
          intro i hi
          rcases Nat.lt_or_ge i M with h | h
          · exact h
          · rcases hshape with ⟨h1, h2, h3⟩ | h3
            · exact absurd hi (tail_waits h1 h2 h3 inv _ i0 rfl hi0 (getD_in (by rw [inv.size]; omega) hb0) i h)
            · obtain ⟨_, o, ho, _⟩ := mem_ready.1 hi
              have := (Array.getElem?_eq_some_iff.1 ho).1
              omega
        refine ⟨fun h0 => ?_, fun i hi => ?_⟩
        ·
          exfalso
          have least : ∀ k i, i ≤ k → i < l.toArray.size → listed.getD i false = false → ∃ j, j ∈ Region.ready .any l.toArray listed := by
            intro k
            induction k with
            | zero =>
              intro i hi hl hb
              obtain rfl : i = 0 := by omega
              refine ⟨0, mem_ready.2 ⟨getD_in (by rw [inv.size]; exact hl) hb, l.toArray[0], Array.getElem?_eq_getElem hl, fun ed he hbb => ?_⟩⟩
              have := hwf 0 _ (Array.getElem?_eq_getElem hl) ed he hbb
              omega
            | succ k ihk =>
              intro i hi hl hb
              by_cases hp : ∀ ed ∈ (l.toArray[i]).after, Region.binds .any ed = true → listed.getD ed.on false = true
              · exact ⟨i, mem_ready.2 ⟨getD_in (by rw [inv.size]; exact hl) hb, l.toArray[i], Array.getElem?_eq_getElem hl, hp⟩⟩
              · have : ∃ ed ∈ (l.toArray[i]).after, Region.binds .any ed = true ∧ listed.getD ed.on false = false := by
                  refine Classical.byContradiction fun hn => hp fun ed he hbb => ?_
                  cases hb : listed.getD ed.on false with
                  | true => rfl
                  | false => exact absurd ⟨ed, he, hbb, hb⟩ hn
                obtain ⟨ed, he, hbb, hun⟩ := this
                have hlt := hwf i _ (Array.getElem?_eq_getElem hl) ed he hbb
                exact ihk ed.on (by omega) (by omega) hun
          obtain ⟨j, hj⟩ := least i0 i0 (Nat.le_refl _) (by omega) hb0
          rw [h0] at hj
          cases hj
        · have hiM := hin i hi
          obtain ⟨hun, o, ho, hpred⟩ := mem_ready.1 hi
          have hst := hstep i o hiM ho e w (fun j => listed.getD j false) hJ (fun j oj hj hl => inv.closed j oj hj hl) (getD_both hun) hpred
          have hnext : ∀ a' w', (∃ v, a' = (act N e ds).put o.dst v ∧ J (setB (fun j => listed.getD j false) i) (updO e o.dst v) w') → wpAnyIn (Fw r) n P .any l.toArray Q fuel (listed.setIfInBounds i true) a' w' := by
            rintro a' w' ⟨v, rfl, hJ'⟩
            have hil : i < l.toArray.size := by omega
            have hJ2 : J (fun j => (listed.setIfInBounds i true).getD j false) (updO e o.dst v) w' := by
              have e' : (fun j => (listed.setIfInBounds i true).getD j false) = setB (fun j => listed.getD j false) i := by
                funext j
                by_cases hj : j = i
                · subst hj; unfold setB; simp; have := inv.size; simp [this]; omega
                · have hb : Nat.beq j i = false := by
                    cases hb : Nat.beq j i with
                    | false => rfl
                    | true => exact absurd (Nat.eq_of_beq_eq_true hb) hj
                  unfold setB; rw [hb]; simp only; rw [getD_set_ne false (fun h => hj h.symm)]
              rw [e']; exact hJ'
            have hlf : left l.toArray (listed.setIfInBounds i true) ≤ fuel := by
              have := left_set hil inv.size (getD_both hun)
              omega
            cases hd : o.dst with
            | none =>
              rw [hd] at hJ2
              exact ih _ e w' hlf (inv.set hi hiM) hJ2
            | some d0 =>
              rw [hd] at hJ2
              rw [act_put]
              exact ih _ _ w' hlf (inv.set hi hiM) hJ2
          unfold wpOpIn
          rw [ho]
          dsimp only
          unfold wpListIn at hst
          split
          · rename_i hw
            rw [if_pos hw] at hst
            exact oper_mono2 (fun a' w' hh => by
              rcases hh with hh | ⟨c, hc, _⟩
              · exact hnext a' w' hh.2
              · cases hc) (fun c a w h => by
              rcases h with h | ⟨c', hc, hq⟩
              · cases h.1
              · cases hc; exact hq) (fun a w h => by
              rcases h with h | ⟨c', hc, hq⟩
              · cases h.1
              · cases hc) hst
          · rename_i hw
            rw [if_neg hw] at hst
            refine ⟨hst.1, ?_⟩
            rcases hst.2 with hh | ⟨c, hc, _⟩
            · exact hnext _ _ hh.2
            · cases hc
  refine main _ _ e0 w0.drew ?_ ⟨by simp, fun j oj hj hl => ?_, fun t h1 h2 => ?_⟩ ((congrArg (fun f => J f e0 w0.drew) (funext fun j => getD_replicate_false _ j)).mpr hJ0)
  · unfold left
    exact Nat.le_trans (List.length_filter_le _ _) (by simp)
  · rw [getD_replicate_false] at hl; cases hl
  · have h3 : t < l.length := by simpa using h2
    simp [h3]
def StepsP (Q : Exit → Act → World → Prop) (r : Option Nat) (n : Nat) (P : Program) (N : Nat) (ds : List Deferred) (l : List Oper) (J : (Nat → Bool) → (Nat → Value) → World → Prop) : Nat → List Oper → Prop
  | _, [] => True
  | i, o :: os => (∀ (e : Nat → Value) (w : World) (ls : Nat → Bool), J ls e w → (∀ j k, predAt l j k = true → ls j = true → ls k = true) → ls i = false → (∀ k, predAt l i k = true → ls k = true) →
      wpListIn (Fw r) n P l.toArray (fun x a' w' => (x = .normal ∧ ∃ v, a' = (act N e ds).put o.dst v ∧ J (setB ls i) (updO e o.dst v) w') ∨ (∃ c, x = .panic c ∧ Q (.panic c) a' w')) [o] (act N e ds) w) ∧ StepsP Q r n P N ds l J (i + 1) os
theorem stepsP_get {l : List Oper} {J : (Nat → Bool) → (Nat → Value) → World → Prop} : ∀ (os : List Oper) (i0 : Nat), StepsP Q r n P N ds l J i0 os → ∀ i o, os[i]? = some o →
    (∀ (e : Nat → Value) (w : World) (ls : Nat → Bool), J ls e w → (∀ j k, predAt l j k = true → ls j = true → ls k = true) → ls (i0 + i) = false → (∀ k, predAt l (i0 + i) k = true → ls k = true) →
      wpListIn (Fw r) n P l.toArray (fun x a' w' => (x = .normal ∧ ∃ v, a' = (act N e ds).put o.dst v ∧ J (setB ls (i0 + i)) (updO e o.dst v) w') ∨ (∃ c, x = .panic c ∧ Q (.panic c) a' w')) [o] (act N e ds) w)
  | [], _, _, i, o, h => by simp at h
  | o' :: os, i0, h, 0, o, ho => by simp at ho; subst ho; exact h.1
  | o' :: os, i0, h, i + 1, o, ho => by
    have := stepsP_get os (i0 + 1) h.2 i o (by simpa using ho)
    rwa [show i0 + 1 + i = i0 + (i + 1) by omega] at this
theorem c_stP {id : Nat} {l : List Oper} (hm : P.follows .mixedOrders = true) (M : Nat) (J : (Nat → Bool) → (Nat → Value) → World → Prop) (hJ0 : J (fun _ => false) e0 w0.drew)
    (hwf : wfB l = true) (hshape : shapeB l M = true) (hstep : StepsP Q r n P N ds l J 0 (l.take M))
    (hfin : ∀ (e : Nat → Value) (w : World) (ls : Nat → Bool), (∀ j, Nat.blt j M = true → ls j = true) → J ls e w → wpListIn (Fw r) n P l.toArray Q (l.drop M) (act N e ds) w) :
    (Code.region id l.toArray true).wpIn (Fw r) n P Q (act N e0 ds) w0 := by
  have hget : ∀ j : Nat, l.toArray[j]? = l[j]? := fun j => by rw [List.getElem?_toArray]
  refine c_stateP hm M J hJ0 ?_ ?_ ?_ (fun e w ls h1 h2 => hfin e w ls (fun j hj => h1 j (by rwa [Nat.blt_eq] at hj)) h2)
  · intro i o ho ed he hb
    rw [hget] at ho
    have h1 := List.all_eq_true.1 hwf i (List.mem_range.2 (List.getElem?_eq_some_iff.1 ho).1)
    rw [ho] at h1
    have h2 := List.all_eq_true.1 h1 ed (by simpa using he)
    simp only [hb, Bool.not_true, Bool.false_or] at h2
    rwa [Nat.blt_eq] at h2
  · simp only [shapeB, Bool.or_eq_true, Bool.and_eq_true] at hshape
    rcases hshape with ⟨⟨h1, h2⟩, h3⟩ | h
    · rw [Nat.blt_eq] at h3; exact .inl ⟨h1, h2, by simpa using h3⟩
    · exact .inr (by simpa using Nat.eq_of_beq_eq_true h)
  · intro i o hi ho e w ls hJ hcl hni hpr
    rw [hget] at ho
    have h1 := stepsP_get (l.take M) 0 hstep i o (by rw [List.getElem?_take, if_pos hi]; exact ho)
    simp only [Nat.zero_add] at h1
    refine h1 e w ls hJ (fun j k hp hl => ?_) hni (fun k hp => ?_)
    · cases hj : l[j]? with
      | none => unfold predAt at hp; rw [hj] at hp; cases hp
      | some oj =>
        obtain ⟨ed, he, hb, rfl⟩ := (pred_iff hj).1 hp
        exact hcl j oj (by rw [hget]; exact hj) hl ed he hb
    · obtain ⟨ed, he, hb, rfl⟩ := (pred_iff ho).1 hp
      exact hpr ed he hb
end draws
section out
variable {K : Act → World → Prop} {Q : Exit → Act → World → Prop} {a : Act} {w : World} {c : List PanicEntry}
theorem p_then (h : Q (.panic c) a w) : Exit.then K Q (.panic c) a w := h
theorem p_in {id : Nat} (h : Q (.panic c) a w) : Exit.inBlock id Q (.panic c) a w := h
theorem p_scope (h : Q (.panic c) a w) : Exit.noGoto Q (.panic c) a w := h
theorem f_pan {P : Program} {fn : Func} {R : Ending → World → Prop} {N : Nat} {e : Nat → Value} (hR : R (.panicked c) w) : bodyPost P fn R (.panic c) (act N e []) w := ⟨rfl, hR⟩
end out
theorem f_inE {P : Program} {f : FuncId} {fn : Func} {c : Code} {args : List Value} {w : World} {R : Ending → World → Prop} (hf : P.funcs[f]? = some fn) (hb : fn.body = some c)
    (h : c.wpIn (Fw none) 0 P (bodyPost P fn R) (act (args.length + (fn.ntmps - args.length)) (ent args) []) w) : Calls P f args.toArray w R := by
  refine calls_Fw (n := 0) (callsIn_of_wp hf hb trivial ?_)
  rw [act_start]
  exact h
theorem f_outE {P : Program} {fn : Func} {R : Ending → World → Prop} {N : Nat} {e : Nat → Value} {w' : World} {v : Value} (hr : (results fn (act N e []).tmps).run P w' = .ok v w') (hR : R (.returned v) w') : bodyPost P fn R .ret (act N e []) w' :=
  ⟨rfl, v, hr, hR⟩
section rows
variable {P : Program} {r : Option Nat} {n N : Nat} {e : Nat → Value} {ds : List Deferred} {w : World} {Q : Exit → Act → World → Prop} {K : Act → World → Prop}
variable {d ty : Nat} {pos : String} {af : Array Edge} {g : Option (Nat × Bool)} {v u : Value} {x y : Operand} {t t' : TypeId}
theorem k_build0 {el : TypeId} {z : Value} {size bytes : Nat} (hu : P.underlying t = some (.slice el)) (hi : Inf P el z size bytes)
    (hk : ∀ w', Ext w w' → w.heap.size < w'.heap.size → w'.ownsRow w.heap.size el size (.slice (some ⟨w.heap.size, 0, none⟩) 0 0) 0 [] → K (act N (upd e d (.slice (some ⟨w.heap.size, 0, none⟩) 0 0)) ds) w') :
    Oper.wpIn (Fw r) n P ⟨some d, .buildSlice t 0 #[], ty, pos, af, g⟩ (act N e ds) w K Q := by
  obtain ⟨i, i1, i2, i3, i4⟩ := hi.parts
  subst i3
  refine k_val (v := .slice (some ⟨w.heap.size, 0, none⟩) 0 0) (w' := w.alloc (.cells #[] el)) rfl ?_ (by
    rw [act_put]
    exact hk _ (Ext.alloc _ _) (by simp) ⟨by simp, .inr ⟨w.heap.size, 0, #[], rfl, Nat.le_refl _, heap_alloc_new w _, Nat.le_refl _, by simp [maxLen], by simp, by simp⟩⟩)
  simp [execOp, Instr.buildSlice, run_underlying hu, sizeOf, typeInfo, i1, Instr.fill, newRow]
  rw [show (Array.range 0).map (fun _ => (default : Value)) = #[] from Array.eq_empty_of_size_eq_zero (by rw [Array.size_map, Array.size_range])]
theorem l_drop {l rest : List Oper} {M : Nat} {o : Oper} {ops : Array Oper} {a : Act} (h : List.drop M l = o :: rest) (hh : wpListIn (Fw r) n P ops Q (o :: rest) a w) : wpListIn (Fw r) n P ops Q (List.drop M l) a w := by rw [h]; exact hh
end rows
end Go.Eng
set_option linter.all false
namespace Go.Eng
open Go Go.RowKit
section draws
variable {P : Program} {r : Option Nat} {n N : Nat} {e0 : Nat → Value} {ds : List Deferred} {w0 : World} {Q : Exit → Act → World → Prop}
def HeadOKP (r : Option Nat) (n : Nat) (P : Program) (N : Nat) (ds : List Deferred) (l : List Oper) (M : Nat) (R : World → World → Prop) (Φ : List (Value → World → Prop)) (e0 : Nat → Value) (w0 : World) (Q : Exit → Act → World → Prop) : List Oper → List (Value → World → Prop) → Prop
  | [], _ => True
  | _ :: _, [] => False
  | o :: os, φ :: φs => (∀ (e : Nat → Value) (w : World), R w0 w → (∀ t, isDst l M t = false → e t = e0 t) → (∀ j d, predB o j = true → dstOf l j = some d → phi Φ j (e d) w) →
      wpListIn (Fw r) n P l.toArray (fun x a' w' => (x = .normal ∧ ∃ v, a' = (act N e ds).put o.dst v ∧ R w w' ∧ φ v w') ∨ (∃ c, x = .panic c ∧ Q (.panic c) a' w')) [o] (act N e ds) w) ∧ HeadOKP r n P N ds l M R Φ e0 w0 Q os φs
theorem headOKP_get {l : List Oper} {M : Nat} {R : World → World → Prop} {Φ : List (Value → World → Prop)} : ∀ (os : List Oper) (φs : List (Value → World → Prop)), HeadOKP r n P N ds l M R Φ e0 w0 Q os φs → ∀ i o, os[i]? = some o →
    (∀ (e : Nat → Value) (w : World), R w0 w → (∀ t, isDst l M t = false → e t = e0 t) → (∀ j d, predB o j = true → dstOf l j = some d → phi Φ j (e d) w) →
      wpListIn (Fw r) n P l.toArray (fun x a' w' => (x = .normal ∧ ∃ v, a' = (act N e ds).put o.dst v ∧ R w w' ∧ phi φs i v w') ∨ (∃ c, x = .panic c ∧ Q (.panic c) a' w')) [o] (act N e ds) w)
  | [], _, _, i, o, h => by simp at h
  | o' :: os, [], h, i, o, ho => h.elim
  | o' :: os, φ :: φs, h, 0, o, ho => by simp at ho; subst ho; exact h.1
  | o' :: os, φ :: φs, h, i + 1, o, ho => by
    have := headOKP_get os φs h.2 i o (by simpa using ho)
    simpa only [phi, List.getElem?_cons_succ] using this
theorem list1_mono {l : List Oper} {o : Oper} {a : Act} {w : World} {A B : Exit → Act → World → Prop} (h : wpListIn (Fw r) n P l.toArray A [o] a w) (hk : ∀ x a w, A x a w → B x a w) : wpListIn (Fw r) n P l.toArray B [o] a w := by
  unfold wpListIn at h ⊢
  split
  · rename_i hw
    rw [if_pos hw] at h
    exact oper_mono2 (fun a w h => hk _ _ _ h) (fun c a w h => hk _ _ _ h) (fun a w h => hk _ _ _ h) h
  · rename_i hw
    rw [if_neg hw] at h
    exact ⟨h.1, hk _ _ _ h.2⟩
theorem c_anyP {id : Nat} {l : List Oper} (hm : P.follows .mixedOrders = true) (M : Nat) (R : World → World → Prop) (hR0 : ∀ w, R w w.drew) (hRt : ∀ a b c, R a b → R b c → R a c) (Φ : List (Value → World → Prop))
    (hΦ : Stable R Φ) (hwf : wfB l = true) (hshape : shapeB l M = true) (hdst : dstB l M = true)
    (hstep : HeadOKP r n P N ds l M R Φ e0 w0 Q (l.take M) Φ)
    (hfin : ∀ (e : Nat → Value) (w : World), R w0 w → (∀ t, isDst l M t = false → e t = e0 t) → (∀ j d, Nat.blt j M = true → dstOf l j = some d → phi Φ j (e d) w) → wpListIn (Fw r) n P l.toArray Q (l.drop M) (act N e ds) w) :
    (Code.region id l.toArray true).wpIn (Fw r) n P Q (act N e0 ds) w0 := by
  have hget : ∀ j : Nat, l.toArray[j]? = l[j]? := fun j => by rw [List.getElem?_toArray]
  have hisd : ∀ i o d, i < M → l[i]? = some o → o.dst = some d → isDst l M d = true := by
    intro i o d hi ho hd
    refine List.any_eq_true.2 ⟨o, List.mem_iff_getElem?.2 ⟨i, by rw [List.getElem?_take, if_pos hi]; exact ho⟩, ?_⟩
    rw [hd]; exact Nat.beq_refl d
  refine c_stateP hm M (fun ls e w => R w0 w ∧ (∀ t, isDst l M t = false → e t = e0 t) ∧ (∀ j d, j < M → ls j = true → dstOf l j = some d → phi Φ j (e d) w)) ⟨hR0 w0, fun _ _ => rfl, fun j d _ h => by cases h⟩ ?_ ?_ ?_ ?_
  · intro i o ho ed he hb
    rw [hget] at ho
    have h1 := List.all_eq_true.1 hwf i (List.mem_range.2 (List.getElem?_eq_some_iff.1 ho).1)
    rw [ho] at h1
    have h2 := List.all_eq_true.1 h1 ed (by simpa using he)
    simp only [hb, Bool.not_true, Bool.false_or] at h2
    rwa [Nat.blt_eq] at h2
  · simp only [shapeB, Bool.or_eq_true, Bool.and_eq_true] at hshape
    rcases hshape with ⟨⟨h1, h2⟩, h3⟩ | h
    · rw [Nat.blt_eq] at h3; exact .inl ⟨h1, h2, by simpa using h3⟩
    · exact .inr (by simpa using Nat.eq_of_beq_eq_true h)
  · rintro i o hi ho e w ls ⟨hR, hs, hφ⟩ hcl hni hpr
    have ho2 : l[i]? = some o := by rw [← hget]; exact ho
    have h1 := headOKP_get (l.take M) Φ hstep i o (by rw [List.getElem?_take, if_pos hi]; exact ho2) e w hR hs (fun j d hp hd => by
      obtain ⟨ed, he, hb⟩ := List.any_eq_true.1 hp
      simp only [Bool.and_eq_true] at hb
      have hj := Nat.eq_of_beq_eq_true hb.2
      have hlt : ed.on < i := by
        have h1 := List.all_eq_true.1 hwf i (List.mem_range.2 (List.getElem?_eq_some_iff.1 ho2).1)
        rw [ho2] at h1
        have h2 := List.all_eq_true.1 h1 ed (by simpa using he)
        simp only [hb.1, Bool.not_true, Bool.false_or] at h2
        rwa [Nat.blt_eq] at h2
      exact hφ j d (by omega) (by rw [← hj]; exact hpr ed (by simpa using he) hb.1) hd)
    refine list1_mono h1 ?_
    rintro x a' w' (⟨hx, v, ha, hR', hv⟩ | ⟨c, hx, hq⟩)
    · refine .inl ⟨hx, v, ha, hRt _ _ _ hR hR', fun t ht => ?_, fun j d hj hl hd => ?_⟩
      · cases hd : o.dst with
        | none => exact hs t ht
        | some d =>
          have : t ≠ d := fun e => by subst e; rw [hisd i o t hi ho2 hd] at ht; cases ht
          show upd e d v t = e0 t
          rw [upd_ne _ _ this]; exact hs t ht
      · by_cases hij : j = i
        · subst hij
          have hd2 : o.dst = some d := by unfold dstOf at hd; rw [ho2] at hd; exact hd
          rw [hd2]; show phi Φ j (upd e d v d) w'; rw [upd_eq]; exact hv
        · have hl2 : ls j = true := by
            have hb : Nat.beq j i = false := by
              cases hb : Nat.beq j i with
              | false => rfl
              | true => exact absurd (Nat.eq_of_beq_eq_true hb) hij
            unfold setB at hl; rw [hb] at hl; exact hl
          have hold := stable_get hΦ j (e d) w w' hR' (hφ j d hj hl2 hd)
          cases hdo : o.dst with
          | none => exact hold
          | some d0 =>
            have hne : d ≠ d0 := fun e => by
              subst e
              have h1 := List.all_eq_true.1 (List.all_eq_true.1 hdst i (List.mem_range.2 hi)) j (List.mem_range.2 hj)
              have hdi : dstOf l i = some d := by unfold dstOf; rw [ho2]; exact hdo
              simp only [hdi, hd, Bool.or_eq_true] at h1
              rcases h1 with h1 | h1
              · exact hij (Nat.eq_of_beq_eq_true h1).symm
              · simp at h1
            show phi Φ j (upd e d0 v d) w'
            rw [upd_ne _ _ hne]; exact hold
    · exact .inr ⟨c, hx, hq⟩
  · rintro e w ls hall ⟨hR, hs, hφ⟩
    exact hfin e w hR hs (fun j d hj hd => hφ j d (by rwa [Nat.blt_eq] at hj) (hall j (by rwa [Nat.blt_eq] at hj)) hd)
end draws
end Go.Eng
set_option linter.all false
namespace Go.Eng
open Go Go.RowKit
def Hv (a v : Value) : Prop := a = v
theorem Hv.of {a v : Value} (h : a = v) : Hv a v := h
theorem Hv.str {l : List UInt8} : Hv (S l) (S l) := rfl
theorem Hv.ofk {a v : Value} (h : a = v) (_ : Hv v v) : Hv a v := h
theorem Hv.int {k : IntKind} {i : Int} : Hv (.int k i) (.int k i) := rfl
theorem Hv.slice {A : Option Addr} {m c : Nat} : Hv (.slice A m c) (.slice A m c) := rfl
theorem Hv.agg {l : Array Value} : Hv (.agg l) (.agg l) := rfl
theorem Hv.pointer {b : Option Addr} : Hv (.pointer b) (.pointer b) := rfl
theorem Hv.bool {b : Bool} : Hv (.bool b) (.bool b) := rfl
theorem Hv.tuple {l : Array Value} : Hv (.tuple l) (.tuple l) := rfl
theorem Hv.iface {t : TypeId} {v : Value} : Hv (.iface t v) (.iface t v) := rfl
theorem Hv.func {f : Fn} {x y : Array Value} : Hv (.func f x y) (.func f x y) := rfl
theorem Hv.nilIface : Hv .nilIface .nilIface := rfl
theorem zvv {a v : Value} (h : Hv a v := by
  first
    | exact Hv.of (rfl : _ = S _)
    | (conv => arg 1; whnf
       first
         | with_reducible first
           | exact Hv.int
           | exact Hv.slice
           | exact Hv.agg
           | exact Hv.pointer
           | exact Hv.bool
           | exact Hv.tuple
           | exact Hv.iface
           | exact Hv.func
           | exact Hv.nilIface
         | exact Hv.ofk (by with_reducible assumption) (by
             with_reducible first
             | exact Hv.int
             | exact Hv.slice
             | exact Hv.str
             | exact Hv.agg
             | exact Hv.pointer
             | exact Hv.bool
             | exact Hv.tuple
             | exact Hv.iface
             | exact Hv.func
             | exact Hv.nilIface))) : a = v := h
theorem zvx {a v : Value} (h : Hv a v := by
  first
  | exact Hv.of (by exact rfl)
  | (conv => arg 1; whnf
     exact Hv.of (by with_reducible assumption))) : a = v := h
section
variable {P : Program} {r : Option Nat} {n N : Nat} {e : Nat → Value} {ds : List Deferred} {w : World} {Q : Exit → Act → World → Prop} {K : Act → World → Prop} {a : Act}
variable {ops : Array Oper} {rest : List Oper} {dst : Option Tmp} {op : Op} {d ty : Nat} {pos : String} {af : Array Edge} {id : Nat} {c c1 c2 : Code} {x y : Operand} {v : Value}
theorem q_move (hk : wpListIn (Fw r) n P ops Q rest (act N (upd e d v) ds) w) (hx : ev N e x = v := by exact zvv) : wpListIn (Fw r) n P ops Q (⟨some d, .move x, ty, pos, af, none⟩ :: rest) (act N e ds) w := l_op (k_move hx hk)
theorem q_assign (hk : wpListIn (Fw r) n P ops Q rest (act N (upd e d v) ds) w) (hx : ev N e x = v := by exact zvv) : wpListIn (Fw r) n P ops Q (⟨some d, .assign x, ty, pos, af, none⟩ :: rest) (act N e ds) w := l_op (k_assign hx hk)
theorem q_ex20 {b : Value} (hk : wpListIn (Fw r) n P ops Q rest (act N (upd e d v) ds) w) (hx : ev N e x = .tuple #[v, b] := by exact zvx) : wpListIn (Fw r) n P ops Q (⟨some d, .extract x 0, ty, pos, af, none⟩ :: rest) (act N e ds) w := l_op (k_extract hx rfl hk)
theorem q_ex21 {b : Value} (hk : wpListIn (Fw r) n P ops Q rest (act N (upd e d v) ds) w) (hx : ev N e x = .tuple #[b, v] := by exact zvx) : wpListIn (Fw r) n P ops Q (⟨some d, .extract x 1, ty, pos, af, none⟩ :: rest) (act N e ds) w := l_op (k_extract hx rfl hk)
theorem q_ex30 {b c : Value} (hk : wpListIn (Fw r) n P ops Q rest (act N (upd e d v) ds) w) (hx : ev N e x = .tuple #[v, b, c] := by exact zvx) : wpListIn (Fw r) n P ops Q (⟨some d, .extract x 0, ty, pos, af, none⟩ :: rest) (act N e ds) w := l_op (k_extract hx rfl hk)
theorem q_ex31 {b c : Value} (hk : wpListIn (Fw r) n P ops Q rest (act N (upd e d v) ds) w) (hx : ev N e x = .tuple #[b, v, c] := by exact zvx) : wpListIn (Fw r) n P ops Q (⟨some d, .extract x 1, ty, pos, af, none⟩ :: rest) (act N e ds) w := l_op (k_extract hx rfl hk)
theorem q_ex32 {b c : Value} (hk : wpListIn (Fw r) n P ops Q rest (act N (upd e d v) ds) w) (hx : ev N e x = .tuple #[b, c, v] := by exact zvx) : wpListIn (Fw r) n P ops Q (⟨some d, .extract x 2, ty, pos, af, none⟩ :: rest) (act N e ds) w := l_op (k_extract hx rfl hk)
theorem q_ex40 {b c g : Value} (hk : wpListIn (Fw r) n P ops Q rest (act N (upd e d v) ds) w) (hx : ev N e x = .tuple #[v, b, c, g] := by exact zvx) : wpListIn (Fw r) n P ops Q (⟨some d, .extract x 0, ty, pos, af, none⟩ :: rest) (act N e ds) w := l_op (k_extract hx rfl hk)
theorem q_ex41 {b c g : Value} (hk : wpListIn (Fw r) n P ops Q rest (act N (upd e d v) ds) w) (hx : ev N e x = .tuple #[b, v, c, g] := by exact zvx) : wpListIn (Fw r) n P ops Q (⟨some d, .extract x 1, ty, pos, af, none⟩ :: rest) (act N e ds) w := l_op (k_extract hx rfl hk)
theorem q_ex42 {b c g : Value} (hk : wpListIn (Fw r) n P ops Q rest (act N (upd e d v) ds) w) (hx : ev N e x = .tuple #[b, c, v, g] := by exact zvx) : wpListIn (Fw r) n P ops Q (⟨some d, .extract x 2, ty, pos, af, none⟩ :: rest) (act N e ds) w := l_op (k_extract hx rfl hk)
theorem q_ex43 {b c g : Value} (hk : wpListIn (Fw r) n P ops Q rest (act N (upd e d v) ds) w) (hx : ev N e x = .tuple #[b, c, g, v] := by exact zvx) : wpListIn (Fw r) n P ops Q (⟨some d, .extract x 3, ty, pos, af, none⟩ :: rest) (act N e ds) w := l_op (k_extract hx rfl hk)
def isSl (P : Program) (t : TypeId) : Bool := match P.underlying t with | some (.slice _) => true | _ => false
theorem isSl_some {P : Program} {t : TypeId} (h : isSl P t = true) : ∃ D, P.underlying t = some (.slice D) := by
  unfold isSl at h; split at h
  · rename_i D hh; exact ⟨D, hh⟩
  · cases h
theorem q_len {t : TypeId} {A : Option Addr} {m c : Nat} (hk : wpListIn (Fw r) n P ops Q rest (act N (upd e d (.int .i64 m)) ds) w) (hx : ev N e x = .slice A m c := by exact zvx) (hu : isSl P t = true := by decide +kernel) :
    wpListIn (Fw r) n P ops Q (⟨some d, .call { callee := .builtin .len, args := #[x], argTypes := #[t] }, ty, pos, af, none⟩ :: rest) (act N e ds) w := by obtain ⟨D, h⟩ := isSl_some hu; exact l_op (k_len h hx hk)
theorem q_nil {b o : Nat} (hk : wpListIn (Fw r) n P ops Q rest (act N (upd e d (.pointer (some ⟨b, o, none⟩))) ds) w) (hx : ev N e x = .pointer (some ⟨b, o, none⟩) := by exact zvx) : wpListIn (Fw r) n P ops Q (⟨some d, .nilCheck x, ty, pos, af, none⟩ :: rest) (act N e ds) w := l_op (k_nilCheck hx hk)
def nth : List Value → Nat → Option Value
  | [], _ => none
  | a :: _, 0 => some a
  | _ :: l, i + 1 => nth l i
theorem nth_eq : ∀ (l : List Value) (i : Nat), nth l i = l[i]?
  | [], _ => rfl
  | _ :: _, 0 => rfl
  | _ :: l, i + 1 => by simpa [nth] using nth_eq l i
def nth2 : List Value → Nat → Option (Value × Value)
  | a :: b :: _, 0 => some (a, b)
  | _ :: l, i + 1 => nth2 l i
  | _, _ => none
theorem nth2_eq : ∀ (l : List Value) (i : Nat) (u v : Value), nth2 l i = some (u, v) → l[i]? = some u ∧ l[i + 1]? = some v
  | [], 0, u, v, h => by simp [nth2] at h
  | [], _ + 1, u, v, h => by simp [nth2] at h
  | [_], 0, u, v, h => by simp [nth2] at h
  | a :: b :: _, 0, u, v, h => by simp only [nth2, Option.some.injEq, Prod.mk.injEq] at h; obtain ⟨rfl, rfl⟩ := h; exact ⟨rfl, rfl⟩
  | _ :: l, i + 1, u, v, h => by have := nth2_eq l i u v (by simpa [nth2] using h); simpa using this
def isRow1 (P : Program) (t : TypeId) : Option Bool := (P.underlying t).map (·.isRow)
theorem isRow1_some {P : Program} {t : TypeId} {b : Bool} (h : isRow1 P t = some b) : ∃ D, P.underlying t = some D ∧ D.isRow = b := by
  unfold isRow1 at h; cases hh : P.underlying t with
  | none => simp [hh] at h
  | some D => exact ⟨D, rfl, by simpa [hh] using h⟩
theorem q_load {t tb : TypeId} {b o : Nat} {cs : List Value} (hk : wpListIn (Fw r) n P ops Q rest (act N (upd e d v) ds) w) (hx : ev N e x = .pointer (some ⟨b, o, none⟩) := by exact zvx) (hb : Blk w b tb cs.toArray := by with_reducible assumption) (hv : nth cs o = some v := by exact rfl) (hu : isRow1 P t = some false := by decide +kernel) :
    wpListIn (Fw r) n P ops Q (⟨some d, .load t x, ty, pos, af, none⟩ :: rest) (act N e ds) w := by
  obtain ⟨D, h1, h2⟩ := isRow1_some hu
  exact l_op (k_load h1 h2 hx (hb.cell (by rw [← hv, nth_eq]; simp)) hk)
theorem q_load2 {t tb : TypeId} {b o : Nat} {cs : List Value} {v1 v2 : Value} (hk : wpListIn (Fw r) n P ops Q rest (act N (upd e d (.agg #[v1, v2])) ds) w) (hx : ev N e x = .pointer (some ⟨b, o, none⟩) := by exact zvx) (hb : Blk w b tb cs.toArray := by with_reducible assumption) (hv : nth2 cs o = some (v1, v2) := by exact rfl) (hu : isRow1 P t = some true := by decide +kernel) (hi : (P.info? t).map (·.size) = some 2 := by decide +kernel) :
    wpListIn (Fw r) n P ops Q (⟨some d, .load t x, ty, pos, af, none⟩ :: rest) (act N e ds) w := by
  obtain ⟨D, h1, h2⟩ := isRow1_some hu
  obtain ⟨h3, h4⟩ := nth2_eq _ _ _ _ hv
  exact l_op (k_loadA (cs := [v1, v2]) h1 h2 hi hx (fun j u hj => by
    match j, hj with
    | 0, hj => simp at hj; subst hj; exact hb.cell (by simpa using h3)
    | 1, hj => simp at hj; subst hj; exact hb.cell (by simpa using h4)
    | j + 2, hj => simp at hj) hk)
theorem nbt {b : Bool} (h : b = false) : (!b) = true := by rw [h]; rfl
theorem nbf {b : Bool} (h : b = true) : (!b) = false := by rw [h]; rfl
theorem dett {p : Prop} {i : Decidable p} (h : p) : @decide p i = true := by simpa using h
theorem detf {p : Prop} {i : Decidable p} (h : ¬p) : @decide p i = false := by simpa using h
theorem zb {X q : Bool} (h : X = q := by
  first
  | with_reducible first
    | exact rfl
    | assumption
    | exact dett (by assumption)
    | exact detf (by assumption)
    | exact nbt (by first | exact rfl | assumption | exact detf (by assumption))
    | exact nbf (by first | exact rfl | assumption | exact dett (by assumption))
  | decide +kernel) : X = q := h
theorem c_tr (h : c1.wpIn (Fw r) n P Q (act N e ds) w) {q : Bool} (hx : ev N e x = .bool q := by exact zvx) (hq : q = true := by exact zb) : (Code.cond x c1 c2).wpIn (Fw r) n P Q (act N e ds) w := c_true (by rw [hx, hq]) h
theorem c_fa (h : c2.wpIn (Fw r) n P Q (act N e ds) w) {q : Bool} (hx : ev N e x = .bool q := by exact zvx) (hq : q = false := by exact zb) : (Code.cond x c1 c2).wpIn (Fw r) n P Q (act N e ds) w := c_false (by rw [hx, hq]) h
theorem q_want {l : List Oper} {j s : Nat} {q b : Bool} (hk : wpListIn (Fw r) n P l.toArray Q (⟨dst, op, ty, pos, af, none⟩ :: rest) (act N e ds) w)
    (hj : dstOf l j = some s := by exact rfl) (hv : ev N e (.tmp s) = .bool b := by exact zvx) (hb : b = q := by exact zb) : wpListIn (Fw r) n P l.toArray Q (⟨dst, op, ty, pos, af, some (j, q)⟩ :: rest) (act N e ds) w := l_want hj (by rw [hv, hb]) hk
theorem q_unw {l : List Oper} {j s : Nat} {q b : Bool} (hk : wpListIn (Fw r) n P l.toArray Q rest (act N (upd e d undef) ds) w)
    (hj : dstOf l j = some s := by exact rfl) (hv : ev N e (.tmp s) = .bool b := by exact zvx) (hb : b = !q := by first | with_reducible assumption | (show _ = true; exact zb) | (show _ = false; exact zb)) : wpListIn (Fw r) n P l.toArray Q (⟨some d, op, ty, pos, af, some (j, q)⟩ :: rest) (act N e ds) w := l_not hj (by rw [hv, hb]) hk
theorem q_pickt {c a b : Operand} {t : Bool} (hk : wpListIn (Fw r) n P ops Q rest (act N (upd e d v) ds) w) (hc : ev N e c = .bool t := by exact zvx) (ht : t = true := by exact zb) (hv : ev N e a = v := by exact zvv) :
    wpListIn (Fw r) n P ops Q (⟨some d, .pick c a b, ty, pos, af, none⟩ :: rest) (act N e ds) w := l_op (k_pick (t := true) (by rw [hc, ht]) (by simpa using hv) hk)
theorem q_pickf {c a b : Operand} {t : Bool} (hk : wpListIn (Fw r) n P ops Q rest (act N (upd e d v) ds) w) (hc : ev N e c = .bool t := by exact zvx) (ht : t = false := by exact zb) (hv : ev N e b = v := by exact zvv) :
    wpListIn (Fw r) n P ops Q (⟨some d, .pick c a b, ty, pos, af, none⟩ :: rest) (act N e ds) w := l_op (k_pick (t := false) (by rw [hc, ht]) (by simpa using hv) hk)
theorem q_loadc {t : TypeId} {A : Option Addr} {b o o' : Nat} (hk : wpListIn (Fw r) n P ops Q rest (act N (upd e d v) ds) w) (hx : ev N e x = .pointer (some ⟨b, o, none⟩) := by exact zvx)
    (hc : A = some ⟨b, o', none⟩ ∧ w.cell? ⟨b, o, none⟩ = some v := by with_reducible assumption) (hu : isRow1 P t = some false := by decide +kernel) : wpListIn (Fw r) n P ops Q (⟨some d, .load t x, ty, pos, af, none⟩ :: rest) (act N e ds) w := by
  obtain ⟨D, h1, h2⟩ := isRow1_some hu
  exact l_op (k_load h1 h2 hx hc.2 hk)
theorem q_loadc2 {t : TypeId} {A : Option Addr} {b o o' : Nat} {v1 v2 : Value} (hk : wpListIn (Fw r) n P ops Q rest (act N (upd e d (.agg #[v1, v2])) ds) w) (hx : ev N e x = .pointer (some ⟨b, o, none⟩) := by exact zvx)
    (hc : A = some ⟨b, o', none⟩ ∧ ∀ j u, [v1, v2][j]? = some u → w.cell? ⟨b, o + j, none⟩ = some u := by with_reducible assumption) (hu : isRow1 P t = some true := by decide +kernel) (hi : (P.info? t).map (·.size) = some 2 := by decide +kernel) :
    wpListIn (Fw r) n P ops Q (⟨some d, .load t x, ty, pos, af, none⟩ :: rest) (act N e ds) w := by
  obtain ⟨D, h1, h2⟩ := isRow1_some hu
  exact l_op (k_loadA (cs := [v1, v2]) h1 h2 hi hx hc.2 hk)
def slSz (P : Program) (t : TypeId) (s : Nat) : Bool := match P.underlying t with | some (.slice el) => (P.info? el).map (·.size) == some s | _ => false
theorem slSz_some {P : Program} {t : TypeId} {s : Nat} (h : slSz P t s = true) : ∃ el, P.underlying t = some (.slice el) ∧ (P.info? el).map (·.size) = some s := by
  unfold slSz at h; split at h
  · rename_i D hh; exact ⟨D, hh, by simpa using h⟩
  · cases h
theorem ix1 {t : TypeId} {A : Option Addr} {bk o m c i : Nat} {k : IntKind} {u : Value} (h : A = some ⟨bk, o, none⟩ ∧ w.cell? ⟨bk, o + i, none⟩ = some u) (hk : wpListIn (Fw r) n P ops Q rest (act N (upd e d (.pointer (some ⟨bk, o + i, none⟩))) ds) w)
    (hx : ev N e x = .slice A m c := by exact zvx) (hy : ev N e y = .int k (i : Int) := by exact zvx) (hlt : i < m := by omega) (hu : slSz P t 1 = true := by decide +kernel) : wpListIn (Fw r) n P ops Q (⟨some d, .indexAddr t x y, ty, pos, af, none⟩ :: rest) (act N e ds) w := by
  obtain ⟨el, h1, h2⟩ := slSz_some hu
  exact l_op (k_indexAddr h1 h2 hx h.1 hy hlt (by rw [Nat.mul_one]) hk)
theorem ix2 {t : TypeId} {A : Option Addr} {bk o m c i : Nat} {k : IntKind} {l : List Value} (h : A = some ⟨bk, o, none⟩ ∧ ∀ j u, l[j]? = some u → w.cell? ⟨bk, o + i * 2 + j, none⟩ = some u) (hk : wpListIn (Fw r) n P ops Q rest (act N (upd e d (.pointer (some ⟨bk, o + i * 2, none⟩))) ds) w)
    (hx : ev N e x = .slice A m c := by exact zvx) (hy : ev N e y = .int k (i : Int) := by exact zvx) (hlt : i < m := by omega) (hu : slSz P t 2 = true := by decide +kernel) : wpListIn (Fw r) n P ops Q (⟨some d, .indexAddr t x y, ty, pos, af, none⟩ :: rest) (act N e ds) w := by
  obtain ⟨el, h1, h2⟩ := slSz_some hu
  exact l_op (k_indexAddr h1 h2 hx h.1 hy hlt rfl hk)
variable {k : IntKind} {i j : Int} {b b' : Bool} {t : TypeId}
theorem lss {u : TypeId} (hk : wpListIn (Fw r) n P ops Q rest (act N (upd e d (.bool (decide (i < j)))) ds) w) (hx : ev N e x = .int k i := by exact zvx) (hy : ev N e y = .int k j := by exact zvx) : wpListIn (Fw r) n P ops Q (⟨some d, .binOp .lss t x y u, ty, pos, af, none⟩ :: rest) (act N e ds) w := l_op (k_lss hx hy rfl hk)
theorem leq {u : TypeId} (hk : wpListIn (Fw r) n P ops Q rest (act N (upd e d (.bool (decide (i ≤ j)))) ds) w) (hx : ev N e x = .int k i := by exact zvx) (hy : ev N e y = .int k j := by exact zvx) : wpListIn (Fw r) n P ops Q (⟨some d, .binOp .leq t x y u, ty, pos, af, none⟩ :: rest) (act N e ds) w := l_op (k_leq hx hy rfl hk)
theorem gtr {u : TypeId} (hk : wpListIn (Fw r) n P ops Q rest (act N (upd e d (.bool (decide (j < i)))) ds) w) (hx : ev N e x = .int k i := by exact zvx) (hy : ev N e y = .int k j := by exact zvx) : wpListIn (Fw r) n P ops Q (⟨some d, .binOp .gtr t x y u, ty, pos, af, none⟩ :: rest) (act N e ds) w := l_op (k_gtr hx hy rfl hk)
theorem geq {u : TypeId} (hk : wpListIn (Fw r) n P ops Q rest (act N (upd e d (.bool (decide (j ≤ i)))) ds) w) (hx : ev N e x = .int k i := by exact zvx) (hy : ev N e y = .int k j := by exact zvx) : wpListIn (Fw r) n P ops Q (⟨some d, .binOp .geq t x y u, ty, pos, af, none⟩ :: rest) (act N e ds) w := l_op (k_geq hx hy rfl hk)
theorem eql {u : TypeId} (hk : wpListIn (Fw r) n P ops Q rest (act N (upd e d (.bool (decide (i = j)))) ds) w) (hx : ev N e x = .int k i := by exact zvx) (hy : ev N e y = .int k j := by exact zvx) : wpListIn (Fw r) n P ops Q (⟨some d, .binOp .eql t x y u, ty, pos, af, none⟩ :: rest) (act N e ds) w := l_op (k_eql hx hy rfl hk)
theorem neq {u : TypeId} (hk : wpListIn (Fw r) n P ops Q rest (act N (upd e d (.bool (!decide (i = j)))) ds) w) (hx : ev N e x = .int k i := by exact zvx) (hy : ev N e y = .int k j := by exact zvx) : wpListIn (Fw r) n P ops Q (⟨some d, .binOp .neq t x y u, ty, pos, af, none⟩ :: rest) (act N e ds) w := l_op (k_neq hx hy rfl hk)
theorem nt (hk : wpListIn (Fw r) n P ops Q rest (act N (upd e d (.bool (!b))) ds) w) (hx : ev N e x = .bool b := by exact zvx) : wpListIn (Fw r) n P ops Q (⟨some d, .unOp .not t x, ty, pos, af, none⟩ :: rest) (act N e ds) w := l_op (k_not hx rfl hk)
theorem eqs {u : TypeId} {a b : List UInt8} (hk : wpListIn (Fw r) n P ops Q rest (act N (upd e d (.bool (decide (a = b)))) ds) w) (hx : ev N e x = S a := by exact zvx) (hy : ev N e y = S b := by exact zvx) : wpListIn (Fw r) n P ops Q (⟨some d, .binOp .eql t x y u, ty, pos, af, none⟩ :: rest) (act N e ds) w := l_op (k_eqlS hx hy rfl hk)
theorem nes {u : TypeId} {a b : List UInt8} (hk : wpListIn (Fw r) n P ops Q rest (act N (upd e d (.bool (!decide (a = b)))) ds) w) (hx : ev N e x = S a := by exact zvx) (hy : ev N e y = S b := by exact zvx) : wpListIn (Fw r) n P ops Q (⟨some d, .binOp .neq t x y u, ty, pos, af, none⟩ :: rest) (act N e ds) w := l_op (k_neqS hx hy rfl hk)
theorem adi {u : TypeId} (hk : wpListIn (Fw r) n P ops Q rest (act N (upd e d (.int .i64 (i + j))) ds) w) (hx : ev N e x = .int .i64 i := by exact zvx) (hy : ev N e y = .int .i64 j := by exact zvx) (hr : In64 (i + j) := by unfold In64; omega) : wpListIn (Fw r) n P ops Q (⟨some d, .binOp .add t x y u, ty, pos, af, none⟩ :: rest) (act N e ds) w := l_op (k_add hx hy hr rfl hk)
theorem sui {u : TypeId} (hk : wpListIn (Fw r) n P ops Q rest (act N (upd e d (.int .i64 (i - j))) ds) w) (hx : ev N e x = .int .i64 i := by exact zvx) (hy : ev N e y = .int .i64 j := by exact zvx) (hr : In64 (i - j) := by unfold In64; omega) : wpListIn (Fw r) n P ops Q (⟨some d, .binOp .sub t x y u, ty, pos, af, none⟩ :: rest) (act N e ds) w := l_op (k_sub hx hy hr rfl hk)
theorem cl {R : Value → World → Prop} {f : FuncId} {xs : Array Operand} {ats : Array TypeId} {vs : List Value} (hf : Enters P f) (hc : Calls P f vs.toArray w (Ret w R)) (hk : ∀ v w', Ext w w' → R v w' → wpListIn (Fw r) n P ops Q rest (act N (upd e d v) ds) w') (hv : xs.toList.map (ev N e) = vs := by exact rfl) :
    wpListIn (Fw r) n P ops Q (⟨some d, .call ⟨.value (.func f), xs, ats⟩, ty, pos, af, none⟩ :: rest) (act N e ds) w := l_op (k_call hf hv hc hk)
theorem clb {R : Value → World → Prop} {f : FuncId} {xs : Array Operand} {ats : Array TypeId} {vs : List Value} (hf : Enters P f) (hv : xs.toList.map (ev N e) = vs := by exact rfl) (hc : Calls P f vs.toArray w (Ret w R)) (hk : ∀ v w', Ext w w' → R v w' → wpListIn (Fw r) n P ops Q rest (act N (upd e d v) ds) w') :
    wpListIn (Fw r) n P ops Q (⟨some d, .call ⟨.value (.func f), xs, ats⟩, ty, pos, af, none⟩ :: rest) (act N e ds) w := l_op (k_call hf hv hc hk)
theorem fin1 {o : Option Nat} {R : World → World → Prop} {w' : World} (h1 : R w w') (ho : o = some d := by exact rfl) : Exit.normal = Exit.normal ∧ ∃ u, act N (upd e d v) ds = (act N e ds).put o u ∧ R w w' ∧ u = v := by subst ho; exact ⟨rfl, _, (act_put _ _ _ _ _).symm, h1, rfl⟩
def ov (f : Nat → Bool) (e e0 : Nat → Value) : Nat → Value := fun t => match f t with | true => e t | false => e0 t
theorem zpv {f : Nat → Bool} {e e0 : Nat → Value} {t : Nat} {v : Value} (h : ov f e e0 t = v) (hf : f t = true := by exact rfl) : e t = v := by unfold ov at h; rw [hf] at h; exact h
theorem ovE {f : Nat → Bool} {e e0 : Nat → Value} (h : ∀ t, f t = false → e t = e0 t) : ∃ e', e = ov f e' e0 := ⟨e, funext fun t => by unfold ov; split <;> rename_i hh; rfl; exact h t hh⟩
end
structure Hd (p : Prop) : Prop where
  out : p
theorem go {G G' : Prop} (h : G') (k : Hd G' → G := by
  intro h
  repeat first
    | with_reducible first
      | refine n_then ?_
      | refine l_nil ?_
      | refine c_seq ?_
      | refine c_reg ?_
      | refine c_block ?_
      | refine c_skip ?_
      | refine c_exit ?_
      | refine c_ret ?_
      | refine n_in ?_
      | refine n_scope ?_
      | refine x_then ?_
      | refine x_in ?_
      | refine r_then ?_
      | refine r_in ?_
      | refine r_scope ?_
      | refine p_then ?_
      | refine p_in ?_
      | refine p_scope ?_
      | refine wpIn_scope ?_
      | refine wpIn_label ?_
    | refine q_move ?_
    | refine q_assign ?_
    | refine q_want ?_
    | refine q_unw ?_
    | refine q_pickt ?_
    | refine q_pickf ?_
    | refine q_load ?_
    | refine q_load2 ?_
    | refine q_loadc ?_
    | refine q_loadc2 ?_
    | refine q_len ?_
    | refine q_ex20 ?_
    | refine q_ex21 ?_
    | refine q_ex30 ?_
    | refine q_ex31 ?_
    | refine q_ex32 ?_
    | refine q_ex40 ?_
    | refine q_ex41 ?_
    | refine q_ex42 ?_
    | refine q_ex43 ?_
    | refine q_nil ?_
    | refine l_nil ?_
    | refine x_by rfl ?_
    | refine c_tr ?_
    | refine c_fa ?_
  exact h.out) : G := k ⟨h⟩
end Go.Eng
set_option linter.all false
namespace Go.Eng
open Go Go.RowKit
inductive Ph where
  | pv (v : Value)
  | ph (p : Value → World → Prop)
def Ph.ok : Ph → Value → World → Prop
  | .pv v, x, _ => x = v
  | .ph p, x, w => p x w
def Ph.val : Ph → Value → Value
  | .pv v, _ => v
  | .ph _, x => x
def phv : List Ph → Nat → Value → Value
  | [], _, x => x
  | φ :: _, 0, x => φ.val x
  | _ :: φs, j + 1, x => phv φs j x
def pho : List Ph → Nat → Value → World → Prop
  | [], _, _, _ => True
  | φ :: _, 0, x, w => φ.ok x w
  | _ :: φs, j + 1, x, w => pho φs j x w
def dIx : List Oper → Nat → Nat → Option Nat
  | [], _, _ => none
  | o :: os, t, j => match o.dst with
    | some d => match Nat.beq d t with
      | true => some j
      | false => dIx os t (j + 1)
    | none => dIx os t (j + 1)
def fr (l : List Oper) (M : Nat) (Φ : List Ph) (sel : Nat → Bool) (e e0 : Nat → Value) : Nat → Value := fun t =>
  match dIx (l.take M) t 0 with
  | none => e0 t
  | some j => match sel j with
    | true => phv Φ j (e t)
    | false => e t
def StabP (R : World → World → Prop) (φ : Ph) : Prop := ∀ v w w', R w w' → φ.ok v w → φ.ok v w'
theorem phv_of {w : World} : ∀ (Φ : List Ph) (j : Nat) (x : Value), pho Φ j x w → phv Φ j x = x
  | [], _, _, _ => rfl
  | .pv v :: _, 0, _, h => Eq.symm h
  | .ph _ :: _, 0, _, _ => rfl
  | _ :: Φ, j + 1, x, h => phv_of Φ j x h
theorem dIx_some : ∀ (os : List Oper) (t j k : Nat), dIx os t j = some k → ∃ i, k = j + i ∧ (os[i]?).bind (·.dst) = some t
  | [], _, _, _, h => by simp [dIx] at h
  | o :: os, t, j, k, h => by
    unfold dIx at h
    split at h
    · rename_i d hd
      split at h
      · rename_i hb
        cases h
        exact ⟨0, rfl, by simp [hd, Nat.eq_of_beq_eq_true hb]⟩
      · obtain ⟨i, h1, h2⟩ := dIx_some os t (j + 1) k h
        exact ⟨i + 1, by omega, by simpa using h2⟩
    · obtain ⟨i, h1, h2⟩ := dIx_some os t (j + 1) k h
      exact ⟨i + 1, by omega, by simpa using h2⟩
theorem dIx_none : ∀ (os : List Oper) (t j : Nat), dIx os t j = none → (os.any fun o => match o.dst with | some d => Nat.beq d t | none => false) = false
  | [], _, _, _ => rfl
  | o :: os, t, j, h => by
    unfold dIx at h
    rw [List.any_cons]
    split at h
    · rename_i d hd
      split at h
      · cases h
      · rename_i hb
        rw [dIx_none os t (j + 1) h, hb]; rfl
    · rename_i hd
      rw [dIx_none os t (j + 1) h]; rfl
theorem fr_eq {l : List Oper} {M : Nat} {Φ : List Ph} {sel : Nat → Bool} {e e0 : Nat → Value} {w : World} (hs : ∀ t, isDst l M t = false → e t = e0 t)
    (hp : ∀ j d, Nat.blt j M = true → sel j = true → dstOf l j = some d → pho Φ j (e d) w) : e = fr l M Φ sel e e0 := by
  funext t
  unfold fr
  split
  · rename_i h
    exact hs t (dIx_none _ _ _ h)
  · rename_i j h
    obtain ⟨i, hi, hd⟩ := dIx_some _ _ _ _ h
    have hji : j = i := by omega
    subst hji
    split
    · rename_i hq
      have hj : j < M := by
        rcases Nat.lt_or_ge j M with h1 | h1
        · exact h1
        · rw [List.getElem?_eq_none (by simp; omega)] at hd; cases hd
      rw [List.getElem?_take, if_pos hj] at hd
      exact (phv_of Φ j _ (hp j t (by rwa [Nat.blt_eq]) hq hd)).symm
    · rfl
section draws
variable {P : Program} {r : Option Nat} {n N : Nat} {e0 : Nat → Value} {ds : List Deferred} {w0 : World} {Q : Exit → Act → World → Prop} {l : List Oper} {M : Nat} {Φ : List Ph} {R : World → World → Prop} {J : (Nat → Bool) → (Nat → Value) → World → Prop}
def PostF (Q : Exit → Act → World → Prop) (N : Nat) (ds : List Deferred) (R : World → World → Prop) (J : (Nat → Bool) → (Nat → Value) → World → Prop) (w : World) (ls : Nat → Bool) (i : Nat) (φ : Ph) (o : Oper) (e f : Nat → Value) : Exit → Act → World → Prop := fun x a' w' =>
  (x = .normal ∧ ∃ v, a' = (act N f ds).put o.dst v ∧ R w w' ∧ φ.ok v w' ∧ J (setB ls i) (updO e o.dst v) w') ∨ (∃ c, x = .panic c ∧ Q (.panic c) a' w')
def StF (Q : Exit → Act → World → Prop) (r : Option Nat) (n : Nat) (P : Program) (N : Nat) (ds : List Deferred) (l : List Oper) (M : Nat) (Φ : List Ph) (R : World → World → Prop) (J : (Nat → Bool) → (Nat → Value) → World → Prop) (e0 : Nat → Value) (w0 : World) : Nat → List Oper → List Ph → Prop
  | _, [], _ => True
  | _, _ :: _, [] => False
  | i, o :: os, φ :: φs => (StabP R φ ∧ ∀ (e : Nat → Value) (w : World) (ls : Nat → Bool), R w0 w → J ls e w → (∀ j k, predAt l j k = true → ls j = true → ls k = true) → ls i = false → (∀ k, predAt l i k = true → ls k = true) → (∀ j d, predB o j = true → dstOf l j = some d → pho Φ j (e d) w) →
      wpListIn (Fw r) n P l.toArray (PostF Q N ds R J w ls i φ o e (fr l M Φ (predB o) e e0)) [o] (act N (fr l M Φ (predB o) e e0) ds) w) ∧ StF Q r n P N ds l M Φ R J e0 w0 (i + 1) os φs
theorem stF_get : ∀ (os : List Oper) (φs : List Ph) (i0 : Nat), StF Q r n P N ds l M Φ R J e0 w0 i0 os φs → ∀ i o, os[i]? = some o → ∃ φ, φs[i]? = some φ ∧ StabP R φ ∧
    ∀ (e : Nat → Value) (w : World) (ls : Nat → Bool), R w0 w → J ls e w → (∀ j k, predAt l j k = true → ls j = true → ls k = true) → ls (i0 + i) = false → (∀ k, predAt l (i0 + i) k = true → ls k = true) → (∀ j d, predB o j = true → dstOf l j = some d → pho Φ j (e d) w) →
      wpListIn (Fw r) n P l.toArray (PostF Q N ds R J w ls (i0 + i) φ o e (fr l M Φ (predB o) e e0)) [o] (act N (fr l M Φ (predB o) e e0) ds) w
  | [], _, _, _, i, o, ho => by simp at ho
  | _ :: _, [], _, h, _, _, _ => h.elim
  | o' :: os, φ :: φs, i0, h, 0, o, ho => by simp at ho; subst ho; exact ⟨φ, rfl, h.1⟩
  | o' :: os, φ :: φs, i0, h, i + 1, o, ho => by
    obtain ⟨ψ, h1, h2⟩ := stF_get os φs (i0 + 1) h.2 i o (by simpa using ho)
    rw [show i0 + 1 + i = i0 + (i + 1) by omega] at h2
    exact ⟨ψ, by simpa using h1, h2⟩
theorem steps_intro {J : (Nat → Bool) → (Nat → Value) → World → Prop} : ∀ (os : List Oper) (i0 : Nat),
    (∀ i o, os[i]? = some o → ∀ (e : Nat → Value) (w : World) (ls : Nat → Bool), J ls e w → (∀ j k, predAt l j k = true → ls j = true → ls k = true) → ls (i0 + i) = false → (∀ k, predAt l (i0 + i) k = true → ls k = true) →
      wpListIn (Fw r) n P l.toArray (fun x a' w' => (x = .normal ∧ ∃ v, a' = (act N e ds).put o.dst v ∧ J (setB ls (i0 + i)) (updO e o.dst v) w') ∨ (∃ c, x = .panic c ∧ Q (.panic c) a' w')) [o] (act N e ds) w) → StepsP Q r n P N ds l J i0 os
  | [], _, _ => trivial
  | o :: os, i0, h => ⟨h 0 o rfl, steps_intro os (i0 + 1) fun i o ho => by rw [show i0 + 1 + i = i0 + (i + 1) by omega]; exact h (i + 1) o (by simpa using ho)⟩
theorem pho_get : ∀ (Φ : List Ph) (i : Nat) (φ : Ph) (v : Value) (w : World), Φ[i]? = some φ → (pho Φ i v w ↔ φ.ok v w)
  | [], _, _, _, _, h => by simp at h
  | ψ :: _, 0, φ, v, w, h => by simp at h; subst h; exact Iff.rfl
  | _ :: Φ, i + 1, φ, v, w, h => pho_get Φ i φ v w (by simpa using h)
theorem list_mono {o : Oper} {a : Act} {w : World} {A B : Exit → Act → World → Prop} (h : wpListIn (Fw r) n P l.toArray A [o] a w) (hk : ∀ x a w, A x a w → B x a w) : wpListIn (Fw r) n P l.toArray B [o] a w := by
  unfold wpListIn at h ⊢
  split
  · rename_i hw
    rw [if_pos hw] at h
    exact oper_mono2 (fun a w h => hk _ _ _ h) (fun c a w h => hk _ _ _ h) (fun a w h => hk _ _ _ h) h
  · rename_i hw
    rw [if_neg hw] at h
    exact ⟨h.1, hk _ _ _ h.2⟩
theorem c_drw {id : Nat} (hm : P.follows .mixedOrders = true) (hR0 : R w0 w0.drew) (hRt : ∀ a b c, R a b → R b c → R a c) (hJ0 : J (fun _ => false) e0 w0.drew)
    (hwf : wfB l = true) (hshape : shapeB l M = true) (hdst : dstB l M = true) (hstep : StF Q r n P N ds l M Φ R J e0 w0 0 (l.take M) Φ)
    (hfin : ∀ (e : Nat → Value) (w : World) (ls : Nat → Bool), R w0 w → J ls e w → (∀ j, Nat.blt j M = true → ls j = true) → (∀ j d, Nat.blt j M = true → dstOf l j = some d → pho Φ j (e d) w) →
      wpListIn (Fw r) n P l.toArray Q (l.drop M) (act N (fr l M Φ (fun j => Nat.blt j M) e e0) ds) w) :
    (Code.region id l.toArray true).wpIn (Fw r) n P Q (act N e0 ds) w0 := by
  have hisd : ∀ i o d, i < M → l[i]? = some o → o.dst = some d → isDst l M d = true := by
    intro i o d hi ho hd
    refine List.any_eq_true.2 ⟨o, List.mem_iff_getElem?.2 ⟨i, by rw [List.getElem?_take, if_pos hi]; exact ho⟩, ?_⟩
    rw [hd]; exact Nat.beq_refl d
  refine c_stP hm M (fun ls e w => R w0 w ∧ (∀ t, isDst l M t = false → e t = e0 t) ∧ (∀ j d, Nat.blt j M = true → ls j = true → dstOf l j = some d → pho Φ j (e d) w) ∧ J ls e w) ⟨hR0, fun _ _ => rfl, fun j d _ h _ => (by cases h), hJ0⟩ hwf hshape (steps_intro (l.take M) 0 ?_) ?_
  · rintro i o ho e w ls ⟨hR, hs, hφ, hJ⟩ hcl hni hpr
    simp only [Nat.zero_add] at hni hpr ⊢
    have hi : i < M := by
      rcases Nat.lt_or_ge i M with h1 | h1
      · exact h1
      · rw [List.getElem?_eq_none (by simp; omega)] at ho; cases ho
    have ho2 : l[i]? = some o := by rw [List.getElem?_take, if_pos hi] at ho; exact ho
    obtain ⟨φ, hφi, hst, h⟩ := stF_get (l.take M) Φ 0 hstep i o ho
    simp only [Nat.zero_add] at h
    have hpb : ∀ j, predB o j = true → predAt l i j = true := fun j hj => by unfold predAt; rw [ho2]; exact hj
    have hltp : ∀ j, predB o j = true → j < M := by
      intro j hj
      obtain ⟨ed, he, hb⟩ := List.any_eq_true.1 hj
      simp only [Bool.and_eq_true] at hb
      have hjj := Nat.eq_of_beq_eq_true hb.2
      have h1 := List.all_eq_true.1 hwf i (List.mem_range.2 (List.getElem?_eq_some_iff.1 ho2).1)
      rw [ho2] at h1
      have h2 := List.all_eq_true.1 h1 ed (by simpa using he)
      simp only [hb.1, Bool.not_true, Bool.false_or] at h2
      rw [Nat.blt_eq] at h2
      omega
    have hpp : ∀ j d, predB o j = true → dstOf l j = some d → pho Φ j (e d) w := fun j d hj hd => hφ j d (by rw [Nat.blt_eq]; exact hltp j hj) (hpr j (hpb j hj)) hd
    have hfe : e = fr l M Φ (predB o) e e0 := fr_eq (w := w) hs (fun j d _ hj hd => hpp j d hj hd)
    have h1 := h e w ls hR hJ hcl hni hpr hpp
    rw [← hfe] at h1
    refine list_mono h1 ?_
    rintro x a' w' (⟨hx, v, ha, hR', hv, hJ'⟩ | ⟨c, hx, hq⟩)
    · refine .inl ⟨hx, v, ha, hRt _ _ _ hR hR', fun t ht => ?_, fun j d hjM hj hd => ?_, hJ'⟩
      · cases hd : o.dst with
        | none => exact hs t ht
        | some d =>
          have : t ≠ d := fun e => by subst e; rw [hisd i o t hi ho2 hd] at ht; cases ht
          show upd e d v t = e0 t
          rw [upd_ne _ _ this]; exact hs t ht
      · rw [Nat.blt_eq] at hjM
        by_cases hij : j = i
        · subst hij
          have hd2 : o.dst = some d := by unfold dstOf at hd; rw [ho2] at hd; exact hd
          rw [hd2]; show pho Φ j (upd e d v d) w'; rw [upd_eq]; exact (pho_get Φ j φ v w' hφi).2 hv
        · have hl2 : ls j = true := by
            have hb : Nat.beq j i = false := by
              cases hb : Nat.beq j i with
              | false => rfl
              | true => exact absurd (Nat.eq_of_beq_eq_true hb) hij
            unfold setB at hj; rw [hb] at hj; exact hj
          have hold : pho Φ j (e d) w' := by
            have h0 := hφ j d (by rw [Nat.blt_eq]; exact hjM) hl2 hd
            cases hj? : (l.take M)[j]? with
            | none => exact absurd (List.getElem?_eq_none_iff.1 hj?) (by
                have : j < l.length := by
                  unfold dstOf at hd
                  rcases Nat.lt_or_ge j l.length with h1 | h1
                  · exact h1
                  · rw [List.getElem?_eq_none h1] at hd; cases hd
                simp; omega)
            | some oj =>
              obtain ⟨ψ, hψ, hstj, _⟩ := stF_get (l.take M) Φ 0 hstep j oj hj?
              exact (pho_get Φ j ψ _ w' hψ).2 (hstj _ _ _ hR' ((pho_get Φ j ψ _ w hψ).1 h0))
          cases hdo : o.dst with
          | none => exact hold
          | some d0 =>
            have hne : d ≠ d0 := fun e => by
              subst e
              have h1 := List.all_eq_true.1 (List.all_eq_true.1 hdst i (List.mem_range.2 hi)) j (List.mem_range.2 hjM)
              have hdi : dstOf l i = some d := by unfold dstOf; rw [ho2]; exact hdo
              simp only [hdi, hd, Bool.or_eq_true] at h1
              rcases h1 with h1 | h1
              · exact hij (Nat.eq_of_beq_eq_true h1).symm
              · simp at h1
            show pho Φ j (upd e d0 v d) w'
            rw [upd_ne _ _ hne]; exact hold
    · exact .inr ⟨c, hx, hq⟩
  · rintro e w ls hall ⟨hR, hs, hφ, hJ⟩
    have hp : ∀ j d, Nat.blt j M = true → dstOf l j = some d → pho Φ j (e d) w := fun j d hj hd => hφ j d hj (hall j hj) hd
    have hfe : e = fr l M Φ (fun j => Nat.blt j M) e e0 := fr_eq (w := w) hs (fun j d hj _ hd => hp j d hj hd)
    have := hfin e w ls hR hJ hall hp
    rw [← hfe] at this
    exact this
end draws
end Go.Eng
