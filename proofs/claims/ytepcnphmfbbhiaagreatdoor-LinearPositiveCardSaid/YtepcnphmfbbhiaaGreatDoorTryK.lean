/- Part of the proof that all functions of the layer agree with the reference implementation. -/
import Derived.Test.YtepcnphmfbbhiaaGreatDoorLin1
set_option linter.all false
set_option linter.all false
namespace Go.Proofs.YtepcnphmfbbhiaaGreatDoor
set_option maxRecDepth 100000
open Go Go.Eng Go.RowKit
theorem callsDIn_of_wpS {n : Nat} {P : Program} {f : FuncId} {fn : Func} {c : Code} {args : Array Value} {u : FrameMode} {w : World} {R : Ending → FrameMode → World → Prop}
    (hf : P.funcs[f]? = some fn) (hb : fn.body = some c)
    (h : ∀ (c₀ : Frame) (cs : List Frame), c₀.mode = u →
      c.wpS P (bodyPostS P fn c₀ cs R) { tmps := args ++ Array.replicate (fn.ntmps - args.size) undef, defers := [] } (c₀ :: cs) w) :
    CallsDIn Fence.wide n P f args u w R := by
  refine ⟨trivial, fun c₀ cs hu _ => ?_⟩
  let b : Frame := { (default : Frame) with fn := f, kind := .deferred }
  have henter : Frame.enter P f args .deferred =
      b.at { tmps := args ++ Array.replicate (fn.ntmps - args.size) undef, defers := [] } [.code c] := by
    simp [Frame.enter, Frame.at, hf, hb, b]
  obtain ⟨e, a', cs', w', hq, harr⟩ := h c₀ cs hu b [] rfl rfl
  rw [← henter] at harr
  cases e with
  | normal =>
    obtain ⟨hd, u', rfl, v, hr, hR⟩ := hq
    exact ⟨.returned v, u', w', _, hR, comesIn_wide.2 (Steps.trans harr (.one step_end)), rfl, rfl, rfl, hd, fn, hf, hr⟩
  | ret =>
    obtain ⟨hd, u', rfl, v, hr, hR⟩ := hq
    obtain ⟨todo, hs⟩ := harr
    exact ⟨.returned v, u', w', _, hR, comesIn_wide.2 hs, rfl, rfl, rfl, hd, fn, hf, hr⟩
  | panic chain =>
    obtain ⟨hd, u', rfl, hR⟩ := hq
    obtain ⟨todo, hs⟩ := harr
    exact ⟨.panicked chain, u', w', _, hR, comesIn_wide.2 hs, rfl, rfl, rfl, hd, fn, hf⟩
  | exit id => exact hq.elim
  | goto l => exact hq.elim
  | outgrown =>
    obtain ⟨u', hR⟩ := hq
    exact ⟨.outgrown, u', w', b, hR, harr.resolve_left (by simp [b]), rfl, rfl, trivial⟩
section
variable {P : Program} {r : Option Nat} {n N : Nat} {e : Nat → Value} {ds : List Deferred} {w : World} {Q : Exit → Act → World → Prop} {K : Act → World → Prop}
variable {d ty : Nat} {pos : String} {af : Array Edge} {g : Option (Nat × Bool)} {v u : Value} {x y : Operand} {t t' : TypeId}
theorem k_eqlI0 {ms : Array (String × TypeId)} (hu : P.underlying t = some (.interface ms)) (hx : ev N e x = .nilIface) (hy : y = .const .nilIface) (hk : K (act N (upd e d (.bool true)) ds) w) :
    Oper.wpIn (Fw r) n P ⟨some d, .binOp .eql t x y t', ty, pos, af, g⟩ (act N e ds) w K Q := by
  subst hy
  refine k_bin (X := .nilIface) (Y := .nilIface) hx rfl ?_ ?_ hk
  · unfold eqGuard; simp
  · have : (Op.equal t .nilIface .nilIface).run P w = .ok true w := by
      unfold Op.equal Op.maxDepth
      show (Op.equalIn (9999 + 1) t _ _).run _ _ = _
      unfold Op.equalIn
      simp [run_underlying hu]
    simp [binOp, this]
theorem k_eqlI1 {ms : Array (String × TypeId)} {ty' : TypeId} (hu : P.underlying t = some (.interface ms)) (hx : ev N e x = .iface ty' u) (hy : y = .const .nilIface) (hk : K (act N (upd e d (.bool false)) ds) w) :
    Oper.wpIn (Fw r) n P ⟨some d, .binOp .eql t x y t', ty, pos, af, g⟩ (act N e ds) w K Q := by
  subst hy
  refine k_bin (X := .iface ty' u) (Y := .nilIface) hx rfl ?_ ?_ hk
  · unfold eqGuard; simp
  · have : (Op.equal t (.iface ty' u) .nilIface).run P w = .ok false w := by
      unfold Op.equal Op.maxDepth
      show (Op.equalIn (9999 + 1) t _ _).run _ _ = _
      unfold Op.equalIn
      simp [run_underlying hu]
    simp [binOp, this]
theorem k_assertI {a : TypeId} {D : TypeDesc} (hu : P.underlying a = some D) (hd : notIface D = true) (hx : ev N e x = .iface a u) (hk : K (act N (upd e d (.tuple #[u, .bool true])) ds) w) :
    Oper.wpIn (Fw r) n P ⟨some d, .typeAssert x t a true, ty, pos, af, g⟩ (act N e ds) w K Q := by
  refine k_val (v := .tuple #[u, .bool true]) (w' := w) rfl ?_ (by rw [act_put]; exact hk)
  have : (Instr.typeAssert (.iface a u) t a true).run P w = .ok (.tuple #[u, .bool true]) w := by
    unfold Instr.typeAssert
    cases D <;> first | (cases hd; done) | simp [run_underlying hu]
  simp [execOp, hx, this]
theorem k_defer1 {f : FuncId} {xs : Array Operand} {ats : Array TypeId} {vs : List Value} (hv : xs.toList.map (ev N e) = vs) (hk : K (act N e ({ target := .fn (.func f) #[], args := vs.toArray } :: ds)) w) :
    Oper.wpIn (Fw none) n P ⟨none, .defer { callee := .value (.func f), args := xs, argTypes := ats }, ty, pos, af, g⟩ (act N e ds) w K Q := by
  subst hv
  refine ⟨fun f _ => Fw_fn none f, ?_⟩
  rw [Fw_round, Oper.semAt_none, act_eval]
  have : (execOp (ev N e) (⟨none, .defer { callee := .value (.func f), args := xs, argTypes := ats }, ty, pos, af, g⟩ : Oper)).run P w = .ok (.defer { target := .fn (.func f) #[], args := (xs.toList.map (ev N e)).toArray }) w := by
    rw [show (xs.toList.map (ev N e)).toArray = xs.map (ev N e) by rw [← Array.toList_map, Array.toArray_toList]]
    simp [execOp, resolve, Deferred.ofValue, ev]
  rw [this]
  exact hk
end
abbrev cell1 (c : Int) : Array Value := #[.int .i64 c]
section
variable {P : Program} {N : Nat} {e : Nat → Value} {w : World} {d id ty : Nat} {pos : String} {af : Array Edge} {ats : Array TypeId} {cs cs' : List Frame} {v : Value} {Q : Exit → Act → List Frame → World → Prop}
theorem s_recover (hr : recoverD cs = some (v, cs')) (h : Q .normal (act N (upd e d v) []) cs' w) :
    (Code.region id #[⟨some d, .call { callee := .builtin .recover, args := #[], argTypes := ats }, ty, pos, af, none⟩] false).wpS P Q (act N e []) cs w := by
  refine wpS_region ?_
  show wpOpsS P _ Q [0] _ _ _
  have hx : (execOp (act N e []).eval ⟨some d, .call { callee := .builtin .recover, args := #[], argTypes := ats }, ty, pos, af, none⟩).run P w = .ok .recover w := by
    simp [execOp, resolve, invoke, builtin]
  simp only [wpOpsS, List.getElem?_toArray, List.getElem?_cons_zero, Region.wanted, if_true, hx, hr]
  rw [act_put]
  exact h
theorem s_recover0 (hr : recoverD cs = none) (h : Q .normal (act N (upd e d .nilIface) []) cs w) :
    (Code.region id #[⟨some d, .call { callee := .builtin .recover, args := #[], argTypes := ats }, ty, pos, af, none⟩] false).wpS P Q (act N e []) cs w := by
  refine wpS_region ?_
  show wpOpsS P _ Q [0] _ _ _
  have hx : (execOp (act N e []).eval ⟨some d, .call { callee := .builtin .recover, args := #[], argTypes := ats }, ty, pos, af, none⟩).run P w = .ok .recover w := by
    simp [execOp, resolve, invoke, builtin]
  simp only [wpOpsS, List.getElem?_toArray, List.getElem?_cons_zero, Region.wanted, if_true, hx, hr]
  rw [act_put]
  exact h
end
theorem dIn {n : Nat} {P : Program} {f : FuncId} {fn : Func} {c : Code} {args : List Value} {u : FrameMode} {w : World} {R : Ending → FrameMode → World → Prop}
    (hf : P.funcs[f]? = some fn) (hb : fn.body = some c)
    (h : ∀ (c₀ : Frame) (cs : List Frame), c₀.mode = u → c.wpS P (bodyPostS P fn c₀ cs R) (act (args.length + (fn.ntmps - args.length)) (ent args) []) (c₀ :: cs) w) : CallsDIn Fence.wide n P f args.toArray u w R := by
  refine callsDIn_of_wpS hf hb (fun c₀ cs hu => ?_)
  rw [act_start]
  exact h c₀ cs hu
theorem failed_pan {n b : Nat} {c c0 : Int} {w : World} (hB : Blk w b 28 (cell1 c0)) :
    CallsDIn Fence.wide n Tryz.prog 82 #[.pointer (some ⟨b, 0, none⟩)] (.panicking [{ v := .iface 28 (.int .i64 c), recovered := false }]) w
      (fun e u' w' => (∃ v, e = .returned v) ∧ u' = .panicking [{ v := .iface 28 (.int .i64 c), recovered := true }] ∧ Put w w' b ∧ Blk w' b 28 (cell1 c)) := by
  refine dIn (args := [.pointer (some ⟨b, 0, none⟩)]) Tryz.func82 rfl (fun c₀ cs hu => ?_)
  refine wpS_seq (s_recover (v := .iface 28 (.int .i64 c)) (cs' := { c₀ with mode := .panicking [{ v := .iface 28 (.int .i64 c), recovered := true }] } :: cs) (by simp [recoverD, hu]) ?_)
  refine wpS_of_wp (wpIn_wide (n := 0).1 ?_)
  refine c_block (r := none) ?_
  refine c_seq (r := none) ?_
  refine c_reg (r := none) ?_
  refine l_op (r := none) (k_eqlI1 Tryz.underlying20 rfl rfl ?_)
  refine l_nil ?_
  refine n_then ?_
  refine c_false (r := none) rfl ?_
  refine c_seq (r := none) ?_
  refine c_reg (r := none) ?_
  refine l_op (r := none) (k_assertI Tryz.underlying28 rfl rfl ?_)
  refine l_op (r := none) (k_extract rfl rfl ?_)
  refine l_op (r := none) (k_extract rfl rfl ?_)
  refine l_nil ?_
  refine n_then ?_
  refine c_true (r := none) rfl ?_
  refine c_seq (r := none) ?_
  refine c_reg (r := none) ?_
  refine l_op (r := none) (k_assign (v := .int .i64 c) rfl ?_)
  refine l_nil ?_
  refine n_then ?_
  refine c_reg (r := none) ?_
  refine l_op (r := none) (k_move (v := .pointer (some ⟨b, 0, none⟩)) rfl ?_)
  refine l_op (r := none) (k_move (v := .int .i64 c) rfl ?_)
  refine l_op (r := none) (k_nilCheck (b := b) (o := 0) rfl ?_)
  refine l_op (r := none) (k_store (b := b) (o := 0) (v := .int .i64 c) sz32 rfl rfl rfl hB (by simp) (fun w' hp hb => ?_))
  refine l_nil ?_
  refine n_in ?_
  exact ⟨rfl, _, rfl, _, res0 rfl, ⟨_, rfl⟩, rfl, hp, hb⟩
theorem failed_ret {n b : Nat} {w : World} :
    CallsDIn Fence.wide n Tryz.prog 82 #[.pointer (some ⟨b, 0, none⟩)] .returning w (fun e u' w' => (∃ v, e = .returned v) ∧ u' = .returning ∧ w' = w) := by
  refine dIn (args := [.pointer (some ⟨b, 0, none⟩)]) Tryz.func82 rfl (fun c₀ cs hu => ?_)
  refine wpS_seq (s_recover0 (by simp [recoverD, hu]) ?_)
  refine wpS_of_wp (wpIn_wide (n := 0).1 ?_)
  refine c_block (r := none) ?_
  refine c_seq (r := none) ?_
  refine c_reg (r := none) ?_
  refine l_op (r := none) (k_eqlI0 Tryz.underlying20 rfl rfl ?_)
  refine l_nil ?_
  refine n_then ?_
  refine c_true (r := none) rfl ?_
  refine c_reg (r := none) ?_
  refine l_op (r := none) (k_assign (v := .nilIface) rfl ?_)
  refine l_nil ?_
  refine n_in ?_
  exact ⟨rfl, .returning, by rw [← hu], _, res0 rfl, ⟨_, rfl⟩, rfl, rfl⟩
abbrev dF (b : Nat) : Deferred := { target := .fn (.func 82) #[], args := [Value.pointer (some ⟨b, 0, none⟩)].toArray }
theorem f_inT {P : Program} {f : FuncId} {fn : Func} {c : Code} {args : List Value} {w : World} {R : Ending → World → Prop} (hf : P.funcs[f]? = some fn) (hb : fn.body = some c)
    (h : c.wpIn (Fw none) 0 P (bodyPostDIn Fence.wide 0 P fn R) (act (args.length + (fn.ntmps - args.length)) (ent args) []) w) : Calls P f args.toArray w R := by
  refine callsIn_wide.1 (callsIn_of_wp_defers (n := 0) hf hb trivial ?_)
  rw [act_start]
  exact h
section
variable {fn : Func} {N b : Nat} {e : Nat → Value} {w w' : World} {R : Value → World → Prop}
theorem t_ret {v : Value} (hx : Ext w w') (hr : (results fn (act N e [dF b]).tmps).run Tryz.prog w' = .ok v w') (hR : R v w') : bodyPostDIn Fence.wide 0 Tryz.prog fn (Ret w R) .ret (act N e [dF b]) w' := by
  refine leavesIn_cons (f := 82) (args := #[.pointer (some ⟨b, 0, none⟩)]) (by simp) (by simp [Fence.wide]) ?_ (fun _ _ => trivial) ?_
  · have h := en76 #[.pointer (some ⟨b, 0, none⟩)] w'
    simpa [invoke] using h
  · refine CallsDIn.mono failed_ret ?_
    rintro e' u' w'' ⟨⟨v', rfl⟩, rfl, rfl⟩
    exact ⟨v, hr, hx, hR⟩
theorem t_pan {c c0 : Int} {v : Value} (hx : Ext w w') (hb : w.heap.size ≤ b) (hB : Blk w' b 28 (cell1 c0)) (hr : ∀ w'', Put w' w'' b → Blk w'' b 28 (cell1 c) → (results fn (act N e [dF b]).tmps).run Tryz.prog w'' = .ok v w'' ∧ R v w'') :
    bodyPostDIn Fence.wide 0 Tryz.prog fn (Ret w R) (.panic (pan 28 c)) (act N e [dF b]) w' := by
  refine leavesIn_cons (f := 82) (args := #[.pointer (some ⟨b, 0, none⟩)]) (by simp) (by simp [Fence.wide]) ?_ (fun _ _ => trivial) ?_
  · have h := en76 #[.pointer (some ⟨b, 0, none⟩)] w'
    simpa [invoke] using h
  · refine CallsDIn.mono (failed_pan hB) ?_
    rintro e' u' w'' ⟨⟨v', rfl⟩, rfl, hp, hB'⟩
    obtain ⟨h1, h2⟩ := hr w'' hp hB'
    exact ⟨v, h1, Put.low hp hx hb, h2⟩
end
end Go.Proofs.YtepcnphmfbbhiaaGreatDoor
