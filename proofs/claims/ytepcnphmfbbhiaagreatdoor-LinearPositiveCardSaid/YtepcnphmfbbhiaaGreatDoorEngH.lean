/- Part of the proof that all functions of the layer agree with the reference implementation. -/
import Derived.Test.YtepcnphmfbbhiaaGreatDoorEngPToEngF
import Derived.Test.YtepcnphmfbbhiaaGreatDoorBase
set_option linter.all false
set_option linter.all false
namespace Go.Proofs.YtepcnphmfbbhiaaGreatDoor
open Go Go.Eng Go.RowKit
theorem om {p : Prop} (h : p := by omega) : p := h
theorem dc {p : Prop} (h : p := by decide) : p := h
theorem xt {a b c : World} (h : Ext a b) (k : Ext b c) : Ext a c := Ext.trans h k
theorem be {w w' : World} {b : Nat} {t : TypeId} {cs : Array Value} (k : Ext w w') (h : Blk w b t cs) : Blk w' b t cs := Blk.ext k h
theorem pb {w w' : World} {b c : Nat} {t : TypeId} {cs : Array Value} (k : Put w w' b) (h : Blk w c t cs) (hne : c ≠ b := by omega) : Blk w' c t cs := Put.blk k hne h
theorem plw {w0 w w' : World} {B b : Nat} (k : Put w w' b) (h : Below B w0 w) (hb : B ≤ b := by omega) : Below B w0 w' := Put.low k h hb
theorem bz {w w' : World} {n : Nat} (h : Below n w w') : w.heap.size ≤ w'.heap.size := Below.size h
theorem psz {w w' : World} {b : Nat} (k : Put w w' b) : w'.heap.size = w.heap.size := Put.size k
theorem bt {w : World} {b : Nat} {t : TypeId} {cs : Array Value} (h : Blk w b t cs) : b < w.heap.size := Blk.lt h
section draws
variable {P : Program} {r : Option Nat} {n N : Nat} {e0 : Nat → Value} {ds : List Deferred} {w0 : World} {Q : Exit → Act → World → Prop} {l : List Oper} {M : Nat} {Φ : List Ph} {R : World → World → Prop} {J : (Nat → Bool) → (Nat → Value) → World → Prop}
def StC (Q : Exit → Act → World → Prop) (r : Option Nat) (n : Nat) (P : Program) (N : Nat) (ds : List Deferred) (l : List Oper) (M : Nat) (R : World → World → Prop) (J : (Nat → Bool) → (Nat → Value) → World → Prop) (e0 : Nat → Value) (w0 : World) (Fin : List Ph → Prop) : Nat → List Ph → List Oper → Prop
  | _, acc, [] => Fin acc.reverse
  | i, acc, o :: os => ∃ φ, (StabP R φ ∧ ∀ (e : Nat → Value) (w : World) (ls : Nat → Bool), R w0 w → J ls e w → (∀ j k, predAt l j k = true → ls j = true → ls k = true) → ls i = false → (∀ k, predAt l i k = true → ls k = true) → (∀ j d, predB o j = true → dstOf l j = some d → pho acc.reverse j (e d) w) →
      wpListIn (Fw r) n P l.toArray (PostF Q N ds R J w ls i φ o e (fr l M acc.reverse (predB o) e e0)) [o] (act N (fr l M acc.reverse (predB o) e e0) ds) w) ∧ StC Q r n P N ds l M R J e0 w0 Fin (i + 1) (φ :: acc) os
theorem phv_app : ∀ (Φ Ψ : List Ph) (j : Nat) (x : Value), j < Φ.length → phv (Φ ++ Ψ) j x = phv Φ j x
  | [], _, _, _, h => by simp at h
  | _ :: _, _, 0, _, _ => rfl
  | _ :: Φ, Ψ, j + 1, x, h => phv_app Φ Ψ j x (by simpa using h)
theorem pho_app : ∀ (Φ Ψ : List Ph) (j : Nat) (x : Value) (w : World), j < Φ.length → pho (Φ ++ Ψ) j x w = pho Φ j x w
  | [], _, _, _, _, h => by simp at h
  | _ :: _, _, 0, _, _, _ => rfl
  | _ :: Φ, Ψ, j + 1, x, w, h => pho_app Φ Ψ j x w (by simpa using h)
theorem fr_app {Ψ : List Ph} {sel : Nat → Bool} {e : Nat → Value} (h : ∀ j, sel j = true → j < Φ.length) : fr l M (Φ ++ Ψ) sel e e0 = fr l M Φ sel e e0 := by
  funext t
  unfold fr
  split
  · rfl
  · split
    · rename_i hq; exact phv_app _ _ _ _ (h _ hq)
    · rfl
theorem stC_out {Fin : List Ph → Prop} : ∀ (os : List Oper) (i : Nat) (acc : List Ph), acc.length = i → (∀ k o, os[k]? = some o → ∀ j, predB o j = true → j < i + k) → StC Q r n P N ds l M R J e0 w0 Fin i acc os →
    ∃ φs, StF Q r n P N ds l M (acc.reverse ++ φs) R J e0 w0 i os φs ∧ Fin (acc.reverse ++ φs)
  | [], i, acc, _, _, h => ⟨[], trivial, by simpa [StC] using h⟩
  | o :: os, i, acc, hl, hp, ⟨φ, ⟨h1, h2⟩, h3⟩ => by
    obtain ⟨φs, h4, h5⟩ := stC_out os (i + 1) (φ :: acc) (by simp [hl]) (fun k o' ho j hj => by have := hp (k + 1) o' (by simpa using ho) j hj; omega) h3
    rw [List.reverse_cons, List.append_assoc] at h4 h5
    have hpo : ∀ j, predB o j = true → j < acc.reverse.length := fun j hj => by have := hp 0 o rfl j hj; simp; omega
    refine ⟨φ :: φs, ⟨⟨h1, fun e w ls a1 a2 a3 a4 a5 a6 => ?_⟩, h4⟩, h5⟩
    rw [fr_app hpo]
    exact h2 e w ls a1 a2 a3 a4 a5 (fun j d hj hd => by have := a6 j d hj hd; rwa [pho_app _ _ _ _ _ (hpo j hj)] at this)
theorem predsOf {l : List Oper} {M : Nat} (hwf : wfB l = true) : ∀ k o, (l.take M)[k]? = some o → ∀ j, predB o j = true → j < 0 + k := by
  intro i o ho j hj
  have ho2 : l[i]? = some o := by
    rw [List.getElem?_take] at ho
    split at ho
    · exact ho
    · cases ho
  obtain ⟨ed, he, hb⟩ := List.any_eq_true.1 hj
  simp only [Bool.and_eq_true] at hb
  have hjj := Nat.eq_of_beq_eq_true hb.2
  have h1 := List.all_eq_true.1 hwf i (List.mem_range.2 (List.getElem?_eq_some_iff.1 ho2).1)
  rw [ho2] at h1
  have h2 := List.all_eq_true.1 h1 ed (by simpa using he)
  simp only [hb.1, Bool.not_true, Bool.false_or] at h2
  rw [Nat.blt_eq] at h2
  omega
abbrev Exz (w w' : World) : Prop := w.heap.size ≤ w'.heap.size ∧ Ext w w'
theorem exz {w w' : World} (h : Ext w w') : Exz w w' := ⟨Below.size h, h⟩
def All (l : List Oper) (M : Nat) : List Ph → (Nat → Value) → World → Prop := fun Φ e w => ∀ j d, Nat.blt j M = true → dstOf l j = some d → pho Φ j (e d) w
theorem c_an {id : Nat} (M : Nat) (h : StC Q r n Tryz.prog N ds l M Ext (fun _ _ _ => True) e0 w0 (fun Φ => ∀ e w, Exz w0 w → All l M Φ e w → wpListIn (Fw r) n Tryz.prog l.toArray Q (l.drop M) (act N (fr l M Φ (fun j => Nat.blt j M) e e0) ds) w) 0 [] (l.take M))
    (hwf : wfB l = true := by kernel_rfl) (hsh : shapeB l M = true := by kernel_rfl) (hds : dstB l M = true := by kernel_rfl) : (Code.region id l.toArray true).wpIn (Fw r) n Tryz.prog Q (act N e0 ds) w0 := by
  obtain ⟨Φ, h1, h2⟩ := stC_out _ 0 [] rfl (predsOf hwf) h
  exact c_drw (Φ := Φ) hmix (Ext.drew _) (fun _ _ _ => Ext.trans) trivial hwf hsh hds h1 (fun e w ls a1 _ _ a2 => h2 e w (exz a1) a2)
theorem c_sd {id : Nat} (M : Nat) (J : (Nat → Bool) → (Nat → Value) → World → Prop) (hJ : J (fun _ => false) e0 w0.drew) (h : StC Q r n Tryz.prog N ds l M (fun _ _ => True) J e0 w0 (fun Φ => ∀ e w ls, (∀ j, Nat.blt j M = true → ls j = true) → J ls e w → wpListIn (Fw r) n Tryz.prog l.toArray Q (l.drop M) (act N (fr l M Φ (fun j => Nat.blt j M) e e0) ds) w) 0 [] (l.take M))
    (hwf : wfB l = true := by kernel_rfl) (hsh : shapeB l M = true := by kernel_rfl) (hds : dstB l M = true := by kernel_rfl) : (Code.region id l.toArray true).wpIn (Fw r) n Tryz.prog Q (act N e0 ds) w0 := by
  obtain ⟨Φ, h1, h2⟩ := stC_out _ 0 [] rfl (predsOf hwf) h
  exact c_drw (Φ := Φ) hmix trivial (fun _ _ _ _ _ => trivial) hJ hwf hsh hds h1 (fun e w ls _ hj a1 _ => h2 e w ls a1 hj)
end draws
def Fld (P : Program) (t : TypeId) (k off : Nat) : Prop := ∃ fs f m, P.underlying t = some (.struct fs) ∧ fs[k]? = some f ∧ f.offset = off ∧ (P.info? f.type).map (·.size) = some (m + 1)
theorem fld_mk {P : Program} {t : TypeId} {k : Nat} {fs : Array Field} {f : Field} {m : Nat} (hu : P.underlying t = some (.struct fs)) {off : Nat} (hf : fs[k]? = some f) (ho : f.offset = off) (hs : (P.info? f.type).map (·.size) = some (m + 1)) : Fld P t k off := ⟨fs, f, m, hu, hf, ho, hs⟩
theorem fl125a : Fld Tryz.prog 117 0 0 := fld_mk Tryz.underlying117 rfl rfl sz4
theorem fl125b : Fld Tryz.prog 117 1 1 := fld_mk Tryz.underlying117 rfl rfl sz123
theorem fl235a : Fld Tryz.prog 91 0 0 := fld_mk Tryz.underlying91 rfl rfl sz4
theorem fl36a : Fld Tryz.prog 41 0 0 := fld_mk Tryz.underlying41 rfl rfl sz9
theorem fl36b : Fld Tryz.prog 41 1 1 := fld_mk Tryz.underlying41 rfl rfl sz9
theorem fl59a : Fld Tryz.prog 72 0 0 := fld_mk Tryz.underlying72 rfl rfl sz57
theorem fl59b : Fld Tryz.prog 72 1 1 := fld_mk Tryz.underlying72 rfl rfl sz23
theorem fl59c : Fld Tryz.prog 72 2 2 := fld_mk Tryz.underlying72 rfl rfl sz24
theorem fl59d : Fld Tryz.prog 72 3 3 := fld_mk Tryz.underlying72 rfl rfl sz4
def SlI (P : Program) (t el : TypeId) (z : Value) (size bytes : Nat) : Prop := P.underlying t = some (.slice el) ∧ Inf P el z size bytes ∧ z.cells.size = size ∧ 0 < size
theorem si22 : SlI Tryz.prog 24 26 (.slice none 0 0) 1 24 := ⟨Tryz.underlying24, inf23, rfl, by decide⟩
theorem si57 : SlI Tryz.prog 65 26 (.slice none 0 0) 1 24 := ⟨Tryz.underlying65, inf23, rfl, by decide⟩
theorem si23 : SlI Tryz.prog 26 41 (.agg #[S [], S []]) 2 32 := ⟨Tryz.underlying26, inf36, rfl, by decide⟩
theorem si24 : SlI Tryz.prog 22 3 (.int .i64 0) 1 8 := ⟨Tryz.underlying22, inf3, rfl, by decide⟩
theorem si123 : SlI Tryz.prog 115 3 (.int .i64 0) 1 8 := ⟨Tryz.underlying115, inf3, rfl, by decide⟩
theorem si144 : SlI Tryz.prog 144 5 (.int .u8 0) 1 1 := ⟨Tryz.underlying144, inf5, rfl, by decide⟩
def Bzz (P : Program) (t : TypeId) (cs : Array Value) : Prop := ∃ (fs : Array Field) (z : Value) (size bytes : Nat) (pl : List (Nat × Nat)), P.underlying t = some (.struct fs) ∧ Inf P t z size bytes ∧ fs.toList.map (fun f => (f.offset, (P.info? f.type).map (·.size))) = pl.map (fun p : Nat × Nat => (p.1, some p.2)) ∧ Instr.fill (pl.toArray[·]?) z.cells [] = some cs
theorem bz36 : Bzz Tryz.prog 41 #[S [], S []] := ⟨_, _, _, _, [(0, 1), (1, 1)], Tryz.underlying41, inf36, by kernel_rfl, by kernel_rfl⟩
theorem bz62 : Bzz Tryz.prog 68 #[] := ⟨_, _, _, _, [], Tryz.underlying68, inf62, by kernel_rfl, by kernel_rfl⟩
theorem bz125 : Bzz Tryz.prog 117 #[.bool false, .slice none 0 0] := ⟨_, _, _, _, [(0, 1), (1, 1)], Tryz.underlying117, inf125, by kernel_rfl, by kernel_rfl⟩
theorem bz235 : Bzz Tryz.prog 91 #[.bool false] := ⟨_, _, _, _, [(0, 1)], Tryz.underlying91, inf235, by kernel_rfl, by kernel_rfl⟩
def Bdd (P : Program) (t : TypeId) : Prop := ∃ fs z size bytes, P.underlying t = some (.struct fs) ∧ Inf P t z size bytes ∧ fs.toList.map (fun f => (f.offset, (P.info? f.type).map (·.size))) = [(0, some 1), (1, some 1)] ∧ ∀ u v : Value, u.cells = #[u] → v.cells = #[v] → Instr.fill ([(0, 1), (1, 1)].toArray[·]?) z.cells [(0, u), (1, v)] = some #[u, v]
theorem bd36 : Bdd Tryz.prog 41 := ⟨_, _, _, _, Tryz.underlying41, inf36, by kernel_rfl, fun u v hu hv => by show Instr.fill _ #[S [], S []] _ = _; simp [Instr.fill, hu, hv]⟩
theorem bd125 : Bdd Tryz.prog 117 := ⟨_, _, _, _, Tryz.underlying117, inf125, by kernel_rfl, fun u v hu hv => by show Instr.fill _ #[.bool false, .slice none 0 0] _ = _; simp [Instr.fill, hu, hv]⟩
section ops
variable {P : Program} {r : Option Nat} {n N : Nat} {e : Nat → Value} {ds : List Deferred} {w : World} {Q : Exit → Act → World → Prop} {K : Act → World → Prop} {a : Act}
variable {ops : Array Oper} {rest : List Oper} {dst : Option Tmp} {op : Op} {d ty : Nat} {pos : String} {af : Array Edge} {id : Nat} {c c1 c2 : Code} {x y : Operand} {v : Value}
theorem q_fa {t : TypeId} {k b o off : Nat} (hk : wpListIn (Fw r) n Tryz.prog ops Q rest (act N (upd e d (.pointer (some ⟨b, o + off, none⟩))) ds) w) (hx : ev N e x = .pointer (some ⟨b, o, none⟩) := by exact zvx)
    (hf : Fld Tryz.prog t k off := by with_reducible first | exact fl65a | exact fl65b | exact fl65c | exact fl65d | exact fl36a | exact fl36b | exact fl59a | exact fl59b | exact fl59c | exact fl59d | exact fl125a | exact fl125b | exact fl235a) :
    wpListIn (Fw r) n Tryz.prog ops Q (⟨some d, .fieldAddr t x k, ty, pos, af, none⟩ :: rest) (act N e ds) w := by
  obtain ⟨fs, f, m, h1, h2, h3, h4⟩ := hf
  exact l_op (k_fieldAddr h1 h2 h3 h4 rfl hx hk)
theorem q_bz {t : TypeId} {cs : Array Value} (hk : wpListIn (Fw r) n Tryz.prog ops Q rest (act N (upd e d (.agg cs)) ds) w) (h : Bzz Tryz.prog t cs := by with_reducible first | exact bz36 | exact bz62 | exact bz125 | exact bz235) : wpListIn (Fw r) n Tryz.prog ops Q (⟨some d, .build t #[], ty, pos, af, none⟩ :: rest) (act N e ds) w := by
  obtain ⟨fs, z, s, b, pl, h1, h2, h3, h4⟩ := h
  exact l_op (k_build h1 h2 h3 rfl h4 hk)
theorem q_bd {t : TypeId} {u : Value} (hk : wpListIn (Fw r) n Tryz.prog ops Q rest (act N (upd e d (.agg #[u, v])) ds) w) (h : Bdd Tryz.prog t := by with_reducible first | exact bd36 | exact bd125) (hx : ev N e x = u := by exact zvv) (hy : ev N e y = v := by exact zvv) (hu : u.cells = #[u] := by exact rfl) (hv : v.cells = #[v] := by exact rfl) :
    wpListIn (Fw r) n Tryz.prog ops Q (⟨some d, .build t #[(0, x), (1, y)], ty, pos, af, none⟩ :: rest) (act N e ds) w := by
  obtain ⟨fs, z, s, b, h1, h2, h3, h4⟩ := h
  exact l_op (k_build (pl := [(0, 1), (1, 1)]) h1 h2 h3 (by rw [← hx, ← hy]; rfl) (h4 u v hu hv) hk)
theorem bk0 {w' : World} {b t : Nat} {cs : Array Value} (h : Blk w' b t cs := by with_reducible assumption) : Blk w' b t cs := h
theorem bk1 {w' : World} {b t : Nat} {cs : Array Value} (h : Blk w' b t cs := by
  first
  | with_reducible assumption
  | exact Blk.ext (by with_reducible first | exact And.right (by assumption) | assumption) bk0
  | exact Put.blk (by with_reducible first | exact And.right (by assumption) | assumption) (by omega) bk0) : Blk w' b t cs := h
theorem bk2 {w' : World} {b t : Nat} {cs : Array Value} (h : Blk w' b t cs := by
  first
  | with_reducible assumption
  | exact Blk.ext (by with_reducible first | exact And.right (by assumption) | assumption) bk1
  | exact Put.blk (by with_reducible first | exact And.right (by assumption) | assumption) (by omega) bk1) : Blk w' b t cs := h
theorem bk3 {w' : World} {b t : Nat} {cs : Array Value} (h : Blk w' b t cs := by
  first
  | with_reducible assumption
  | exact Blk.ext (by with_reducible first | exact And.right (by assumption) | assumption) bk2
  | exact Put.blk (by with_reducible first | exact And.right (by assumption) | assumption) (by omega) bk2) : Blk w' b t cs := h
theorem bk4 {w' : World} {b t : Nat} {cs : Array Value} (h : Blk w' b t cs := by
  first
  | with_reducible assumption
  | exact Blk.ext (by with_reducible first | exact And.right (by assumption) | assumption) bk3
  | exact Put.blk (by with_reducible first | exact And.right (by assumption) | assumption) (by omega) bk3) : Blk w' b t cs := h
theorem bk5 {w' : World} {b t : Nat} {cs : Array Value} (h : Blk w' b t cs := by
  first
  | with_reducible assumption
  | exact Blk.ext (by with_reducible first | exact And.right (by assumption) | assumption) bk4
  | exact Put.blk (by with_reducible first | exact And.right (by assumption) | assumption) (by omega) bk4) : Blk w' b t cs := h
theorem blks {w' : World} {b t : Nat} {cs : Array Value} (h : Blk w' b t cs := by
  first
  | with_reducible assumption
  | exact Blk.ext (by with_reducible first | exact And.right (by assumption) | assumption) bk5
  | exact Put.blk (by with_reducible first | exact And.right (by assumption) | assumption) (by omega) bk5) : Blk w' b t cs := h
theorem q_ld {t tb : TypeId} {b o : Nat} {cs : List Value} (hk : wpListIn (Fw r) n P ops Q rest (act N (upd e d v) ds) w) (hx : ev N e x = .pointer (some ⟨b, o, none⟩) := by exact zvx) (hb : Blk w b tb cs.toArray := by exact blks) (hv : nth cs o = some v := by exact rfl) (hu : isRow1 P t = some false := by decide +kernel) :
    wpListIn (Fw r) n P ops Q (⟨some d, .load t x, ty, pos, af, none⟩ :: rest) (act N e ds) w := q_load hk hx hb hv hu
theorem q_ld2 {t tb : TypeId} {b o : Nat} {cs : List Value} {v1 v2 : Value} (hk : wpListIn (Fw r) n P ops Q rest (act N (upd e d (.agg #[v1, v2])) ds) w) (hx : ev N e x = .pointer (some ⟨b, o, none⟩) := by exact zvx) (hb : Blk w b tb cs.toArray := by exact blks) (hv : nth2 cs o = some (v1, v2) := by exact rfl) (hu : isRow1 P t = some true := by decide +kernel) (hi : (P.info? t).map (·.size) = some 2 := by decide +kernel) :
    wpListIn (Fw r) n P ops Q (⟨some d, .load t x, ty, pos, af, none⟩ :: rest) (act N e ds) w := q_load2 hk hx hb hv hu hi
theorem q_ld4 {t tb : TypeId} {b : Nat} {v1 v2 v3 v4 : Value} (hk : wpListIn (Fw r) n P ops Q rest (act N (upd e d (.agg #[v1, v2, v3, v4])) ds) w) (hx : ev N e x = .pointer (some ⟨b, 0, none⟩) := by exact zvx) (hb : Blk w b tb #[v1, v2, v3, v4] := by exact blks) (hu : isRow1 P t = some true := by decide +kernel) (hi : (P.info? t).map (·.size) = some 4 := by decide +kernel) :
    wpListIn (Fw r) n P ops Q (⟨some d, .load t x, ty, pos, af, none⟩ :: rest) (act N e ds) w := by
  obtain ⟨D, h1, h2⟩ := isRow1_some hu
  exact l_op (k_loadA (cs := [v1, v2, v3, v4]) h1 h2 hi hx (Blk.cells hb (i := 0) rfl) hk)
theorem zo {X q : Bool} (h : X = q := by
  first
  | with_reducible first
    | exact rfl
    | assumption
    | exact dett (by assumption)
    | exact detf (by assumption)
    | exact nbt (by first | exact rfl | assumption | exact detf (by assumption))
    | exact nbf (by first | exact rfl | assumption | exact dett (by assumption))
  | decide +kernel
  | with_reducible first
    | exact dett (by omega)
    | exact detf (by omega)
    | exact nbt (detf (by omega))
    | exact nbf (dett (by omega))) : X = q := h
theorem o_tr (h : c1.wpIn (Fw r) n P Q (act N e ds) w) {q : Bool} (hx : ev N e x = .bool q := by exact zvx) (hq : q = true := by exact zo) : (Code.cond x c1 c2).wpIn (Fw r) n P Q (act N e ds) w := c_true (by rw [hx, hq]) h
theorem o_fa (h : c2.wpIn (Fw r) n P Q (act N e ds) w) {q : Bool} (hx : ev N e x = .bool q := by exact zvx) (hq : q = false := by exact zo) : (Code.cond x c1 c2).wpIn (Fw r) n P Q (act N e ds) w := c_false (by rw [hx, hq]) h
theorem o_want {l : List Oper} {j s : Nat} {q b : Bool} (hk : wpListIn (Fw r) n P l.toArray Q (⟨dst, op, ty, pos, af, none⟩ :: rest) (act N e ds) w)
    (hj : dstOf l j = some s := by exact rfl) (hv : ev N e (.tmp s) = .bool b := by exact zvx) (hb : b = q := by exact zo) : wpListIn (Fw r) n P l.toArray Q (⟨dst, op, ty, pos, af, some (j, q)⟩ :: rest) (act N e ds) w := l_want hj (by rw [hv, hb]) hk
theorem o_unw {l : List Oper} {j s : Nat} {q b : Bool} (hk : wpListIn (Fw r) n P l.toArray Q rest (act N (upd e d undef) ds) w)
    (hj : dstOf l j = some s := by exact rfl) (hv : ev N e (.tmp s) = .bool b := by exact zvx) (hb : b = !q := by first | with_reducible assumption | (show _ = true; exact zo) | (show _ = false; exact zo)) : wpListIn (Fw r) n P l.toArray Q (⟨some d, op, ty, pos, af, some (j, q)⟩ :: rest) (act N e ds) w := l_not hj (by rw [hv, hb]) hk
theorem o_und {l : List Oper} {j s : Nat} {q : Bool} (hk : wpListIn (Fw r) n P l.toArray Q rest (act N (upd e d undef) ds) w)
    (hj : dstOf l j = some s := by exact rfl) (hv : ev N e (.tmp s) = undef := by exact rfl) (hs : Nat.blt s N = true := by exact rfl) : wpListIn (Fw r) n P l.toArray Q (⟨some d, op, ty, pos, af, some (j, q)⟩ :: rest) (act N e ds) w := l_und hj hv hs hk
theorem o_pickt {c a b : Operand} {t : Bool} (hk : wpListIn (Fw r) n P ops Q rest (act N (upd e d v) ds) w) (hc : ev N e c = .bool t := by exact zvx) (ht : t = true := by exact zo) (hv : ev N e a = v := by exact zvv) :
    wpListIn (Fw r) n P ops Q (⟨some d, .pick c a b, ty, pos, af, none⟩ :: rest) (act N e ds) w := q_pickt hk hc ht hv
theorem o_pickf {c a b : Operand} {t : Bool} (hk : wpListIn (Fw r) n P ops Q rest (act N (upd e d v) ds) w) (hc : ev N e c = .bool t := by exact zvx) (ht : t = false := by exact zo) (hv : ev N e b = v := by exact zvv) :
    wpListIn (Fw r) n P ops Q (⟨some d, .pick c a b, ty, pos, af, none⟩ :: rest) (act N e ds) w := q_pickf hk hc ht hv
end ops
section gates
variable {P : Program} {r : Option Nat} {n N : Nat} {e : Nat → Value} {ds : List Deferred} {w : World} {Q : Exit → Act → World → Prop} {ops : Array Oper} {o : Oper} {rest : List Oper} {dst : Option Tmp} {op : Op} {ty : Nat} {pos : String} {af : Array Edge} {x y z : Operand} {a : Act} {t u : TypeId} {c1 c2 : Code}
abbrev Wo (r : Option Nat) (n : Nat) (P : Program) (ops : Array Oper) (Q : Exit → Act → World → Prop) (o : Oper) (rest : List Oper) (a : Act) (w : World) : Prop := wpListIn (Fw r) n P ops Q (o :: rest) a w
theorem g_op (h : Wo r n P ops Q o rest a w) : Wo r n P ops Q o rest a w := h
theorem g_no (h : Wo r n P ops Q ⟨dst, op, ty, pos, af, none⟩ rest a w) : Wo r n P ops Q ⟨dst, op, ty, pos, af, none⟩ rest a w := h
theorem g_gu {g : Nat × Bool} (h : Wo r n P ops Q ⟨dst, op, ty, pos, af, some g⟩ rest a w) : Wo r n P ops Q ⟨dst, op, ty, pos, af, some g⟩ rest a w := h
theorem g_mv (h : Wo r n P ops Q ⟨dst, .move x, ty, pos, af, none⟩ rest a w) : Wo r n P ops Q ⟨dst, .move x, ty, pos, af, none⟩ rest a w := h
theorem g_as (h : Wo r n P ops Q ⟨dst, .assign x, ty, pos, af, none⟩ rest a w) : Wo r n P ops Q ⟨dst, .assign x, ty, pos, af, none⟩ rest a w := h
theorem g_ld (h : Wo r n P ops Q ⟨dst, .load t x, ty, pos, af, none⟩ rest a w) : Wo r n P ops Q ⟨dst, .load t x, ty, pos, af, none⟩ rest a w := h
theorem g_bi {b : BinOp} (h : Wo r n P ops Q ⟨dst, .binOp b t x y u, ty, pos, af, none⟩ rest a w) : Wo r n P ops Q ⟨dst, .binOp b t x y u, ty, pos, af, none⟩ rest a w := h
theorem g_un {b : UnOp} (h : Wo r n P ops Q ⟨dst, .unOp b t x, ty, pos, af, none⟩ rest a w) : Wo r n P ops Q ⟨dst, .unOp b t x, ty, pos, af, none⟩ rest a w := h
theorem g_fa {k : Nat} (h : Wo r n P ops Q ⟨dst, .fieldAddr t x k, ty, pos, af, none⟩ rest a w) : Wo r n P ops Q ⟨dst, .fieldAddr t x k, ty, pos, af, none⟩ rest a w := h
theorem g_ex {k : Nat} (h : Wo r n P ops Q ⟨dst, .extract x k, ty, pos, af, none⟩ rest a w) : Wo r n P ops Q ⟨dst, .extract x k, ty, pos, af, none⟩ rest a w := h
theorem g_ca {c : Call} (h : Wo r n P ops Q ⟨dst, .call c, ty, pos, af, none⟩ rest a w) : Wo r n P ops Q ⟨dst, .call c, ty, pos, af, none⟩ rest a w := h
theorem g_pi (h : Wo r n P ops Q ⟨dst, .pick x y z, ty, pos, af, none⟩ rest a w) : Wo r n P ops Q ⟨dst, .pick x y z, ty, pos, af, none⟩ rest a w := h
theorem g_nc (h : Wo r n P ops Q ⟨dst, .nilCheck x, ty, pos, af, none⟩ rest a w) : Wo r n P ops Q ⟨dst, .nilCheck x, ty, pos, af, none⟩ rest a w := h
theorem g_bu {xs : Array (Nat × Operand)} (h : Wo r n P ops Q ⟨dst, .build t xs, ty, pos, af, none⟩ rest a w) : Wo r n P ops Q ⟨dst, .build t xs, ty, pos, af, none⟩ rest a w := h
theorem g_co (h : (Code.cond x c1 c2).wpIn (Fw r) n P Q a w) : (Code.cond x c1 c2).wpIn (Fw r) n P Q a w := h
end gates
structure Hd (p : Prop) : Prop where
  out : p
section irr
attribute [local irreducible] wpListIn Code.wpIn Oper.wpIn Exit.then Exit.inBlock Exit.noGoto
theorem go {G G' : Prop} (h : G') (k : Hd G' → G := by
  intro h
  repeat first
    | (with_reducible refine g_op ?_
       first
       | (with_reducible refine g_no ?_
          first
          | (with_reducible refine g_mv ?_
             refine q_move ?_)
          | (with_reducible refine g_ld ?_
             first
             | refine q_ld ?_
             | refine q_ld2 ?_
             | refine q_ld4 ?_
             | refine q_loadc ?_
             | refine q_loadc2 ?_)
          | (with_reducible refine g_bi ?_
             first
             | refine lss ?_
             | refine eql ?_
             | refine neq ?_
             | refine leq ?_
             | refine gtr ?_
             | refine geq ?_)
          | (with_reducible refine g_fa ?_
             refine q_fa ?_)
          | (with_reducible refine g_as ?_
             refine q_assign ?_)
          | (with_reducible refine g_ex ?_
             first
             | refine q_ex20 ?_
             | refine q_ex21 ?_
             | refine q_ex30 ?_
             | refine q_ex31 ?_
             | refine q_ex32 ?_
             | refine q_ex40 ?_
             | refine q_ex41 ?_
             | refine q_ex42 ?_
             | refine q_ex43 ?_)
          | (with_reducible refine g_ca ?_
             refine q_len ?_)
          | (with_reducible refine g_un ?_
             refine nt ?_)
          | (with_reducible refine g_pi ?_
             first
             | refine o_pickt ?_
             | refine o_pickf ?_)
          | (with_reducible refine g_nc ?_
             refine q_nil ?_)
          | (with_reducible refine g_bu ?_
             first
             | refine q_bz ?_
             | refine q_bd ?_))
       | (with_reducible refine g_gu ?_
          first
          | refine o_want ?_
          | refine o_unw ?_
          | refine o_und ?_))
    | with_reducible first
      | refine n_then ?_
      | refine l_nil ?_
      | refine l_drop rfl ?_
      | refine c_seq ?_
      | refine c_reg ?_
      | refine c_block ?_
      | refine c_skip ?_
      | refine c_exit ?_
      | refine c_ret ?_
      | refine n_in ?_
      | refine n_scope ?_
      | refine x_then ?_
      | refine x_in ?_
      | refine r_then ?_
      | refine r_in ?_
      | refine r_scope ?_
      | refine p_then ?_
      | refine p_in ?_
      | refine p_scope ?_
      | refine wpIn_scope ?_
      | refine wpIn_label ?_
    | refine l_nil ?_
    | refine x_by rfl ?_
    | (with_reducible refine g_co ?_
       first
       | refine o_tr ?_
       | refine o_fa ?_)
  exact h.out) : G := k ⟨h⟩
theorem gx {G G' : Prop} (h : G') (k : Hd G' → G := by
  intro h
  repeat first
    | (with_reducible refine g_op ?_
       first
       | (with_reducible refine g_no ?_
          first
          | (with_reducible refine g_mv ?_
             refine q_move ?_)
          | (with_reducible refine g_ld ?_
             first
             | refine q_ld ?_
             | refine q_ld2 ?_
             | refine q_ld4 ?_
             | refine q_loadc ?_
             | refine q_loadc2 ?_)
          | (with_reducible refine g_bi ?_
             first
             | refine lss ?_
             | refine eql ?_
             | refine neq ?_
             | refine leq ?_
             | refine gtr ?_
             | refine geq ?_)
          | (with_reducible refine g_fa ?_
             refine q_fa ?_)
          | (with_reducible refine g_as ?_
             refine q_assign ?_)
          | (with_reducible refine g_ex ?_
             first
             | refine q_ex20 ?_
             | refine q_ex21 ?_
             | refine q_ex30 ?_
             | refine q_ex31 ?_
             | refine q_ex32 ?_
             | refine q_ex40 ?_
             | refine q_ex41 ?_
             | refine q_ex42 ?_
             | refine q_ex43 ?_)
          | (with_reducible refine g_ca ?_
             refine q_len ?_)
          | (with_reducible refine g_un ?_
             refine nt ?_)
          | (with_reducible refine g_pi ?_
             first
             | refine o_pickt ?_
             | refine o_pickf ?_)
          | (with_reducible refine g_nc ?_
             refine q_nil ?_)
          | (with_reducible refine g_bu ?_
             first
             | refine q_bz ?_
             | refine q_bd ?_))
       | (with_reducible refine g_gu ?_
          first
          | refine o_want ?_
          | refine o_unw ?_
          | refine o_und ?_))
    | with_reducible first
      | refine n_then ?_
      | refine l_nil ?_
      | refine l_drop rfl ?_
      | refine c_block ?_
      | refine c_skip ?_
      | refine c_exit ?_
      | refine c_ret ?_
      | refine n_in ?_
      | refine n_scope ?_
      | refine x_then ?_
      | refine x_in ?_
      | refine r_then ?_
      | refine r_in ?_
      | refine r_scope ?_
      | refine p_then ?_
      | refine p_in ?_
      | refine p_scope ?_
      | refine wpIn_scope ?_
      | refine wpIn_label ?_
    | refine l_nil ?_
    | refine x_by rfl ?_
    | (with_reducible refine g_co ?_
       first
       | refine o_tr ?_
       | refine o_fa ?_)
  exact h.out) : G := k ⟨h⟩
section draws
variable {P : Program} {r : Option Nat} {n N : Nat} {e0 : Nat → Value} {ds : List Deferred} {w0 : World} {Q : Exit → Act → World → Prop} {l : List Oper} {M : Nat} {R : World → World → Prop} {J : (Nat → Bool) → (Nat → Value) → World → Prop} {Fin : List Ph → Prop} {i : Nat} {acc : List Ph} {o : Oper} {os : List Oper} {V : Value}
def Pl (N : Nat) (ds : List Deferred) (dst : Option Tmp) (V : Value) (w : World) (f : Nat → Value) : Exit → Act → World → Prop := fun x a' w' => x = .normal ∧ a' = (act N f ds).put dst V ∧ w' = w
theorem finp {w : World} {f : Nat → Value} {d : Nat} {v : Value} {dst : Option Tmp} (hd : dst = some d := by exact rfl) : Pl N ds dst v w f .normal (act N (upd f d v) ds) w := by subst hd; exact ⟨rfl, (act_put _ _ _ _ _).symm, rfl⟩
theorem sf_pn (h : ∀ (e : Nat → Value) (w : World) (ls : Nat → Bool), R w0 w → J ls e w → (∀ j k, predAt l j k = true → ls j = true → ls k = true) → ls i = false → (∀ k, predAt l i k = true → ls k = true) → (∀ j d, predB o j = true → dstOf l j = some d → pho acc.reverse j (e d) w) →
      wpListIn (Fw r) n P l.toArray (Pl N ds o.dst V w (fr l M acc.reverse (predB o) e e0)) [o] (act N (fr l M acc.reverse (predB o) e e0) ds) w)
    (ht : StC Q r n P N ds l M R J e0 w0 Fin (i + 1) (.pv V :: acc) os)
    (hR : ∀ w, R w w := by first | exact Ext.refl | exact fun _ => trivial) (hJ : ∀ ls e w v, J ls e w → J (setB ls i) (updO e o.dst v) w := by exact fun _ _ _ _ h => h) : StC Q r n P N ds l M R J e0 w0 Fin i acc (o :: os) :=
  ⟨.pv V, ⟨fun _ _ _ _ h => h, fun e w ls a1 a2 a3 a4 a5 a6 => list_mono (h e w ls a1 a2 a3 a4 a5 a6) (fun _ _ _ ⟨h1, h2, h3⟩ => .inl ⟨h1, V, h2, h3 ▸ hR _, rfl, h3 ▸ hJ _ _ _ _ a2⟩)⟩, ht⟩
theorem sf_pw (h : ∀ (e : Nat → Value) (w : World) (ls : Nat → Bool), R w0 w → J ls e w → (∀ k, predAt l i k = true → ls k = true) → (∀ j d, predB o j = true → dstOf l j = some d → pho acc.reverse j (e d) w) →
      wpListIn (Fw r) n P l.toArray (Pl N ds o.dst V w (fr l M acc.reverse (predB o) e e0)) [o] (act N (fr l M acc.reverse (predB o) e e0) ds) w)
    (ht : StC Q r n P N ds l M R J e0 w0 Fin (i + 1) (.pv V :: acc) os)
    (hR : ∀ w, R w w := by first | exact Ext.refl | exact fun _ => trivial) (hJ : ∀ ls e w v, J ls e w → J (setB ls i) (updO e o.dst v) w := by exact fun _ _ _ _ h => h) : StC Q r n P N ds l M R J e0 w0 Fin i acc (o :: os) :=
  sf_pn (fun e w ls a1 a2 _ _ a5 a6 => h e w ls a1 a2 a5 a6) ht hR hJ
theorem sf_pl (ht : StC Q r n P N ds l M R J e0 w0 Fin (i + 1) (.pv V :: acc) os)
    (h : ∀ (e : Nat → Value) (w : World), R w0 w → wpListIn (Fw r) n P l.toArray (Pl N ds o.dst V w (fr l M acc.reverse (predB o) e e0)) [o] (act N (fr l M acc.reverse (predB o) e e0) ds) w := by
      intro e w hR
      refine go ?_
      exact finp)
    (hR : ∀ w, R w w := by first | exact Ext.refl | exact fun _ => trivial) (hJ : ∀ ls e w v, J ls e w → J (setB ls i) (updO e o.dst v) w := by exact fun _ _ _ _ h => h) : StC Q r n P N ds l M R J e0 w0 Fin i acc (o :: os) :=
  sf_pw (fun e w _ a1 _ _ _ => h e w a1) ht hR hJ
theorem sf_nil (h : Fin acc.reverse) : StC Q r n P N ds l M R J e0 w0 Fin i acc [] := h
theorem sf {G G' : Prop} (h : G') (k : Hd G' → G := by
  intro h
  repeat refine sf_pl ?_
  try refine sf_nil ?_
  exact h.out) : G := k ⟨h⟩
end draws
end irr
section draws
variable {P : Program} {r : Option Nat} {n N : Nat} {e0 : Nat → Value} {ds : List Deferred} {w0 : World} {Q : Exit → Act → World → Prop} {l : List Oper} {M : Nat} {R : World → World → Prop} {J : (Nat → Bool) → (Nat → Value) → World → Prop} {Fin : List Ph → Prop} {i : Nat} {acc : List Ph} {o : Oper} {os : List Oper} {V : Value} {p : Value → World → Prop} {φ : Ph}
def Sn (Q : Exit → Act → World → Prop) (N : Nat) (ds : List Deferred) (dst : Option Tmp) (f : Nat → Value) (K : Value → World → Prop) : Exit → Act → World → Prop := fun x a' w' =>
  (x = .normal ∧ ∃ v, a' = (act N f ds).put dst v ∧ K v w') ∨ (∃ c, x = .panic c ∧ Q (.panic c) a' w')
theorem fs {f : Nat → Value} {d : Nat} {v : Value} {dst : Option Tmp} {K : Value → World → Prop} {w : World} (h : K v w) (hd : dst = some d := by exact rfl) : Sn Q N ds dst f K .normal (act N (upd f d v) ds) w := by subst hd; exact .inl ⟨rfl, v, (act_put _ _ _ _ _).symm, h⟩
theorem fs0 {f : Nat → Value} {K : Value → World → Prop} {w : World} (h : K undef w) : Sn Q N ds none f K .normal (act N f ds) w := .inl ⟨rfl, undef, rfl, h⟩
theorem sf_ap (h : ∀ (e : Nat → Value) (w : World), R w0 w → (∀ j d, predB o j = true → dstOf l j = some d → pho acc.reverse j (e d) w) →
      wpListIn (Fw r) n P l.toArray (Pl N ds o.dst V w (fr l M acc.reverse (predB o) e e0)) [o] (act N (fr l M acc.reverse (predB o) e e0) ds) w)
    (ht : StC Q r n P N ds l M R J e0 w0 Fin (i + 1) (.pv V :: acc) os)
    (hR : ∀ w, R w w := by first | exact Ext.refl | exact fun _ => trivial) (hJ : ∀ ls e w v, J ls e w → J (setB ls i) (updO e o.dst v) w := by exact fun _ _ _ _ h => h) : StC Q r n P N ds l M R J e0 w0 Fin i acc (o :: os) :=
  sf_pw (fun e w _ a1 _ _ a2 => h e w a1 a2) ht hR hJ
theorem sf_ag (h : ∀ (e : Nat → Value) (w : World), R w0 w → (∀ j d, predB o j = true → dstOf l j = some d → pho acc.reverse j (e d) w) →
      wpListIn (Fw r) n P l.toArray (Sn Q N ds o.dst (fr l M acc.reverse (predB o) e e0) (fun v w' => R w w' ∧ φ.ok v w')) [o] (act N (fr l M acc.reverse (predB o) e e0) ds) w)
    (hs : StabP R φ) (ht : StC Q r n P N ds l M R (fun _ _ _ => True) e0 w0 Fin (i + 1) (φ :: acc) os) : StC Q r n P N ds l M R (fun _ _ _ => True) e0 w0 Fin i acc (o :: os) :=
  ⟨φ, ⟨hs, fun e w ls a1 _ _ _ _ a6 => list_mono (h e w a1 a6) (fun _ _ _ hh => hh.imp (fun ⟨h1, v, h2, h3, h4⟩ => ⟨h1, v, h2, h3, h4, trivial⟩) id)⟩, ht⟩
theorem sf_ae (h : ∀ (e : Nat → Value) (w : World), R w0 w → (∀ j d, predB o j = true → dstOf l j = some d → pho acc.reverse j (e d) w) →
      wpListIn (Fw r) n P l.toArray (Sn Q N ds o.dst (fr l M acc.reverse (predB o) e e0) (fun v w' => R w w' ∧ v = V)) [o] (act N (fr l M acc.reverse (predB o) e e0) ds) w)
    (ht : StC Q r n P N ds l M R (fun _ _ _ => True) e0 w0 Fin (i + 1) (.pv V :: acc) os) : StC Q r n P N ds l M R (fun _ _ _ => True) e0 w0 Fin i acc (o :: os) := sf_ag (φ := .pv V) h (fun _ _ _ _ h => h) ht
theorem sf_ah (p : Value → World → Prop) (h : ∀ (e : Nat → Value) (w : World), R w0 w → (∀ j d, predB o j = true → dstOf l j = some d → pho acc.reverse j (e d) w) →
      wpListIn (Fw r) n P l.toArray (Sn Q N ds o.dst (fr l M acc.reverse (predB o) e e0) (fun v w' => R w w' ∧ p v w')) [o] (act N (fr l M acc.reverse (predB o) e e0) ds) w)
    (ht : StC Q r n P N ds l M R (fun _ _ _ => True) e0 w0 Fin (i + 1) (.ph p :: acc) os) (hs : StabP R (.ph p) := by exact fun _ _ _ _ h => h) : StC Q r n P N ds l M R (fun _ _ _ => True) e0 w0 Fin i acc (o :: os) := sf_ag (φ := .ph p) h hs ht
theorem sf_sn (h : ∀ (e : Nat → Value) (w : World) (ls : Nat → Bool), J ls e w → (∀ j k, predAt l j k = true → ls j = true → ls k = true) → ls i = false → (∀ k, predAt l i k = true → ls k = true) →
      wpListIn (Fw r) n P l.toArray (Sn Q N ds o.dst (fr l M acc.reverse (predB o) e e0) (fun v w' => J (setB ls i) (updO e o.dst v) w')) [o] (act N (fr l M acc.reverse (predB o) e e0) ds) w)
    (ht : StC Q r n P N ds l M (fun _ _ => True) J e0 w0 Fin (i + 1) (.ph (fun _ _ => True) :: acc) os) : StC Q r n P N ds l M (fun _ _ => True) J e0 w0 Fin i acc (o :: os) :=
  ⟨.ph fun _ _ => True, ⟨fun _ _ _ _ _ => trivial, fun e w ls _ a2 a3 a4 a5 _ => list_mono (h e w ls a2 a3 a4 a5) (fun _ _ _ hh => hh.imp (fun ⟨h1, v, h2, h3⟩ => ⟨h1, v, h2, trivial, trivial, h3⟩) id)⟩, ht⟩
theorem sf_sv (h : ∀ (e : Nat → Value) (w : World) (ls : Nat → Bool), J ls e w → (∀ j k, predAt l j k = true → ls j = true → ls k = true) → ls i = false → (∀ k, predAt l i k = true → ls k = true) →
      wpListIn (Fw r) n P l.toArray (Sn Q N ds o.dst (fr l M acc.reverse (predB o) e e0) (fun v w' => v = V ∧ J (setB ls i) (updO e o.dst v) w')) [o] (act N (fr l M acc.reverse (predB o) e e0) ds) w)
    (ht : StC Q r n P N ds l M (fun _ _ => True) J e0 w0 Fin (i + 1) (.pv V :: acc) os) : StC Q r n P N ds l M (fun _ _ => True) J e0 w0 Fin i acc (o :: os) :=
  ⟨.pv V, ⟨fun _ _ _ _ h => h, fun e w ls _ a2 a3 a4 a5 _ => list_mono (h e w ls a2 a3 a4 a5) (fun _ _ _ hh => hh.imp (fun ⟨h1, v, h2, h3, h4⟩ => ⟨h1, v, h2, trivial, h3, h4⟩) id)⟩, ht⟩
end draws
def inR (l : List (Nat × Nat)) (t : Nat) : Bool := l.any fun d => Nat.ble d.1 t && Nat.ble t d.2
theorem sm_upd {l : List (Nat × Nat)} {e1 e' : Nat → Value} {d : Nat} {v : Value} (hd : inR l d = true) (h : ∀ t, inR l t = false → e' t = e1 t) : ∀ t, inR l t = false → upd e' d v t = e1 t := by
  intro t ht
  have : t ≠ d := fun hh => by subst hh; rw [hd] at ht; cases ht
  rw [upd_ne _ _ this]; exact h t ht
theorem sm_ov {l m : List (Nat × Nat)} {e1 e e' : Nat → Value} (hs : (m.all fun d => l.any fun c => Nat.ble c.1 d.1 && Nat.ble d.2 c.2) = true) (h : ∀ t, inR l t = false → e' t = e1 t) : ∀ t, inR l t = false → ov (inR m) e e' t = e1 t := by
  intro t ht
  have : inR m t = false := by
    cases hm : inR m t with
    | false => rfl
    | true =>
      obtain ⟨d, hd, h1⟩ := List.any_eq_true.1 hm
      obtain ⟨c, hc, h2⟩ := List.any_eq_true.1 (List.all_eq_true.1 hs d hd)
      simp only [Bool.and_eq_true, Nat.ble_eq] at h1 h2
      have : inR l t = true := List.any_eq_true.2 ⟨c, hc, by simp only [Bool.and_eq_true, Nat.ble_eq]; omega⟩
      rw [this] at ht; cases ht
  unfold ov; rw [this]; exact h t ht
theorem dIx_in : ∀ (os : List Oper) (t j k : Nat) (l : List (Nat × Nat)), (os.all fun o => match o.dst with | some d => inR l d | none => true) = true → dIx os t j = some k → inR l t = true
  | [], _, _, _, _, _, h => by simp [dIx] at h
  | o :: os, t, j, k, l, ha, h => by
    rw [List.all_cons, Bool.and_eq_true] at ha
    unfold dIx at h
    split at h
    · rename_i d hd
      split at h
      · rename_i hb
        have h1 := ha.1
        rw [hd] at h1
        rw [← Nat.eq_of_beq_eq_true hb]; exact h1
      · exact dIx_in os t (j + 1) k l ha.2 h
    · exact dIx_in os t (j + 1) k l ha.2 h
theorem sm_fr {l : List (Nat × Nat)} {ops : List Oper} {M : Nat} {Φ : List Ph} {sel : Nat → Bool} {e1 e e' : Nat → Value} (hs : ((ops.take M).all fun o => match o.dst with | some d => inR l d | none => true) = true) (h : ∀ t, inR l t = false → e' t = e1 t) :
    ∀ t, inR l t = false → fr ops M Φ sel e e' t = e1 t := by
  intro t ht
  unfold fr
  split
  · exact h t ht
  · rename_i j hj
    rw [dIx_in _ _ _ _ _ hs hj] at ht; cases ht
theorem sm_rfl {l : List (Nat × Nat)} {e : Nat → Value} : ∀ t, inR l t = false → e t = e t := fun _ _ => rfl
theorem same {l : List (Nat × Nat)} {e e' : Nat → Value} (h : ∀ t, inR l t = false → e' t = e t := by
  repeat first
    | with_reducible exact sm_rfl
    | ((with_reducible refine sm_upd ?_ ?_); · exact rfl)
    | ((with_reducible refine sm_ov ?_ ?_); · kernel_rfl)
    | ((with_reducible refine sm_fr ?_ ?_); · kernel_rfl)) : ∀ t, inR l t = false → e' t = e t := h
section code
variable {P : Program} {r : Option Nat} {n N : Nat} {e : Nat → Value} {ds : List Deferred} {w : World} {Q : Exit → Act → World → Prop} {K : Act → World → Prop} {c c1 : Code} {I : Nat → (Nat → Value) → World → Prop} {mods : List (Nat × Nat)} {k : Nat}
theorem ov_eq {e1 : Nat → Value} (h : ∀ t, inR mods t = false → e1 t = e t) : e1 = ov (inR mods) e1 e := funext fun t => by
  unfold ov; split
  · rfl
  · rename_i hh; exact h t hh
def LpK (N : Nat) (ds : List Deferred) (mods : List (Nat × Nat)) (e : Nat → Value) (I : Nat → (Nat → Value) → World → Prop) (k : Nat) : Act → World → Prop := fun a' w' => ∃ k' e', k' < k ∧ a' = act N e' ds ∧ (∀ t, inR mods t = false → e' t = e t) ∧ I k' e' w'
theorem c_lp (mods : List (Nat × Nat)) (I : Nat → (Nat → Value) → World → Prop) (k : Nat) (h0 : I k e w)
    (hs : ∀ k e1 w1, I k e1 w1 → c.wpIn (Fw r) n P (Exit.then (LpK N ds mods e I k) Q) (act N (ov (inR mods) e1 e) ds) w1) : (Code.loop c).wpIn (Fw r) n P Q (act N e ds) w :=
  c_loop (fun k e1 w1 => (∀ t, inR mods t = false → e1 t = e t) ∧ I k e1 w1) k ⟨fun _ _ => rfl, h0⟩ fun k e1 w1 ⟨h1, h2⟩ => by
    have := hs k e1 w1 h2
    rw [← ov_eq h1] at this
    exact wpIn_mono this (by
      intro x a' w' hq
      cases x <;> first | exact hq | (obtain ⟨k', e', hk, rfl, hsm, hI'⟩ := hq; exact ⟨k', e', hk, rfl, hsm, hI'⟩))
theorem lend {e' : Nat → Value} {w' : World} {k' : Nat} (hI : I k' e' w') (hk : k' < k := by omega) (hs : ∀ t, inR mods t = false → e' t = e t := by exact same) : LpK N ds mods e I k (act N e' ds) w' := ⟨k', e', hk, rfl, hs, hI⟩
def JnK (N : Nat) (ds : List Deferred) (mods : List (Nat × Nat)) (e : Nat → Value) (I : (Nat → Value) → World → Prop) : Act → World → Prop := fun a' w' => ∃ e', a' = act N e' ds ∧ (∀ t, inR mods t = false → e' t = e t) ∧ I e' w'
theorem c_jn (mods : List (Nat × Nat)) (I : (Nat → Value) → World → Prop) (h1 : c1.wpIn (Fw r) n P (Exit.then (JnK N ds mods e I) Q) (act N e ds) w)
    (h2 : ∀ e1 w1, I e1 w1 → K (act N (ov (inR mods) e1 e) ds) w1) : c1.wpIn (Fw r) n P (Exit.then K Q) (act N e ds) w :=
  wpIn_mono h1 (by
    intro x a' w' hq
    cases x <;> first | exact hq | (obtain ⟨e', rfl, h3, h4⟩ := hq; rw [ov_eq h3]; exact h2 e' w' h4))
theorem jend {I : (Nat → Value) → World → Prop} {e' : Nat → Value} {w' : World} (hI : I e' w') (hs : ∀ t, inR mods t = false → e' t = e t := by exact same) : JnK N ds mods e I (act N e' ds) w' := ⟨e', rfl, hs, hI⟩
end code
section ops
variable {P : Program} {r : Option Nat} {n N : Nat} {e : Nat → Value} {ds : List Deferred} {w : World} {Q : Exit → Act → World → Prop} {K : Act → World → Prop} {a : Act}
variable {ops : Array Oper} {rest : List Oper} {op : Op} {d ty : Nat} {pos : String} {af : Array Edge} {id : Nat} {c c1 c2 : Code} {x y : Operand} {v : Value}
abbrev L (r : Option Nat) (n : Nat) (ops : Array Oper) (Q : Exit → Act → World → Prop) (rest : List Oper) (N : Nat) (e : Nat → Value) (ds : List Deferred) (w : World) : Prop := wpListIn (Fw r) n Tryz.prog ops Q rest (act N e ds) w
theorem al {t : TypeId} {z : Value} {s b : Nat} (hi : Inf Tryz.prog t z s b) (hk : ∀ w', (w'.heap.size = w.heap.size + 1 ∧ Ext w w') → Blk w' w.heap.size t z.cells → L r n ops Q rest N (upd e d (.pointer (some ⟨w.heap.size, 0, none⟩))) ds w') :
    L r n ops Q (⟨some d, .alloc t, ty, pos, af, none⟩ :: rest) N e ds w := l_op (k_alloc hi fun w' h1 h2 h3 => hk w' ⟨h2, h1⟩ h3)
theorem bx {t : TypeId} (hk : ∀ w', (w'.heap.size = w.heap.size + 1 ∧ Ext w w') → Blk w' w.heap.size t v.cells → L r n ops Q rest N (upd e d (.pointer (some ⟨w.heap.size, 0, none⟩))) ds w') (hx : ev N e x = v := by exact zvv) :
    L r n ops Q (⟨some d, .box t x, ty, pos, af, none⟩ :: rest) N e ds w := l_op (k_box hx fun w' h1 h2 h3 => hk w' ⟨h2, h1⟩ h3)
theorem cl {R : Value → World → Prop} {f : FuncId} {xs : Array Operand} {ats : Array TypeId} {vs : List Value} (hf : Enters Tryz.prog f) (hc : Calls Tryz.prog f vs.toArray w (Ret w R)) (hk : ∀ v w', Exz w w' → R v w' → L r n ops Q rest N (upd e d v) ds w') (hv : xs.toList.map (ev N e) = vs := by exact rfl) :
    L r n ops Q (⟨some d, .call ⟨.value (.func f), xs, ats⟩, ty, pos, af, none⟩ :: rest) N e ds w := l_op (k_call hf hv hc fun v w' h => hk v w' (exz h))
theorem clb {R : Value → World → Prop} {f : FuncId} {xs : Array Operand} {ats : Array TypeId} {vs : List Value} (hf : Enters Tryz.prog f) (hv : xs.toList.map (ev N e) = vs := by exact rfl) (hc : Calls Tryz.prog f vs.toArray w (Ret w R)) (hk : ∀ v w', Exz w w' → R v w' → L r n ops Q rest N (upd e d v) ds w') :
    L r n ops Q (⟨some d, .call ⟨.value (.func f), xs, ats⟩, ty, pos, af, none⟩ :: rest) N e ds w := l_op (k_call hf hv hc fun v w' h => hk v w' (exz h))
theorem clV {R : Value → World → Prop} {f : FuncId} {lb : List Value} {xs : Array Operand} {ats : Array TypeId} {vs : List Value} (hf : Enters Tryz.prog f) (hx : ev N e x = .func (.func f) #[] lb.toArray) (hv : xs.toList.map (ev N e) = vs) (hc : Calls Tryz.prog f (vs ++ lb).toArray w (Ret w R))
    (hk : ∀ v w', Exz w w' → R v w' → K (act N (upd e d v) ds) w') {g : Option (Nat × Bool)} : Oper.wpIn (Fw r) n Tryz.prog ⟨some d, .call ⟨.value x, xs, ats⟩, ty, pos, af, g⟩ (act N e ds) w K Q := k_callV hf hx hv hc fun v w' h => hk v w' (exz h)
theorem k_callz {R : Value → World → Prop} {f : FuncId} {xs : Array Operand} {ats : Array TypeId} {vs : List Value} {g : Option (Nat × Bool)} (hf : Enters Tryz.prog f) (hv : xs.toList.map (ev N e) = vs) (hc : Calls Tryz.prog f vs.toArray w (Ret w R))
    (hk : ∀ v w', Exz w w' → R v w' → K (act N (upd e d v) ds) w') : Oper.wpIn (Fw r) n Tryz.prog ⟨some d, .call ⟨.value (.func f), xs, ats⟩, ty, pos, af, g⟩ (act N e ds) w K Q := k_call hf hv hc fun v w' h => hk v w' (exz h)
theorem ivk {t : TypeId} {D : TypeDesc} {name : String} {f : FuncId} {xs : Array Operand} {ats : Array TypeId} {vs : List Value} {R : Value → World → Prop} {g : Option (Nat × Bool)} (hf : Enters Tryz.prog f) (hm : MethodOf Tryz.prog t name f) (hu : Tryz.prog.underlying t = some D) (hd : notPtr D = true)
    (hx : ev N e x = .iface t v) (hv : xs.toList.map (ev N e) = vs) (hc : Calls Tryz.prog f (v :: vs).toArray w (Ret w R)) (hk : ∀ v w', Exz w w' → R v w' → K (act N (upd e d v) ds) w') : Oper.wpIn (Fw r) n Tryz.prog ⟨some d, .call { callee := .invoke x name, args := xs, argTypes := ats }, ty, pos, af, g⟩ (act N e ds) w K Q := k_invoke hf hm hu hd hx hv hc fun v w' h => hk v w' (exz h)
theorem SA {t tb b o m : Nat} {vs : List Value} {cs : Array Value} (hb : Blk w b tb cs) (hk : ∀ w', Put w w' b → Blk w' b tb (putCells cs o vs) → L r n ops Q rest N e ds w') (hx : ev N e x = .pointer (some ⟨b, o, none⟩) := by exact zvx) (hy : ev N e y = .agg vs.toArray := by exact zvx)
    (hi : (Tryz.prog.info? t).map (·.size) = some m := by with_reducible first | exact sz36 | exact sz125 | exact sz65 | exact sz59) (hm : vs.length = m := by exact rfl) (h1 : vs.all (·.oneCell') = true := by exact rfl) (ho : o + vs.length ≤ cs.size := by exact Nat.le_of_ble_eq_true rfl) :
    L r n ops Q (⟨none, .store t x y, ty, pos, af, none⟩ :: rest) N e ds w := l_op (k_storeA (hm ▸ hi) hx hy (List.all_eq_true.1 h1) hb ho hk)
theorem SO {t tb b o : Nat} {cs : Array Value} (hb : Blk w b tb cs) (hk : ∀ w', Put w w' b → Blk w' b tb (cs.setIfInBounds o v) → L r n ops Q rest N e ds w') (hx : ev N e x = .pointer (some ⟨b, o, none⟩) := by exact zvx) (hy : ev N e y = v := by exact zvv) (h1 : v.oneCell' = true := by exact rfl)
    (hi : (Tryz.prog.info? t).map (·.size) = some 1 := by with_reducible first | exact sz3 | exact sz4 | exact sz123 | exact sz32 | exact sz57 | exact sz22 | exact sz23 | exact sz24 | exact sz150) (ho : o < cs.size := by exact Nat.le_of_ble_eq_true rfl) :
    L r n ops Q (⟨none, .store t x y, ty, pos, af, none⟩ :: rest) N e ds w := l_op (k_store hi hx hy h1 hb ho hk)
theorem BS {t el size bytes : Nat} {z : Value} {cs : List Value} (hk : ∀ w', Ext w w' → w.heap.size < w'.heap.size → w'.ownsRow w.heap.size el size (.slice (some ⟨w.heap.size, 0, none⟩) 1 1) 1 cs → L r n ops Q rest N (upd e d (.slice (some ⟨w.heap.size, 0, none⟩) 1 1)) ds w') (hx : ev N e x = v := by exact zvv) (hc : v.cells = cs.toArray := by exact rfl)
    (hs : SlI Tryz.prog t el z size bytes := by with_reducible first | exact si22 | exact si57 | exact si31 | exact si23 | exact si24 | exact si123 | exact si144) (hf : Instr.fill (fun i => some (i * size, size)) ((Array.range (1 * size)).map (z.cells[· % z.cells.size]!)) [(0, v)] = some cs.toArray := by kernel_rfl)
    (hl : cs.toArray.size = 1 * size := by exact rfl) (h24 : Nat.ble (1 * size) 16777216 = true := by exact rfl) : L r n ops Q (⟨some d, .buildSlice t 1 #[(0, x)], ty, pos, af, none⟩ :: rest) N e ds w := l_op (k_buildSlice hs.1 hs.2.1 (by rw [← hx]; rfl) (Nat.le_of_ble_eq_true h24) (by have := hs.2.2.2; omega) hf hl (by decide) hk)
theorem BS2 {t el size bytes : Nat} {z u : Value} {cs ds' : List Value} (hk : ∀ w', Ext w w' → w.heap.size < w'.heap.size → w'.ownsRow w.heap.size el size (.slice (some ⟨w.heap.size, 0, none⟩) 2 2) 2 (cs ++ ds') → L r n ops Q rest N (upd e d (.slice (some ⟨w.heap.size, 0, none⟩) 2 2)) ds w') (hx : ev N e x = u := by exact zvv) (hy : ev N e y = v := by exact zvv) (hc : u.cells = cs.toArray := by exact rfl) (hd : v.cells = ds'.toArray := by exact rfl)
    (hs : SlI Tryz.prog t el z size bytes := by with_reducible first | exact si22 | exact si57 | exact si31 | exact si23 | exact si24 | exact si123 | exact si144) (hf : Instr.fill (fun i => some (i * size, size)) ((Array.range (2 * size)).map (z.cells[· % z.cells.size]!)) [(0, u), (1, v)] = some (cs ++ ds').toArray := by kernel_rfl)
    (hl : (cs ++ ds').toArray.size = 2 * size := by exact rfl) (h24 : Nat.ble (2 * size) 16777216 = true := by exact rfl) : L r n ops Q (⟨some d, .buildSlice t 2 #[(0, x), (1, y)], ty, pos, af, none⟩ :: rest) N e ds w := l_op (k_buildSlice hs.1 hs.2.1 (by rw [← hx, ← hy]; rfl) (Nat.le_of_ble_eq_true h24) (by have := hs.2.2.2; omega) hf hl (by decide) hk)
theorem AP {t ty el size bytes base lo m c k : Nat} {z : Value} {A : Option Addr} {xs news : List Value} (hown : w.ownsRow base el size v k xs) (hr : Rw w lo A news) (hk : ∀ v' w', w'.ownsRow base el size v' (k + m) (xs ++ news) → w.grownBy w' v.ownBlock → (v'.ownBlock = v.ownBlock ∨ v'.ownBlock = some w.heap.size) → L r n ops Q rest N (upd e d v') ds w')
    (h1 : news.all (·.oneCell') = true := by exact rfl) (hx : ev N e x = v := by exact zvx) (hy : ev N e y = .slice A m c := by exact zvx) (hs : SlI Tryz.prog t el z size bytes := by with_reducible first | exact si22 | exact si57 | exact si31 | exact si23 | exact si24 | exact si123 | exact si144) (hl : news.length = m * size := by exact rfl)
    (h63 : k + m ≤ maxLen := by simp only [maxLen]; omega) (hb : (k + m) * bytes ≤ 140737488355328 := by omega) (hbase : base ≤ w.heap.size := by omega) :
    L r n ops Q (⟨some d, .call { callee := .builtin .append, args := #[x, y], argTypes := #[t, t] }, ty, pos, af, none⟩ :: rest) N e ds w := l_op (k_append hs.1 hs.2.1 hs.2.2.1 hs.2.2.2 hx hown hy hr hl (List.all_eq_true.1 h1) h63 hb hbase hk)
theorem al1 (h : v.oneCell' = true) : [v].all (·.oneCell') = true := by simp [h]
end ops
end Go.Proofs.YtepcnphmfbbhiaaGreatDoor
