/-
  XG, part f: structs of numbers, compared; results that lie in cells; rows as one value.
-/
import Derived.Test.YtjlhjjjhblcokaaXe
import Derived.Laws.StructEq
namespace Go.XG

section
variable {P : Program}
inductive FieldsI (P : Program) (k : IntKind) (n : Nat) : Nat → List Field → Prop
  | nil : FieldsI P k n n []
  | cons {f : Field} {fs : List Field} {j : Nat} (hn : f.name ≠ "_") (ho : f.offset = j) (hu : P.underlying f.type = some (.int k)) (ha : ∀ w, (isAgg f.type).run P w = .ok false w) (h : FieldsI P k n (j + 1) fs) : FieldsI P k n j (f :: fs)
class IntS (P : Program) (t : TypeId) (k : outParam IntKind) (n : outParam Nat) : Prop where
  h : ∃ fs, P.underlying t = some (.struct fs) ∧ P.stoodInHeld t = false ∧ FieldsI P k n 0 fs.toList
theorem part_int' {e : TypeId} {k : IntKind} {xs : List Int} {i : Nat} (w : World) (ha : (isAgg e).run P w = .ok false w) (h : i < xs.length) : (part e (xs.map (Value.int k)).toArray i).run P w = .ok (.int k (xs.getD i 0)) w := by
  simp [part, ha, h]
theorem FieldsI.le {k : IntKind} {n j : Nat} {fs : List Field} (h : FieldsI P k n j fs) : j ≤ n := by
  induction h with
  | nil => exact Nat.le_refl _
  | cons _ _ _ _ _ ih => omega
theorem FieldsI.lt {k : IntKind} {n j : Nat} {f : Field} {fs : List Field} (h : FieldsI P k n j (f :: fs)) : j < n := by
  cases h with
  | cons _ _ _ _ h => exact h.le
theorem run_eqFields_ints (d : Nat) {k : IntKind} {n j : Nat} {fs : List Field} {xs ys : List Int} (hx : xs.length = n) (hy : ys.length = n) (w : World) (h : FieldsI P k n j fs) :
    (Op.eqFields (d + 1) (xs.map (Value.int k)).toArray (ys.map (Value.int k)).toArray fs).run P w = .ok (decide (xs.drop j = ys.drop j)) w := by
  induction h with
  | nil => simp [Op.eqFields, ← hx, List.drop_of_length_le, hy]
  | @cons f fs j hn ho hu ha h ih =>
    have hj : j < n := h.le
    subst ho
    simp only [Op.eqFields, if_pos hn, Sem.run_bind, part_int' w (ha w) (show f.offset < xs.length by omega), part_int' w (ha w) (show f.offset < ys.length by omega), Result.andThen_ok, run_equalIn_int w d f.type k k _ _ hu, Sem.run_ite, ih]
    rw [List.drop_eq_getElem_cons (show f.offset < xs.length by omega), List.drop_eq_getElem_cons (show f.offset < ys.length by omega)]
    simp only [List.getD_eq_getElem?_getD, List.getElem?_eq_getElem (show f.offset < xs.length by omega), List.getElem?_eq_getElem (show f.offset < ys.length by omega), Option.getD_some, List.cons.injEq]
    by_cases e : xs[f.offset] = ys[f.offset]
    · simp [e]
    · simp [e]
theorem run_eq_struct (d : Nat) {t : TypeId} {k : IntKind} {n : Nat} {xs ys : List Int} (w : World) [h : IntS P t k n] (hx : xs.length = n) (hy : ys.length = n) :
    (Op.equalIn (d + 2) t (.agg (xs.map (Value.int k)).toArray) (.agg (ys.map (Value.int k)).toArray)).run P w = .ok (decide (xs = ys)) w := by
  obtain ⟨fs, h1, h2, h3⟩ := h.h
  have hf : P.fieldsOf t = fs := by simp [Program.fieldsOf, h1]
  rw [run_equalIn_struct w (d + 1) t _ _ (by rw [hf]; exact h1) h2, hf]
  exact run_eqFields_ints d hx hy w h3
end
section
variable {C : Cx} {o : Oper} {ρ : Env}
theorem pv_eql_st {x y : Operand} {t u n : Nat} {k : IntKind} (xs ys : List Int) [IntS C.P t k n] [hg : NoGuard C.P t] (ho : o.op = .binOp .eql t x y u) (hx : ev ρ x = .agg (xs.map (Value.int k)).toArray) (hy : ev ρ y = .agg (ys.map (Value.int k)).toArray)
    (hl : xs.length = n) (hl' : ys.length = n) : PV C o ρ (.bool (decide (xs = ys))) := fun w => by
  have h : (Op.equalIn 10000 t (.agg (xs.map (Value.int k)).toArray) (.agg (ys.map (Value.int k)).toArray)).run C.P w = _ := run_eq_struct (P := C.P) 9998 w (t := t) (k := k) hl hl'
  simp only [execOp, ho, hx, hy, Sem.run_bind, run_guard_agg, Result.andThen_ok, binOp, Op.equal, Op.maxDepth, h, Sem.run_pure]
theorem pv_neq_st {x y : Operand} {t u n : Nat} {k : IntKind} (xs ys : List Int) [IntS C.P t k n] [hg : NoGuard C.P t] (ho : o.op = .binOp .neq t x y u) (hx : ev ρ x = .agg (xs.map (Value.int k)).toArray) (hy : ev ρ y = .agg (ys.map (Value.int k)).toArray)
    (hl : xs.length = n) (hl' : ys.length = n) : PV C o ρ (.bool (!decide (xs = ys))) := fun w => by
  have h : (Op.equalIn 10000 t (.agg (xs.map (Value.int k)).toArray) (.agg (ys.map (Value.int k)).toArray)).run C.P w = _ := run_eq_struct (P := C.P) 9998 w (t := t) (k := k) hl hl'
  simp only [execOp, ho, hx, hy, Sem.run_bind, run_guard_agg, Result.andThen_ok, binOp, Op.equal, Op.maxDepth, h, Sem.run_pure]
end

/-! Rows as one value. -/
theorem ld_agg {H : Heap} {b off n : Nat} {cs : List Value} {v : Value} (hv : v = .agg cs.toArray) (hr : Row H b off cs) (hl : cs.length = n) : Ld H b off true n v := ⟨cs, hv, hl, hr⟩
theorem ld_blk_a {H : Heap} {b n : Nat} {cs : List Value} {t : TypeId} {v : Value} (h : Blk H b cs t) (hv : v = .agg cs.toArray) (hl : cs.length = n) : Ld H b 0 true n v := ⟨cs, hv, hl, h.row⟩
theorem Row.take {H : Heap} {b off : Nat} {xs : List Value} (h : Row H b off xs) (k n : Nat) : Row H b (off + k) ((xs.drop k).take n) := fun j v hj => by
  rw [List.getElem?_take] at hj
  split at hj
  · rw [Nat.add_assoc]; exact h (k + j) v (by simpa using hj)
  · cases hj
theorem Blk.part {H : Heap} {b : Nat} {cs : List Value} {t : TypeId} (h : Blk H b cs t) (k n : Nat) : Row H b k ((cs.drop k).take n) := by
  have := h.row.take k n; simpa using this
theorem ld_part {H : Heap} {b off k n : Nat} {xs cs : List Value} {v : Value} (hr : Row H b off xs) (hc : (xs.drop k).take n = cs) (hv : v = .agg cs.toArray) (hl : cs.length = n) : Ld H b (off + k) true n v := ⟨cs, hv, hl, hc ▸ hr.take k n⟩

/-! Results that lie in cells. -/
section
variable {P : Program} {fn : Func} {ρ : Env} {H : Heap}
def rget (T : Array Value) : ResultVar → Sem Value
  | .tmp t => pure (T.getD t undef)
  | .cell p t => do loadVar t (← asAddr (T.getD p undef))
theorem results_rget (fn : Func) (T : Array Value) : results fn T = (do
    let vs ← fn.results.mapM (rget T)
    pure (if h : vs.size = 1 then vs[0] else .tuple vs)) := by
  have : (fun r : ResultVar => (match r with | .tmp t => pure (T.getD t undef) | .cell a t => do loadVar t (← asAddr (T.getD a undef)) : Sem Value)) = rget T := by
    funext r; cases r <;> rfl
  rw [← this]; rfl
def RV (P : Program) (ρ : Env) (H : Heap) (r : ResultVar) (v : Value) : Prop :=
  ∀ N O a w, Rel N ρ a → Sees O H w → (rget a.tmps r).run P w = .ok v w
theorem rv_t {t : Nat} {v : Value} (hv : ρ t = v) : RV P ρ H (.tmp t) v := fun _ _ a w hr _ => by
  show (pure (a.tmps.getD t undef) : Sem Value).run P w = _
  rw [hr.2.2 t, hv]; rfl
theorem rv_c {t : Nat} {ty : TypeId} {b off size bytes : Nat} {agg : Bool} {zero v : Value} [Inf P ty agg size bytes zero] (hv : ρ t = .pointer (some ⟨b, off, none⟩)) (hl : Ld H b off agg size v) : RV P ρ H (.cell t ty) v := fun _ _ a w hr hs => by
  show (do loadVar ty (← asAddr (a.tmps.getD t undef)) : Sem Value).run P w = _
  rw [hr.2.2 t, hv]
  simp only [asAddr, Sem.run_bind, Sem.run_pure, Result.andThen_ok]
  exact run_loadVar hs hl
theorem resv1 {r : ResultVar} {v : Value} (h : fn.results = #[r]) (h1 : RV P ρ H r v) : FnRes P fn ρ H v := fun N O a w hr hs => by
  have := h1 N O a w hr hs
  simp only [results_rget, h, Sem.run_bind]
  simp [-Array.getD_eq_getD_getElem?, this]
theorem resv2 {r s : ResultVar} {v x : Value} (h : fn.results = #[r, s]) (h1 : RV P ρ H r v) (h2 : RV P ρ H s x) : FnRes P fn ρ H (.tuple #[v, x]) := fun N O a w hr hs => by
  have e1 := h1 N O a w hr hs
  have e2 := h2 N O a w hr hs
  simp only [results_rget, h, Sem.run_bind]
  simp [-Array.getD_eq_getD_getElem?, e1, e2]
theorem resv3 {r s q : ResultVar} {v x y : Value} (h : fn.results = #[r, s, q]) (h1 : RV P ρ H r v) (h2 : RV P ρ H s x) (h3 : RV P ρ H q y) : FnRes P fn ρ H (.tuple #[v, x, y]) := fun N O a w hr hs => by
  have e1 := h1 N O a w hr hs
  have e2 := h2 N O a w hr hs
  have e3 := h3 N O a w hr hs
  simp only [results_rget, h, Sem.run_bind]
  simp [-Array.getD_eq_getD_getElem?, e1, e2, e3]
end
end Go.XG
