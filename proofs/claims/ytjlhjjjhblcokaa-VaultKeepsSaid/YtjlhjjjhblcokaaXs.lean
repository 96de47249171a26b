/-
  XG, part s: structs of numbers, of arrays and of structs of numbers, compared.
-/
import Derived.Test.YtjlhjjjhblcokaaXf
namespace Go.XG
class EqL (P : Program) (t : TypeId) (k : outParam IntKind) (n lv : outParam Nat) : Prop where
  h : ∀ (d : Nat) (w : World) (xs ys : List Int), xs.length = n → ys.length = n → (Op.equalIn (d + lv) t (.agg (xs.map (Value.int k)).toArray) (.agg (ys.map (Value.int k)).toArray)).run P w = .ok (decide (xs = ys)) w
section
variable {P : Program}
theorem eqArr {t e n b : Nat} {k : IntKind} {z : Value} [hu : Und P t (.array n e)] [he : Und P e (.int k)] [hI : Inf P e false 1 b z] : EqL P t k n 2 := ⟨fun d w _ _ hx hy => run_eq_ints d w hx hy⟩
inductive FieldsG (P : Program) (k : IntKind) (n lv : Nat) : Nat → List Field → Prop
  | nil : FieldsG P k n lv n []
  | int {f : Field} {fs : List Field} {j : Nat} (hn : f.name ≠ "_") (ho : f.offset = j) (hu : P.underlying f.type = some (.int k)) (ha : ∀ w, (isAgg f.type).run P w = .ok false w) (h : FieldsG P k n lv (j + 1) fs) : FieldsG P k n lv j (f :: fs)
  | agg {f : Field} {fs : List Field} {j m lv' : Nat} (hn : f.name ≠ "_") (ho : f.offset = j) (hlv : lv' ≤ lv) (he : EqL P f.type k m lv') (hs : ∀ w, (sizeOf f.type).run P w = .ok m w) (ha : ∀ w, (isAgg f.type).run P w = .ok true w) (h : FieldsG P k n lv (j + m) fs) : FieldsG P k n lv j (f :: fs)
theorem FieldsG.le {k : IntKind} {n lv j : Nat} {fs : List Field} (h : FieldsG P k n lv j fs) : j ≤ n := by
  induction h with
  | nil => exact Nat.le_refl _
  | int _ _ _ _ _ ih => omega
  | agg _ _ _ _ _ _ _ ih => omega
theorem run_eqFields_g (d : Nat) {k : IntKind} {n lv j : Nat} {fs : List Field} {xs ys : List Int} (hlv1 : 1 ≤ lv) (hx : xs.length = n) (hy : ys.length = n) (w : World) (h : FieldsG P k n lv j fs) :
    (Op.eqFields (d + lv) (xs.map (Value.int k)).toArray (ys.map (Value.int k)).toArray fs).run P w = .ok (decide (xs.drop j = ys.drop j)) w := by
  induction h with
  | nil => simp [Op.eqFields, ← hx, List.drop_of_length_le, hy]
  | @int f fs j hn ho hu ha h ih =>
    have hj : j < n := h.le
    subst ho
    obtain ⟨lv0, rfl⟩ : ∃ m, lv = m + 1 := ⟨lv - 1, by omega⟩
    simp only [Op.eqFields, if_pos hn, Sem.run_bind, part_int' w (ha w) (show f.offset < xs.length by omega), part_int' w (ha w) (show f.offset < ys.length by omega), Result.andThen_ok, ← Nat.add_assoc, run_equalIn_int w (d + lv0) f.type k k _ _ hu, Sem.run_ite]
    simp only [← Nat.add_assoc] at ih
    rw [ih]
    rw [List.drop_eq_getElem_cons (show f.offset < xs.length by omega), List.drop_eq_getElem_cons (show f.offset < ys.length by omega)]
    simp only [List.getD_eq_getElem?_getD, List.getElem?_eq_getElem (show f.offset < xs.length by omega), List.getElem?_eq_getElem (show f.offset < ys.length by omega), Option.getD_some, List.cons.injEq]
    by_cases e : xs[f.offset] = ys[f.offset]
    · simp [e]
    · simp [e]
  | @agg f fs j m lv' hn ho hlv he hs ha h ih =>
    have hj : j + m ≤ n := h.le
    subst ho
    have hp : ∀ zs : List Int, (part f.type (zs.map (Value.int k)).toArray f.offset).run P w = .ok (.agg (((zs.drop f.offset).take m).map (Value.int k)).toArray) w := fun zs => by
      simp [part, ha, hs, List.extract_eq_take_drop, List.map_take, List.map_drop]
    have hd : d + lv = (d + (lv - lv')) + lv' := by omega
    have hq := he.h (d + (lv - lv')) w ((xs.drop f.offset).take m) ((ys.drop f.offset).take m) (by simp; omega) (by simp; omega)
    rw [← hd] at hq
    simp only [Op.eqFields, if_pos hn, Sem.run_bind, hp, Result.andThen_ok, hq, Sem.run_ite, ih]
    have key : xs.drop f.offset = ys.drop f.offset ↔ (xs.drop f.offset).take m = (ys.drop f.offset).take m ∧ xs.drop (f.offset + m) = ys.drop (f.offset + m) := by
      rw [← List.drop_drop, ← List.drop_drop]
      constructor
      · intro h; rw [h]; exact ⟨rfl, rfl⟩
      · rintro ⟨h1, h2⟩
        rw [← List.take_append_drop m (xs.drop f.offset), ← List.take_append_drop m (ys.drop f.offset), h1, h2]
    by_cases e : (xs.drop f.offset).take m = (ys.drop f.offset).take m
    · simp [key, e]
    · simp [key, e]
theorem eqS {t : TypeId} {k : IntKind} {n lv : Nat} {fs : Array Field} (h1 : P.underlying t = some (.struct fs)) (h2 : P.stoodInHeld t = false) (hlv : 1 ≤ lv) (h3 : FieldsG P k n lv 0 fs.toList) : EqL P t k n (lv + 1) := ⟨fun d w xs ys hx hy => by
  have hf : P.fieldsOf t = fs := by simp [Program.fieldsOf, h1]
  rw [← Nat.add_assoc, run_equalIn_struct w (d + lv) t _ _ (by rw [hf]; exact h1) h2, hf]
  exact run_eqFields_g d hlv hx hy w h3⟩
end
section
variable {C : Cx} {o : Oper} {ρ : Env}
theorem pv_eql_g {x y : Operand} {t u n lv : Nat} {k : IntKind} (xs ys : List Int) [he : EqL C.P t k n lv] [hg : NoGuard C.P t] (ho : o.op = .binOp .eql t x y u) (hx : ev ρ x = .agg (xs.map (Value.int k)).toArray) (hy : ev ρ y = .agg (ys.map (Value.int k)).toArray)
    (hl : xs.length = n) (hl' : ys.length = n) (hlv : lv ≤ 10000 := by decide) : PV C o ρ (.bool (decide (xs = ys))) := fun w => by
  have h := he.h (10000 - lv) w xs ys hl hl'
  rw [show 10000 - lv + lv = 10000 by omega] at h
  simp only [execOp, ho, hx, hy, Sem.run_bind, run_guard_agg, Result.andThen_ok, binOp, Op.equal, Op.maxDepth, h, Sem.run_pure]
theorem pv_neq_g {x y : Operand} {t u n lv : Nat} {k : IntKind} (xs ys : List Int) [he : EqL C.P t k n lv] [hg : NoGuard C.P t] (ho : o.op = .binOp .neq t x y u) (hx : ev ρ x = .agg (xs.map (Value.int k)).toArray) (hy : ev ρ y = .agg (ys.map (Value.int k)).toArray)
    (hl : xs.length = n) (hl' : ys.length = n) (hlv : lv ≤ 10000 := by decide) : PV C o ρ (.bool (!decide (xs = ys))) := fun w => by
  have h := he.h (10000 - lv) w xs ys hl hl'
  rw [show 10000 - lv + lv = 10000 by omega] at h
  simp only [execOp, ho, hx, hy, Sem.run_bind, run_guard_agg, Result.andThen_ok, binOp, Op.equal, Op.maxDepth, h, Sem.run_pure]
end
section
class UndF (P : Program) (t : TypeId) : Prop where
  h : ∃ a b c, P.underlying t = some (.func a b c)
theorem run_equalIn_fn {P : Program} (d : Nat) {t : TypeId} (w : World) (f : Fn) (a b : Array Value) [hu : UndF P t] : (Op.equalIn (d + 1) t (.func f a b) .nilFunc).run P w = .ok false w := by
  obtain ⟨p, q, r, hu⟩ := hu.h
  simp [Op.equalIn, run_underlying hu]
variable {C : Cx} {o : Oper} {ρ : Env}
theorem pv_eql_fn {x y : Operand} {t u : TypeId} {f : Fn} {a b : Array Value} [hu : UndF C.P t] (ho : o.op = .binOp .eql t x y u) (hx : ev ρ x = .func f a b) (hy : ev ρ y = .nilFunc) : PV C o ρ (.bool false) := fun w => by
  have h : (Op.equal t (.func f a b) .nilFunc).run C.P w = .ok false w := run_equalIn_fn 9999 w f a b
  simp [execOp, ho, hx, hy, eqGuard, binOp, h]
end
end Go.XG
