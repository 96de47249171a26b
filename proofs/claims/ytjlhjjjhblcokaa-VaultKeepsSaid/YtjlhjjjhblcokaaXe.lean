/-
  XG, part e: composite literals; bits; nil.
-/
import Derived.Test.YtjlhjjjhblcokaaXd
import Derived.Laws.StructEq
namespace Go.XG

theorem foldl_set : ∀ (vs : List Value) (j off : Nat) (cs : List Value),
    (vs.zipIdx j).foldl (fun (a : Array Value) (p : Value × Nat) => a.setIfInBounds (off + p.2) p.1) cs.toArray = (setRange cs (off + j) vs).toArray
  | [], _, _, _ => rfl
  | v :: vs, j, off, cs => by
    simp only [List.zipIdx_cons, List.foldl_cons, setRange, List.setIfInBounds_toArray]
    rw [foldl_set vs (j + 1) off (cs.set (off + j) v)]
    rfl
theorem fold_cells (v : Value) (off : Nat) (cs : List Value) :
    v.cells.zipIdx.foldl (fun (a : Array Value) (p : Value × Nat) => a.setIfInBounds (off + p.2) p.1) cs.toArray = (setRange cs off (vcells v)).toArray := by
  rw [vcells_eq]
  have := foldl_set (vcells v) 0 off cs
  simpa using this
/-- The cells of a composite literal: each part in its place. -/
def fillL (place : Nat → Option (Nat × Nat)) (cs : List Value) : List (Nat × Value) → Option (List Value)
  | [] => some cs
  | (i, v) :: rest =>
    match place i with
    | none => none
    | some (off, size) => if (vcells v).length = size ∧ off + size ≤ cs.length then fillL place (setRange cs off (vcells v)) rest else none
theorem fill_fillL (place : Nat → Option (Nat × Nat)) : ∀ (ps : List (Nat × Value)) (cs r : List Value), fillL place cs ps = some r → Instr.fill place cs.toArray ps = some r.toArray
  | [], cs, r, h => by simp [fillL] at h; subst h; rfl
  | (i, v) :: ps, cs, r, h => by
    simp only [fillL] at h
    simp only [Instr.fill]
    cases hp : place i with
    | none => rw [hp] at h; cases h
    | some q =>
      obtain ⟨off, size⟩ := q
      rw [hp] at h
      simp only at h ⊢
      split at h
      · rename_i hc
        rw [vcells_eq] at *
        simp only [List.size_toArray]
        rw [if_neg (by
          simp only [Bool.or_eq_true, decide_eq_true_eq, not_or]
          exact ⟨by simpa using hc.1, by omega⟩)]
        have := fold_cells v off cs
        rw [vcells_eq] at this
        rw [this]
        exact fill_fillL place ps _ r h
      · cases h
theorem setRange_mid : ∀ (vs done rest : List Value), vs.length ≤ rest.length → setRange (done ++ rest) done.length vs = done ++ vs ++ rest.drop vs.length
  | [], done, rest, _ => by simp [setRange]
  | v :: vs, done, [], h => by simp at h
  | v :: vs, done, r :: rest, h => by
    have hset : (done ++ r :: rest).set done.length v = (done ++ [v]) ++ rest := by simp
    simp only [setRange, hset]
    have := setRange_mid vs (done ++ [v]) rest (by simpa using h)
    rw [show (done ++ [v]).length = done.length + 1 by simp] at this
    rw [this]
    simp
/-- Parts in their order, each once: their cells, one behind the other. -/
def partsL (size : Nat) : Nat → List (Nat × Value) → Option (List Value)
  | _, [] => some []
  | k, (i, v) :: ps => if i = k ∧ (vcells v).length = size then (partsL size (k + 1) ps).map (vcells v ++ ·) else none
theorem fillL_parts (size : Nat) : ∀ (ps : List (Nat × Value)) (k : Nat) (done rest r : List Value), partsL size k ps = some r → done.length = k * size → rest.length = ps.length * size →
    fillL (fun i => some (i * size, size)) (done ++ rest) ps = some (done ++ r)
  | [], k, done, rest, r, h, _, h2 => by
    simp [partsL] at h
    subst h
    have : rest = [] := List.eq_nil_of_length_eq_zero (by simpa using h2)
    subst this
    rfl
  | (i, v) :: ps, k, done, rest, r, h, h1, h2 => by
    simp only [partsL] at h
    split at h
    · rename_i hc
      obtain ⟨rfl, hv⟩ := hc
      cases hp : partsL size (i + 1) ps with
      | none => rw [hp] at h; cases h
      | some r' =>
        rw [hp] at h
        simp at h
        subst h
        have hl : (vcells v).length ≤ rest.length := by
          rw [hv, h2, List.length_cons, Nat.add_mul]; omega
        simp only [fillL]
        rw [if_pos ⟨hv, by simp; rw [h1, h2, List.length_cons, Nat.add_mul]; omega⟩]
        rw [← h1, setRange_mid _ _ _ hl]
        have := fillL_parts size ps (i + 1) (done ++ vcells v) (rest.drop (vcells v).length) r' hp (by simp [h1, hv, Nat.add_mul]) (by rw [List.length_drop, h2, hv, List.length_cons, Nat.add_mul]; omega)
        rw [this]
        simp
    · cases h

class Places (P : Program) (t : TypeId) (pl : outParam (List (Nat × Nat))) : Prop where
  h : ∃ fs, P.underlying t = some (.struct fs) ∧ ∀ w, (fs.mapM fun (f : Field) => do pure (f.offset, ← sizeOf f.type) : Sem (Array (Nat × Nat))).run P w = .ok pl.toArray w

section
variable {C : Cx} {o : Oper} {ρ : Env} {H : Heap}
theorem pv_build_s {t : TypeId} {ps : Array (Nat × Operand)} {qs : List (Nat × Value)} {pl : List (Nat × Nat)} {size bytes : Nat} {zs cs : List Value} [hP : Places C.P t pl] [Inf C.P t true size bytes (.agg zs.toArray)] (ho : o.op = .build t ps)
    (hq : ps.toList.map (fun p => (p.1, ev ρ p.2)) = qs) (hc : fillL (pl[·]?) zs qs = some cs) : PV C o ρ (.agg cs.toArray) := fun w => by
  obtain ⟨fs, h1, h2⟩ := hP.h
  have h3 := fill_fillL _ _ _ _ hc
  have hq' : (ps.map fun (p : Nat × Operand) => (p.1, ev ρ p.2)).toList = qs := by rw [← hq]; simp
  simp only [execOp, ho, Instr.build, Sem.run_bind, Inf.zrun, Result.andThen_ok, underlying, run_program, h1, Sem.run_pure, h2, hq', Value.cells]
  have h4 : (fun (x : Nat) => (pl.toArray)[x]?) = (fun (x : Nat) => pl[x]?) := by funext x; simp
  rw [h4, h3]
  rfl
theorem pv_build_a {t e n : TypeId} {ps : Array (Nat × Operand)} {qs : List (Nat × Value)} {agg : Bool} {size bytes size' bytes' : Nat} {zero : Value} {zs cs : List Value} [Und C.P t (.array n e)] [Inf C.P e agg size' bytes' zero] [Inf C.P t true size bytes (.agg zs.toArray)] (ho : o.op = .build t ps)
    (hq : ps.toList.map (fun p => (p.1, ev ρ p.2)) = qs) (hc : fillL (fun i => some (i * size', size')) zs qs = some cs) : PV C o ρ (.agg cs.toArray) := fun w => by
  have h3 := fill_fillL _ _ _ _ hc
  have hq' : (ps.map fun (p : Nat × Operand) => (p.1, ev ρ p.2)).toList = qs := by rw [← hq]; simp
  simp only [execOp, ho, Instr.build, Sem.run_bind, Inf.zrun, Result.andThen_ok, Und.run, Inf.run, Sem.run_pure, hq', Value.cells, h3]
theorem hv_buildSlice {t e : TypeId} {n : Nat} {ps : Array (Nat × Operand)} {qs : List (Nat × Value)} {agg : Bool} {size bytes : Nat} {zero : Value} {cs : List Value} [Und C.P t (.slice e)] [Inf C.P e agg size bytes zero] (ho : o.op = .buildSlice t n ps)
    (hq : ps.toList.map (fun p => (p.1, ev ρ p.2)) = qs) (hc : partsL size 0 qs = some cs) (hn : Nat.beq qs.length n = true) (hs : Nat.ble (n * size) 16777216 = true) :
    HV C o ρ H (fun v H' => ∃ b, v = .slice (some ⟨b, 0, none⟩) n n ∧ New H H' b cs e) := fun w hS => .inl (by
  have hn' := Nat.eq_of_beq_eq_true hn
  have hs' := Nat.le_of_ble_eq_true hs
  have hq' : (ps.map fun (p : Nat × Operand) => (p.1, ev ρ p.2)).toList = qs := by rw [← hq]; simp
  have key : ∀ Z : Array Value, Z.size = n * size → Instr.fill (fun i => some (i * size, size)) Z qs = some cs.toArray := fun Z hZ => by
    have h := fillL_parts size qs 0 [] Z.toList cs hc (by simp) (by simp [hZ, hn'])
    have := fill_fillL _ _ _ _ h
    simpa using this
  refine ⟨.slice (some ⟨H.size, 0, none⟩) n n, _, ?_, _, sees_push hS (.cells cs.toArray e), H.size, rfl, new_push H cs e⟩
  simp only [execOp, ho, Instr.buildSlice, Sem.run_bind, Und.run, Result.andThen_ok, Inf.run]
  rw [if_neg (by simp; omega)]
  by_cases h0 : n * size = 0
  · simp only [h0, if_true, pure_bind, Sem.run_pure, hq']
    rw [key _ (by simp [h0])]
    simp only [newRow, Sem.run_bind, run_newObj, Result.andThen_ok, Sem.run_pure, hS.1]
  · simp only [h0, if_false, Sem.run_bind, Inf.zrun, Sem.run_pure, Result.andThen_ok, hq']
    rw [key _ (by simp)]
    simp only [newRow, Sem.run_bind, run_newObj, Result.andThen_ok, Sem.run_pure, hS.1])
theorem iv {k : IntKind} {a b : Int} (h : a = b) : Value.int k a = .int k b := by rw [h]
theorem sv {a b : List UInt8} (h : a = b) : Value.string (bs a) = .string (bs b) := by rw [h]
theorem Upd.same {H : Heap} {b : Nat} {cs : List Value} {t : TypeId} (h : Blk H b cs t) : Upd H H b cs t := ⟨But.refl _ _, h⟩
theorem Upd.trans' {H H1 H2 : Heap} {b : Nat} {cs cs' : List Value} {t t' : TypeId} (h : Upd H H1 b cs t) (k : Upd H1 H2 b cs' t') : Upd H H2 b cs' t' := ⟨h.but.trans k.but, k.blk⟩
/-! nil -/
theorem pointee_eq {P : Program} {t e : TypeId} (h : P.underlying t = some (.pointer e)) : P.underlying t = some (.pointer (P.pointee t)) := by
  simp [Program.pointee, h]
theorem pv_eql_pn {x y : Operand} {t u e : TypeId} {a : Addr} [hu : Und C.P t (.pointer e)] (ho : o.op = .binOp .eql t x y u) (hx : ev ρ x = .pointer (some a)) (hy : ev ρ y = .pointer none) : PV C o ρ (.bool false) := fun w => by
  have := run_eql_pointer_nil (P := C.P) w t (some a) (pointee_eq hu.h)
  simp [execOp, ho, hx, hy, eqGuard, this]
theorem pv_eql_nn {x y : Operand} {t u e : TypeId} [hu : Und C.P t (.pointer e)] (ho : o.op = .binOp .eql t x y u) (hx : ev ρ x = .pointer none) (hy : ev ρ y = .pointer none) : PV C o ρ (.bool true) := fun w => by
  have := run_eql_pointer_nil (P := C.P) w t none (pointee_eq hu.h)
  simp [execOp, ho, hx, hy, eqGuard, this]
theorem pv_neq_pn {x y : Operand} {t u e : TypeId} {a : Addr} [hu : Und C.P t (.pointer e)] (ho : o.op = .binOp .neq t x y u) (hx : ev ρ x = .pointer (some a)) (hy : ev ρ y = .pointer none) : PV C o ρ (.bool true) := fun w => by
  have := run_neq_pointer_nil (P := C.P) w t (some a) (pointee_eq hu.h)
  simp [execOp, ho, hx, hy, eqGuard, this]
theorem pv_neq_nn {x y : Operand} {t u e : TypeId} [hu : Und C.P t (.pointer e)] (ho : o.op = .binOp .neq t x y u) (hx : ev ρ x = .pointer none) (hy : ev ρ y = .pointer none) : PV C o ρ (.bool false) := fun w => by
  have := run_neq_pointer_nil (P := C.P) w t none (pointee_eq hu.h)
  simp [execOp, ho, hx, hy, eqGuard, this]
theorem pv_neq_same {x y : Operand} {t u : TypeId} {a : Bool} [hu : Und C.P t .bool] (ho : o.op = .binOp .neq t x y u) (hx : ev ρ x = .bool a) (hy : ev ρ y = .bool a) : PV C o ρ (.bool false) := by
  have := pv_neq_b (C := C) ho hx hy
  simpa using this
theorem pv_eql_same {x y : Operand} {t u : TypeId} {a : Bool} [hu : Und C.P t .bool] (ho : o.op = .binOp .eql t x y u) (hx : ev ρ x = .bool a) (hy : ev ρ y = .bool a) : PV C o ρ (.bool true) := by
  have := pv_eql_b (C := C) ho hx hy
  simpa using this
theorem pv_min {x y : Operand} {ts : Array TypeId} {k : IntKind} {m n : Int} (ho : o.op = .call { callee := .builtin .min, args := #[x, y], argTypes := ts }) (hx : ev ρ x = .int k m) (hy : ev ρ y = .int k n) : PV C o ρ (.int k (min m n)) := fun w => by
  simp [execOp, ho, hx, hy, resolve, invoke, builtin, Builtin.min_, Builtin.min2]
  split <;> omega
theorem pv_max {x y : Operand} {ts : Array TypeId} {k : IntKind} {m n : Int} (ho : o.op = .call { callee := .builtin .max, args := #[x, y], argTypes := ts }) (hx : ev ρ x = .int k m) (hy : ev ρ y = .int k n) : PV C o ρ (.int k (max m n)) := fun w => by
  simp [execOp, ho, hx, hy, resolve, invoke, builtin, Builtin.max_, Builtin.max2]
  split <;> omega
end
/-! Arrays of numbers, compared. -/
section
variable {P : Program}
theorem run_all (w : World) (N : Nat) (f : Nat → Option Bool × PUnit → Sem (ForInStep (Option Bool × PUnit))) (eq : Nat → Bool)
    (hf : ∀ i r, i < N → (f i r).run P w = .ok (if eq i = true then .yield (none, ()) else .done (some false, ())) w) :
    ∀ m s, s + m ≤ N → (forIn (List.range' s m) ((none : Option Bool), PUnit.unit) f).run P w = .ok (if (List.range' s m).all eq = true then (none, ()) else (some false, ())) w
  | 0, s, _ => by simp
  | m + 1, s, hm => by
    rw [List.range'_succ, List.forIn_cons, Sem.run_bind, hf s _ (by omega)]
    simp only [Result.andThen_ok, List.all_cons]
    by_cases h : eq s = true
    · rw [if_pos h]
      simp only [h, Bool.true_and]
      exact run_all w N f eq hf m (s + 1) (by omega)
    · rw [if_neg h]
      simp only [Bool.eq_false_iff.2 h, Bool.false_and, Bool.false_eq_true, if_false]
      rfl
theorem part_int {e : TypeId} {k : IntKind} {b z} {xs : List Int} {i : Nat} (w : World) [hI : Inf P e false 1 b z] (h : i < xs.length) : (part e (xs.map (Value.int k)).toArray i).run P w = .ok (.int k (xs.getD i 0)) w := by
  simp [part, hI.a, h]
theorem all_eq {xs ys : List Int} (h : xs.length = ys.length) : (List.range' 0 xs.length).all (fun i => xs.getD i 0 == ys.getD i 0) = decide (xs = ys) := by
  rw [Bool.eq_iff_iff]
  simp only [List.all_eq_true, List.mem_range'_1, beq_iff_eq, decide_eq_true_eq]
  constructor
  · intro hh
    apply List.ext_getElem h
    intro i h1 h2
    have := hh i ⟨by omega, by omega⟩
    simpa [h1, h2] using this
  · rintro rfl i _; rfl
theorem run_eq_ints (d : Nat) {t e n : TypeId} {k : IntKind} {b : Nat} {z : Value} {xs ys : List Int} (w : World) [hu : Und P t (.array n e)] [he : Und P e (.int k)] [hI : Inf P e false 1 b z] (hx : xs.length = n) (hy : ys.length = n) :
    (Op.equalIn (d + 2) t (.agg (xs.map (Value.int k)).toArray) (.agg (ys.map (Value.int k)).toArray)).run P w = .ok (decide (xs = ys)) w := by
  subst hx
  rw [Op.equalIn]
  simp only [Sem.run_bind, Und.run, Result.andThen_ok, Inf.run, Std.Legacy.Range.forIn_eq_forIn_range', Nat.mul_one, Std.Legacy.Range.size, Nat.sub_zero, Nat.add_one_sub_one, Nat.div_one]
  rw [run_all w xs.length _ (fun i => xs.getD i 0 == ys.getD i 0) (fun i r hi => by
    simp only [Sem.run_bind, part_int w (show i < xs.length by omega), part_int w (show i < ys.length by omega), Result.andThen_ok, run_equalIn_int w d e k k _ _ he.h, Sem.run_ite, Sem.run_pure]
    cases (xs.getD i 0 == ys.getD i 0) <;> rfl) xs.length 0 (by omega)]
  rw [all_eq hy.symm]
  by_cases h : xs = ys
  · rw [decide_eq_true h]; rfl
  · rw [decide_eq_false h]; rfl
end
class NoGuard (P : Program) (t : TypeId) : Prop where
  h : P.eqGuardType P.depth t = false
section
variable {C : Cx} {o : Oper} {ρ : Env}
theorem run_guard_agg {P : Program} {t : TypeId} [hg : NoGuard P t] (op : BinOp) (x y : Operand) (a b : Array Value) (w : World) : (eqGuard op t x y (.agg a) (.agg b)).run P w = .ok () w := by
  cases op <;> simp [eqGuard, hg.h]
theorem pv_eql_ai {x y : Operand} {t u e n b : Nat} {k : IntKind} {z : Value} (xs ys : List Int) [Und C.P t (.array n e)] [Und C.P e (.int k)] [Inf C.P e false 1 b z] [hg : NoGuard C.P t] (ho : o.op = .binOp .eql t x y u) (hx : ev ρ x = .agg (xs.map (Value.int k)).toArray) (hy : ev ρ y = .agg (ys.map (Value.int k)).toArray)
    (hl : xs.length = n) (hl' : ys.length = n) : PV C o ρ (.bool (decide (xs = ys))) := fun w => by
  have h : (Op.equalIn 10000 t (.agg (xs.map (Value.int k)).toArray) (.agg (ys.map (Value.int k)).toArray)).run C.P w = _ := run_eq_ints (P := C.P) 9998 w (t := t) (e := e) (k := k) hl hl'
  simp only [execOp, ho, hx, hy, Sem.run_bind, run_guard_agg, Result.andThen_ok, binOp, Op.equal, Op.maxDepth, h, Sem.run_pure]
theorem pv_neq_ai {x y : Operand} {t u e n b : Nat} {k : IntKind} {z : Value} (xs ys : List Int) [Und C.P t (.array n e)] [Und C.P e (.int k)] [Inf C.P e false 1 b z] [hg : NoGuard C.P t] (ho : o.op = .binOp .neq t x y u) (hx : ev ρ x = .agg (xs.map (Value.int k)).toArray) (hy : ev ρ y = .agg (ys.map (Value.int k)).toArray)
    (hl : xs.length = n) (hl' : ys.length = n) : PV C o ρ (.bool (!decide (xs = ys))) := fun w => by
  have h : (Op.equalIn 10000 t (.agg (xs.map (Value.int k)).toArray) (.agg (ys.map (Value.int k)).toArray)).run C.P w = _ := run_eq_ints (P := C.P) 9998 w (t := t) (e := e) (k := k) hl hl'
  simp only [execOp, ho, hx, hy, Sem.run_bind, run_guard_agg, Result.andThen_ok, binOp, Op.equal, Op.maxDepth, h, Sem.run_pure]
end
/-! A slice of one's own. -/
section
variable {H H' H0 : Heap} {base n size : Nat} {e : TypeId} {v : Value} {xs : List Value}
theorem Own.nil (H : Heap) (base e size : Nat) : Own H base e size (.slice none 0 0) 0 [] := ⟨by simp, .inl ⟨rfl, rfl⟩⟩
theorem Own.ext (h : Own H base e size v n xs) (k : Ext H H') : Own H' base e size v n xs := by
  refine ⟨h.1, ?_⟩
  rcases h.2 with h2 | ⟨g, cap, cur, h1, h2, h3, h4⟩
  · exact .inl h2
  · exact .inr ⟨g, cap, cur, h1, h2, (k.same g (lt_of_get h3)).trans h3, h4⟩
theorem Own.but {b : Nat} (h : Own H base e size v n xs) (k : But b H H') (hb : b < base) : Own H' base e size v n xs := by
  refine ⟨h.1, ?_⟩
  rcases h.2 with h2 | ⟨g, cap, cur, h1, h2, h3, h4⟩
  · exact .inl h2
  · exact .inr ⟨g, cap, cur, h1, h2, (k.same g (lt_of_get h3) (by omega)).trans h3, h4⟩
theorem Own.len (h : Own H base e size v n xs) : xs.length = n * size := h.1
/-- Behind an append nothing below has turned. -/
theorem Own.grown (h : Own H base e size v n xs) (hE : Ext H0 H) (hg : Gr v.ownBlock H H') (hb : H0.size ≤ base) : Ext H0 H' := by
  refine ⟨Nat.le_trans hE.size hg.size, fun i hi => ?_⟩
  refine (hg.same i (Nat.lt_of_lt_of_le hi hE.size) ?_).trans (hE.same i hi)
  rcases h.2 with ⟨h2, _⟩ | ⟨g, cap, cur, h1, h2, _⟩
  · rw [h2]; simp [Value.ownBlock]
  · rw [h1]; simp [Value.ownBlock]; omega
theorem Own.form (h : Own H base e size v n xs) (hn : 0 < n) : ∃ g c, v = .slice (some ⟨g, 0, none⟩) n c ∧ Row H g 0 xs ∧ base ≤ g ∧ g < H.size ∧ n ≤ c := by
  rcases h.2 with ⟨_, h2⟩ | ⟨g, cap, cur, h1, h2, h3, h4, _, h5, h6⟩
  · omega
  · refine ⟨g, cap, h1, fun j u hj => ?_, h2, lt_of_get h3, h4⟩
    unfold cellAt
    rw [h3]
    have hl : j < xs.length := (List.getElem?_eq_some_iff.1 hj).1
    rw [← h6] at hj hl
    simp only [Nat.zero_add]
    rw [List.getElem?_take_of_lt (by rw [List.length_take] at hl; omega)] at hj
    simpa using hj
/-- The value of a slice of one's own. -/
theorem Own.val (h : Own H base e size v n xs) : ∃ a c, v = .slice a n c := by
  rcases h.2 with ⟨h1, h2⟩ | ⟨g, cap, cur, h1, _⟩
  · subst h2; exact ⟨_, _, h1⟩
  · exact ⟨_, _, h1⟩
end
/-! Bits. -/
theorem ofInt_toNat (k : Nat) (a : Int) (h0 : 0 ≤ a) (h : a < 2 ^ k) : (BitVec.ofInt k a).toNat = a.toNat := by
  rw [BitVec.toNat_ofInt]
  have : a % ((2 ^ k : Nat) : Int) = a := Int.emod_eq_of_lt h0 (by exact_mod_cast h)
  rw [this]
theorem and_u64 (a b : Int) (h0 : 0 ≤ a) (h : a < 18446744073709551616) (h0' : 0 ≤ b) (h' : b < 18446744073709551616) : bits2 .and .u64 a b = ((a.toNat &&& b.toNat : Nat) : Int) := by
  have hx : a.toNat &&& b.toNat < 2 ^ 64 := Nat.and_lt_two_pow _ (by omega)
  show IntKind.u64.wrap ((BitVec.ofInt 64 a &&& BitVec.ofInt 64 b).toNat : Int) = _
  rw [BitVec.toNat_and, ofInt_toNat 64 a h0 (by omega), ofInt_toNat 64 b h0' (by omega)]
  exact fit_u64 (by omega)
theorem or_u64 (a b : Int) (h0 : 0 ≤ a) (h : a < 18446744073709551616) (h0' : 0 ≤ b) (h' : b < 18446744073709551616) : bits2 .or .u64 a b = ((a.toNat ||| b.toNat : Nat) : Int) := by
  have hx : a.toNat ||| b.toNat < 2 ^ 64 := Nat.or_lt_two_pow (by omega) (by omega)
  show IntKind.u64.wrap ((BitVec.ofInt 64 a ||| BitVec.ofInt 64 b).toNat : Int) = _
  rw [BitVec.toNat_or, ofInt_toNat 64 a h0 (by omega), ofInt_toNat 64 b h0' (by omega)]
  exact fit_u64 (by omega)
theorem and_u8 (a b : Int) (h0 : 0 ≤ a) (h : a < 256) (h0' : 0 ≤ b) (h' : b < 256) : bits2 .and .u8 a b = ((a.toNat &&& b.toNat : Nat) : Int) := by
  have hx : a.toNat &&& b.toNat < 2 ^ 8 := Nat.and_lt_two_pow _ (by omega)
  show IntKind.u8.wrap ((BitVec.ofInt 8 a &&& BitVec.ofInt 8 b).toNat : Int) = _
  rw [BitVec.toNat_and, ofInt_toNat 8 a h0 (by omega), ofInt_toNat 8 b h0' (by omega)]
  exact fit_u8 (by omega)
theorem or_u8 (a b : Int) (h0 : 0 ≤ a) (h : a < 256) (h0' : 0 ≤ b) (h' : b < 256) : bits2 .or .u8 a b = ((a.toNat ||| b.toNat : Nat) : Int) := by
  have hx : a.toNat ||| b.toNat < 2 ^ 8 := Nat.or_lt_two_pow (by omega) (by omega)
  show IntKind.u8.wrap ((BitVec.ofInt 8 a ||| BitVec.ofInt 8 b).toNat : Int) = _
  rw [BitVec.toNat_or, ofInt_toNat 8 a h0 (by omega), ofInt_toNat 8 b h0' (by omega)]
  exact fit_u8 (by omega)
/-- A mask of k ones. -/
theorem mask_u64 (k : Nat) (a b : Int) (h0 : 0 ≤ a) (h : a < 18446744073709551616) (hk : k < 64) (hb : b = 2 ^ k - 1) : bits2 .and .u64 a b = a % 2 ^ k := by
  have hp : (0 : Int) < 2 ^ k := Int.pow_pos (by omega)
  have hle : (2 : Int) ^ k ≤ 2 ^ 63 := by
    have := Nat.pow_le_pow_right (n := 2) (by omega) (show k ≤ 63 by omega)
    exact_mod_cast this
  rw [and_u64 a b h0 h (by omega) (by omega)]
  have : b.toNat = 2 ^ k - 1 := by
    have h2 : ((2 ^ k : Nat) : Int) = 2 ^ k := by simp
    omega
  rw [this, Nat.and_two_pow_sub_one_eq_mod]
  have h3 : ((a.toNat % 2 ^ k : Nat) : Int) = (a.toNat : Int) % 2 ^ k := by simp
  rw [h3, Int.toNat_of_nonneg h0]
theorem mask_u8 (k : Nat) (a b : Int) (h0 : 0 ≤ a) (h : a < 256) (hk : k < 8) (hb : b = 2 ^ k - 1) : bits2 .and .u8 a b = a % 2 ^ k := by
  have hp : (0 : Int) < 2 ^ k := Int.pow_pos (by omega)
  have hle : (2 : Int) ^ k ≤ 2 ^ 7 := by
    have := Nat.pow_le_pow_right (n := 2) (by omega) (show k ≤ 7 by omega)
    exact_mod_cast this
  rw [and_u8 a b h0 h (by omega) (by omega)]
  have : b.toNat = 2 ^ k - 1 := by
    have h2 : ((2 ^ k : Nat) : Int) = 2 ^ k := by simp
    omega
  rw [this, Nat.and_two_pow_sub_one_eq_mod]
  have h3 : ((a.toNat % 2 ^ k : Nat) : Int) = (a.toNat : Int) % 2 ^ k := by simp
  rw [h3, Int.toNat_of_nonneg h0]
end Go.XG
