/-
  XG, part c: strings, slices, addresses, loads; new blocks, stores, appends, calls.
-/
import Derived.Test.YtjlhjjjhblcokaaXb
import Derived.Maps.AppendAt
namespace Go.XG

abbrev bs (l : List UInt8) : ByteArray := ⟨l.toArray⟩
theorem bs_inj {a b : List UInt8} (h : bs a = bs b) : a = b := by
  have := congrArg (fun x => x.data.toList) h
  simpa using this
theorem bs_all (s : ByteArray) : ∃ l, s = bs l := ⟨s.data.toList, by cases s; simp [bs]⟩
theorem bs_size (l : List UInt8) : (bs l).size = l.length := by simp [ByteArray.size]
theorem bs_extract (l : List UInt8) (i j : Nat) : (bs l).extract i j = bs ((l.take j).drop i) := by
  apply ByteArray.ext
  simp [bs, ByteArray.data_extract, List.extract_toArray, List.extract_eq_take_drop, List.drop_take]
theorem bs_append (a b : List UInt8) : bs a ++ bs b = bs (a ++ b) := by
  apply ByteArray.ext
  simp [bs, ByteArray.data_append]

theorem addr_add (b off n : Nat) : (⟨b, off, none⟩ : Addr).add n = ⟨b, off + n, none⟩ := by
  unfold Addr.add
  by_cases h : n = 0 <;> simp [h]

section light
variable {C : Cx} {o : Oper} {ρ : Env} {H : Heap}
theorem pv_len_s {x : Operand} {t : TypeId} {l : List UInt8} [Und C.P t .string] (ho : o.op = .call { callee := .builtin .len, args := #[x], argTypes := #[t] }) (hx : ev ρ x = .string (bs l)) : PV C o ρ (.int .i64 l.length) := fun w => by
  simp [execOp, ho, hx, resolve, invoke, builtin, Builtin.len_, Und.run, goInt]
  exact congrArg Int.ofNat (bs_size l)
theorem pv_len_l {x : Operand} {t e : TypeId} {a : Option Addr} {n c : Nat} [Und C.P t (.slice e)] (ho : o.op = .call { callee := .builtin .len, args := #[x], argTypes := #[t] }) (hx : ev ρ x = .slice a n c) : PV C o ρ (.int .i64 n) := fun w => by
  simp [execOp, ho, hx, resolve, invoke, builtin, Builtin.len_, Und.run, goInt]
theorem pv_cap_l {x : Operand} {t e : TypeId} {a : Option Addr} {n c : Nat} [Und C.P t (.slice e)] (ho : o.op = .call { callee := .builtin .cap, args := #[x], argTypes := #[t] }) (hx : ev ρ x = .slice a n c) : PV C o ρ (.int .i64 c) := fun w => by
  simp [execOp, ho, hx, resolve, invoke, builtin, Builtin.cap_, Und.run, goInt]
theorem pv_index_s {x i : Operand} {t : TypeId} {l : List UInt8} {k : IntKind} {n : Int} [Und C.P t .string] (ho : o.op = .index t x i) (hx : ev ρ x = .string (bs l)) (hi : ev ρ i = .int k n) (h : 0 ≤ n ∧ n < l.length) :
    PV C o ρ (.int .u8 (l.getD n.toNat 0).toNat) := fun w => by
  have hlt : n.toNat < l.length := by omega
  have hb : (bs l)[n.toNat]? = some (l.getD n.toNat 0) := by
    rw [getElem?_pos (bs l) n.toNat (by rw [bs_size]; exact hlt)]
    simp [bs, ByteArray.getElem_eq_getElem_data, List.getD_eq_getElem?_getD, hlt]
  simp only [execOp, ho, hx, hi, Instr.index, asIntOf, Sem.run_bind, Sem.run_pure, Result.andThen_ok, Und.run, h.1, if_true, hb]
theorem pv_index_sn {x i : Operand} {t : TypeId} {l : List UInt8} {k : IntKind} {n : Nat} [Und C.P t .string] (ho : o.op = .index t x i) (hx : ev ρ x = .string (bs l)) (hi : ev ρ i = .int k (n : Int)) (h : n < l.length) :
    PV C o ρ (.int .u8 (l.getD n 0).toNat) := by
  have := pv_index_s (C := C) ho hx hi (by omega)
  simpa using this
theorem pv_index_sv {x i : Operand} {t : TypeId} {l : List UInt8} {k : IntKind} {n : Int} {b : UInt8} [Und C.P t .string] (ho : o.op = .index t x i) (hx : ev ρ x = .string (bs l)) (hi : ev ρ i = .int k n) (h : 0 ≤ n ∧ n < l.length) (hb : l.getD n.toNat 0 = b) :
    PV C o ρ (.int .u8 b.toNat) := by
  subst hb; exact pv_index_s ho hx hi h
theorem pv_indexAddr_l {x i : Operand} {t e : TypeId} {agg : Bool} {size bytes : Nat} {zero : Value} {b off n c : Nat} {k : IntKind} {m : Int} [Und C.P t (.slice e)] [Inf C.P e agg size bytes zero] (ho : o.op = .indexAddr t x i)
    (hx : ev ρ x = .slice (some ⟨b, off, none⟩) n c) (hi : ev ρ i = .int k m) (h : 0 ≤ m ∧ m < n) : PV C o ρ (.pointer (some ⟨b, off + m.toNat * size, none⟩)) := fun w => by
  simp [execOp, ho, hx, hi, Instr.indexAt, asIntOf, Und.run, Inf.run, h, addr_add]
theorem pv_indexAddr_a {x i : Operand} {t e : TypeId} {agg : Bool} {size bytes : Nat} {zero : Value} {b off n : Nat} {k : IntKind} {m : Int} [Und C.P t (.array n e)] [Inf C.P e agg size bytes zero] (ho : o.op = .indexAddr t x i)
    (hx : ev ρ x = .pointer (some ⟨b, off, none⟩)) (hi : ev ρ i = .int k m) (h : 0 ≤ m ∧ m < n) : PV C o ρ (.pointer (some ⟨b, off + m.toNat * size, none⟩)) := fun w => by
  simp [execOp, ho, hx, hi, Instr.indexAt, Instr.sureAddr, asIntOf, Und.run, Inf.run, h, addr_add]
theorem pv_index_a {x i : Operand} {t e : TypeId} {size bytes : Nat} {zero : Value} {n : Nat} {k : IntKind} {m : Int} {cs : List Value} {v : Value} [Und C.P t (.array n e)] [hI : Inf C.P e false size bytes zero] (ho : o.op = .index t x i)
    (hx : ev ρ x = .agg cs.toArray) (hi : ev ρ i = .int k m) (h : 0 ≤ m ∧ m < n) (hv : cs[m.toNat * size]? = some v) : PV C o ρ v := fun w => by
  simp [execOp, ho, hx, hi, Instr.index, asIntOf, Und.run, Inf.run, h, part, hI.a, hv]
theorem pv_index_aa {x i : Operand} {t e : TypeId} {size bytes : Nat} {zero : Value} {n : Nat} {k : IntKind} {m : Int} {cs : List Value} [Und C.P t (.array n e)] [hI : Inf C.P e true size bytes zero] (ho : o.op = .index t x i)
    (hx : ev ρ x = .agg cs.toArray) (hi : ev ρ i = .int k m) (h : 0 ≤ m ∧ m < n) : PV C o ρ (.agg (((cs.drop (m.toNat * size)).take size).toArray)) := fun w => by
  simp [execOp, ho, hx, hi, Instr.index, asIntOf, Und.run, Inf.run, h, part, hI.a, List.extract_eq_take_drop]
theorem pv_field {x : Operand} {t ty : TypeId} {f off size bytes : Nat} {zero : Value} {cs : List Value} {v : Value} [hF : FieldAt C.P t f off ty] [hI : Inf C.P ty false size bytes zero] (ho : o.op = .field t x f)
    (hx : ev ρ x = .agg cs.toArray) (hv : cs[off]? = some v) : PV C o ρ v := fun w => by
  obtain ⟨fs, y, h1, h2, h3, h4⟩ := hF.h
  simp [execOp, ho, hx, Instr.field, underlying, h1, h2, h3, h4, asAgg, part, hI.a, hv]
theorem pv_field_a {x : Operand} {t ty : TypeId} {f off size bytes : Nat} {zero : Value} {cs : List Value} [hF : FieldAt C.P t f off ty] [hI : Inf C.P ty true size bytes zero] (ho : o.op = .field t x f)
    (hx : ev ρ x = .agg cs.toArray) : PV C o ρ (.agg ((cs.drop off).take size).toArray) := fun w => by
  obtain ⟨fs, y, h1, h2, h3, h4⟩ := hF.h
  simp [execOp, ho, hx, Instr.field, underlying, h1, h2, h3, h4, asAgg, part, hI.a, Inf.run, List.extract_eq_take_drop]
theorem pv_fieldAddr {x : Operand} {t ty : TypeId} {f k size bytes : Nat} {agg : Bool} {zero : Value} {b off : Nat} [hF : FieldAt C.P t f k ty] [hI : Inf C.P ty agg (size + 1) bytes zero] (ho : o.op = .fieldAddr t x f)
    (hx : ev ρ x = .pointer (some ⟨b, off, none⟩)) : PV C o ρ (.pointer (some ⟨b, off + k, none⟩)) := fun w => by
  obtain ⟨fs, y, h1, h2, h3, h4⟩ := hF.h
  simp [execOp, ho, hx, Instr.fieldAt, Instr.sureAddr, underlying, h1, h2, h3, h4, fieldPlace, Inf.run, addr_add]
theorem lv_load {x : Operand} {t : TypeId} {agg : Bool} {size bytes : Nat} {zero : Value} {b off : Nat} {v : Value} [Inf C.P t agg size bytes zero] (ho : o.op = .load t x)
    (hx : ev ρ x = .pointer (some ⟨b, off, none⟩)) (h : Ld H b off agg size v) : LV C o ρ H v := fun w hs => by
  simp [execOp, ho, hx, Instr.loadAt, Instr.sureAddr, run_loadVar hs h]
/-- A bound of a slice expression. -/
inductive Bd (ρ : Env) : Option Operand → Nat → Nat → Prop
  | none (d : Nat) : Bd ρ none d d
  | some {y : Operand} {d : Nat} {k : IntKind} {i : Int} (h : ev ρ y = .int k i) (h0 : 0 ≤ i) : Bd ρ (some y) d i.toNat
theorem run_bound {P : Program} {w : World} {k : IntKind} {i : Int} {y : Nat} {code : BoundsCode} (h : 0 ≤ i) (hy : i.toNat ≤ y) : (Instr.sliceBound (.int k i) y code).run P w = .ok i.toNat w := by
  simp only [Instr.sliceBound, asIntOf, Sem.run_bind, Sem.run_pure, Result.andThen_ok]
  rw [if_pos ⟨h, by omega⟩]
  rfl
theorem run_bounds {P : Program} {w : World} {s : Bool} {len cap l h m : Nat} {lo hi mx : Option Operand} (h1 : Bd ρ mx cap m) (h2 : Bd ρ hi len h) (h3 : Bd ρ lo 0 l) (hm : m ≤ cap) (hh : h ≤ m) (hl : l ≤ h) (hz : hi = none → mx = none) :
    (Instr.sliceBounds s len cap (lo.map (ev ρ)) (hi.map (ev ρ)) (mx.map (ev ρ))).run P w = .ok (l, h, m) w := by
  unfold Instr.sliceBounds
  cases h1 with
  | none =>
    cases h2 with
    | none => cases h3 with
      | none => simp
      | some a3 b3 =>
        simp only [Option.map_none, Option.map_some, Option.isSome_none, Bool.false_eq_true, if_false, Sem.run_bind, Sem.run_pure, Result.andThen_ok, a3] at *
        rw [run_bound b3 hl]; rfl
    | some a2 b2 => cases h3 with
      | none =>
        simp only [Option.map_none, Option.map_some, Sem.run_bind, Sem.run_pure, Result.andThen_ok, a2]
        rw [run_bound b2 hh]; rfl
      | some a3 b3 =>
        simp only [Option.map_none, Option.map_some, Sem.run_bind, Sem.run_pure, Result.andThen_ok, a2, a3]
        rw [run_bound b2 hh]
        simp only [Result.andThen_ok]
        rw [run_bound b3 hl]; rfl
  | some a1 b1 =>
    cases h2 with
    | none => cases hz rfl
    | some a2 b2 => cases h3 with
      | none =>
        simp only [Option.map_none, Option.map_some, Sem.run_bind, Sem.run_pure, a1, a2]
        rw [run_bound b1 hm]
        simp only [Result.andThen_ok]
        rw [run_bound b2 hh]; rfl
      | some a3 b3 =>
        simp only [Option.map_some, Sem.run_bind, Sem.run_pure, a1, a2, a3]
        rw [run_bound b1 hm]
        simp only [Result.andThen_ok]
        rw [run_bound b2 hh]
        simp only [Result.andThen_ok]
        rw [run_bound b3 hl]; rfl
theorem pv_slice_s {x : Operand} {lo hi : Option Operand} {t : TypeId} {l : List UInt8} {i j : Nat} [Und C.P t .string] (ho : o.op = .slice t x lo hi none) (hx : ev ρ x = .string (bs l)) (h2 : Bd ρ hi l.length j) (h3 : Bd ρ lo 0 i) (hb : i ≤ j ∧ j ≤ l.length) :
    PV C o ρ (.string (bs ((l.take j).drop i))) := fun w => by
  have hr := run_bounds (P := C.P) (w := w) (s := false) (cap := l.length) (mx := none) (.none _) h2 h3 (Nat.le_refl _) hb.2 hb.1 (fun _ => rfl)
  simp only [Option.map_none] at hr
  simp only [execOp, ho, hx, Instr.sliceAt, Instr.slice, Sem.run_bind, Und.run, Result.andThen_ok, Option.map_none, Option.isSome_none, Bool.false_eq_true, if_false, bs_size, hr, Sem.run_pure, bs_extract]
/-- Where a cut slice begins. -/
def cutA (a : Option Addr) (lo m size : Nat) : Option Addr := if m = lo then a else a.map (·.add (lo * size))
theorem pv_slice_l {x : Operand} {lo hi mx : Option Operand} {t e : TypeId} {agg : Bool} {size bytes : Nat} {zero : Value} {a : Option Addr} {n c i j m : Nat} [Und C.P t (.slice e)] [Inf C.P e agg size bytes zero] (ho : o.op = .slice t x lo hi mx)
    (hx : ev ρ x = .slice a n c) (h1 : Bd ρ mx c m) (h2 : Bd ρ hi n j) (h3 : Bd ρ lo 0 i) (hb : i ≤ j ∧ j ≤ m ∧ m ≤ c) (hz : hi = none → mx = none) :
    PV C o ρ (.slice (cutA a i m size) (j - i) (m - i)) := fun w => by
  have hr := run_bounds (P := C.P) (w := w) (s := true) h1 h2 h3 hb.2.2 hb.2.1 hb.1 hz
  simp only [execOp, ho, hx, Instr.sliceAt, Instr.slice, Sem.run_bind, Und.run, Inf.run, Result.andThen_ok, hr, Sem.run_pure, cutA]
theorem pv_add_s {x y : Operand} {t u : TypeId} {a b : List UInt8} (ho : o.op = .binOp .add t x y u) (hx : ev ρ x = .string (bs a)) (hy : ev ρ y = .string (bs b)) (hl : a.length + b.length ≤ 9223372036854775807) : PV C o ρ (.string (bs (a ++ b))) := fun w => by
  have : ¬ ((((bs a).size + (bs b).size : Nat) : Int) > IntKind.i64.max) := by
    rw [bs_size, bs_size, show IntKind.i64.max = 9223372036854775807 from rfl]; omega
  simp only [execOp, ho, hx, hy, eqGuard, binOp, Op.stringOp, this, if_false]
  simp [bs_append]
theorem pv_eql_s {x y : Operand} {t u : TypeId} {a b : List UInt8} (ho : o.op = .binOp .eql t x y u) (hx : ev ρ x = .string (bs a)) (hy : ev ρ y = .string (bs b)) : PV C o ρ (.bool (decide (a = b))) := fun w => by
  simp [execOp, ho, hx, hy, eqGuard, binOp, Op.stringOp]; rw [Bool.eq_iff_iff]; simp
theorem pv_neq_s {x y : Operand} {t u : TypeId} {a b : List UInt8} (ho : o.op = .binOp .neq t x y u) (hx : ev ρ x = .string (bs a)) (hy : ev ρ y = .string (bs b)) : PV C o ρ (.bool (!decide (a = b))) := fun w => by
  simp [execOp, ho, hx, hy, eqGuard, binOp, Op.stringOp]; rw [Bool.eq_iff_iff]; simp
theorem pv_eql_b {x y : Operand} {t u : TypeId} {a b : Bool} [hu : Und C.P t .bool] (ho : o.op = .binOp .eql t x y u) (hx : ev ρ x = .bool a) (hy : ev ρ y = .bool b) : PV C o ρ (.bool (a == b)) := fun w => by
  simp [execOp, ho, hx, hy, eqGuard, run_eql_bool w t a b hu.h]
theorem pv_neq_b {x y : Operand} {t u : TypeId} {a b : Bool} [hu : Und C.P t .bool] (ho : o.op = .binOp .neq t x y u) (hx : ev ρ x = .bool a) (hy : ev ρ y = .bool b) : PV C o ρ (.bool (!(a == b))) := fun w => by
  simp [execOp, ho, hx, hy, eqGuard, run_neq_bool w t a b hu.h]
/-- The bytes of a slice, as a text. -/
theorem lv_string {x : Operand} {s t e : TypeId} {b off c n : Nat} {l : List UInt8} [hs : Und C.P s (.slice e)] [he : Und C.P e (.int .u8)] [ht : Und C.P t .string] (ho : o.op = .convert s t x) (hx : ev ρ x = .slice (some ⟨b, off, none⟩) n c) (hn : l.length = n)
    (h : Row H b off (l.map fun u => .int .u8 u.toNat)) : LV C o ρ H (.string (bs l)) := fun w hS => by
  subst hn
  have := run_convert_bytes_back (P := C.P) w s t e ⟨b, off, none⟩ c l hs.h he.h ht.h (fun j hj => by
    rw [addr_add, cell_cellAt hS]
    exact h j _ (by simp [hj]))
  simp only [execOp, ho, hx, Sem.run_bind, this, Result.andThen_ok, Sem.run_pure]
end light

/-! New blocks, stores, appends, calls. -/
/-- Memory with one block more, b. -/
structure New (H H' : Heap) (b : Nat) (cs : List Value) (t : TypeId) : Prop where
  ext : Ext H H'
  blk : Blk H' b cs t
  ge : H.size ≤ b
theorem new_push (H : Heap) (cs : List Value) (t : TypeId) : New H (H.push (.cells cs.toArray t)) H.size cs t :=
  ⟨⟨by simp, fun i hi => by rw [Array.getElem?_push, if_neg (by omega)]⟩, by unfold Blk; simp, Nat.le_refl _⟩
theorem sees_push {O : Outer} {H : Heap} {w : World} (hs : Sees O H w) (o : Obj) : Sees O (H.push o) { w with heap := w.heap.push o } :=
  ⟨by rw [hs.1], hs.2.1, hs.2.2.1, hs.2.2.2⟩
/-- A value's cells, as a list. -/
def vcells : Value → List Value
  | .agg cs => cs.toList
  | v => [v]
theorem vcells_eq (v : Value) : v.cells = (vcells v).toArray := by cases v <;> simp [Value.cells, vcells]
def setRange : List Value → Nat → List Value → List Value
  | cs, _, [] => cs
  | cs, off, v :: vs => setRange (cs.set off v) (off + 1) vs
theorem setRange_length : ∀ (vs cs : List Value) (off : Nat), (setRange cs off vs).length = cs.length
  | [], _, _ => rfl
  | _ :: vs, cs, off => by simp [setRange, setRange_length vs]
/-- Block b has turned to these cells, and nothing else has. -/
structure Upd (H H' : Heap) (b : Nat) (cs : List Value) (t : TypeId) : Prop where
  but : But b H H'
  blk : Blk H' b cs t
section heavy
variable {C : Cx} {o : Oper} {ρ : Env} {H : Heap}
theorem hv_box {x : Operand} {t : TypeId} {cs : List Value} (ho : o.op = .box t x) (hx : vcells (ev ρ x) = cs) :
    HV C o ρ H (fun v H' => ∃ b, v = .pointer (some ⟨b, 0, none⟩) ∧ New H H' b cs t) := fun w hs => .inl ⟨_, _, by
  simp only [execOp, ho, Instr.box, newVar, newRow, vcells_eq, hx, Sem.run_bind, run_newObj, Result.andThen_ok, Sem.run_pure]
  rfl, _, sees_push hs _, H.size, by rw [hs.1], new_push H cs t⟩
theorem hv_alloc {t : TypeId} {agg : Bool} {size bytes : Nat} {zero : Value} {cs : List Value} [Inf C.P t agg size bytes zero] (ho : o.op = .alloc t) (hx : vcells zero = cs) :
    HV C o ρ H (fun v H' => ∃ b, v = .pointer (some ⟨b, 0, none⟩) ∧ New H H' b cs t) := fun w hs => .inl ⟨_, _, by
  simp only [execOp, ho, Instr.alloc, newVar, newRow, vcells_eq, hx, Sem.run_bind, Inf.zrun, run_newObj, Result.andThen_ok, Sem.run_pure]
  rfl, _, sees_push hs _, H.size, by rw [hs.1], new_push H cs t⟩
theorem run_storeCells {P : Program} {O : Outer} {b t : Nat} : ∀ (vs : List Value) (H : Heap) (cs : List Value) (off i : Nat) (w : World), Sees O H w → Blk H b cs t → off + i + vs.length ≤ cs.length → (∀ v ∈ vs, v.oneCell' = true) →
    ∃ w' H', (storeCells ⟨b, off, none⟩ vs i).run P w = .ok () w' ∧ Sees O H' w' ∧ Upd H H' b (setRange cs (off + i) vs) t ∧ H'.size = H.size
  | [], H, cs, off, i, w, hs, hb, _, _ => ⟨w, H, rfl, hs, ⟨But.refl _ _, hb⟩, rfl⟩
  | v :: vs, H, cs, off, i, w, hs, hb, hl, h1 => by
    have hlt : off + i < cs.length := by simp at hl; omega
    have hc : w.cell? ⟨b, off + i, none⟩ = some cs[off + i] := by rw [cell_cellAt hs, hb.cell]; simp [hlt]
    have hf : w.frozen? ⟨b, off + i, none⟩ = false := by
      unfold Blk at hb
      rw [← hs.1] at hb
      simp [World.frozen?, hb]
    have hw1 : Sees O (w.setCell ⟨b, off + i, none⟩ v).heap (w.setCell ⟨b, off + i, none⟩ v) := ⟨rfl, hs.2.1, hs.2.2.1, hs.2.2.2⟩
    have hb1 : Blk (w.setCell ⟨b, off + i, none⟩ v).heap b (cs.set (off + i) v) t := by
      unfold Blk at *
      rw [← hs.1] at hb
      simp [World.setCell, Array.getElem?_modify, hb]
    have hbut : But b H (w.setCell ⟨b, off + i, none⟩ v).heap := by
      refine ⟨by rw [← hs.1]; simp [World.setCell], fun j _ hj => ?_⟩
      rw [← hs.1]
      simp [World.setCell, Array.getElem?_modify, Ne.symm hj]
    obtain ⟨w', H', hr, hs', hu, hz⟩ := run_storeCells (P := P) vs _ (cs.set (off + i) v) off (i + 1) _ hw1 hb1 (by simp at hl ⊢; omega) (fun u hu => h1 u (List.mem_cons_of_mem _ hu))
    refine ⟨w', H', ?_, hs', ⟨hbut.trans hu.but, hu.blk⟩, by rw [hz, ← hs.1]; simp [World.setCell]⟩
    simp only [storeCells, addr_add, Sem.run_bind, run_store P w _ v .plain (h1 v (List.mem_cons_self ..)), hc, hf, Bool.false_eq_true, if_false, Result.andThen_ok, hr]
theorem hv_store {x y : Operand} {t t' : TypeId} {agg : Bool} {size bytes : Nat} {zero : Value} {b off : Nat} {cs vs : List Value} [Inf C.P t agg size bytes zero] (ho : o.op = .store t x y) (hx : ev ρ x = .pointer (some ⟨b, off, none⟩)) (hy : vcells (ev ρ y) = vs)
    (hb : Blk H b cs t') (hl : vs.length = size) (hc : off + size ≤ cs.length) (h1 : vs.all Value.oneCell' = true) :
    HV C o ρ H (fun _ H' => Upd H H' b (setRange cs off vs) t' ∧ H'.size = H.size) := fun w hs => .inr (.inr (by
  obtain ⟨w', H', hr, hs', hu, hz⟩ := run_storeCells (P := C.P) vs H cs off 0 w hs hb (by omega) (List.all_eq_true.1 h1)
  refine ⟨w', H', ?_, hs', hu, hz⟩
  simp only [execOp, ho, hx, Instr.storeAt, Instr.sureAddr, storeVar, vcells_eq, hy, Sem.run_bind, Sem.run_pure, Result.andThen_ok, Inf.run, List.size_toArray, hl, ne_eq, not_true_eq_false, if_false, hr]))
theorem setRange_mid' : ∀ (vs done rest : List Value), vs.length = rest.length → setRange (done ++ rest) done.length vs = done ++ vs
  | [], done, rest, h => by
    have : rest = [] := List.length_eq_zero_iff.1 h.symm
    simp [setRange, this]
  | v :: vs, done, r :: rest, h => by
    have := setRange_mid' vs (done ++ [v]) rest (by simpa using h)
    simp only [setRange, List.set_append_right _ _ (Nat.le_refl _), Nat.sub_self, List.set_cons_zero]
    simpa using this
theorem hv_storeA {x y : Operand} {t t' : TypeId} {agg : Bool} {size bytes : Nat} {zero : Value} {b : Nat} {cs vs : List Value} [Inf C.P t agg size bytes zero] (ho : o.op = .store t x y) (hx : ev ρ x = .pointer (some ⟨b, 0, none⟩)) (hy : vcells (ev ρ y) = vs)
    (hb : Blk H b cs t') (hl : vs.length = size) (hc : cs.length = size) (h1 : vs.all Value.oneCell' = true) :
    HV C o ρ H (fun _ H' => Upd H H' b vs t' ∧ H'.size = H.size) := by
  have h := hv_store (C := C) (o := o) (ρ := ρ) (H := H) ho hx hy hb hl (by omega) h1
  have e : setRange cs 0 vs = vs := by simpa using setRange_mid' vs [] cs (by omega)
  rw [e] at h
  exact h
/-- A slice value that owns its cells: nil, or the head of a block of one's own, from 'base' on. -/
def Own (H : Heap) (base : Nat) (e : TypeId) (size : Nat) (v : Value) (n : Nat) (xs : List Value) : Prop :=
  xs.length = n * size ∧
  ((v = .slice none 0 0 ∧ n = 0) ∨
   ∃ g cap cur, v = .slice (some ⟨g, 0, none⟩) n cap ∧ base ≤ g ∧ H[g]? = some (.cells cur e (0, 0)) ∧ n ≤ cap ∧ cap ≤ maxLen ∧ cur.size = cap * size ∧ cur.toList.take (n * size) = xs)
theorem own_iff {O : Outer} {w : World} (hs : Sees O H w) (base : Nat) (e : TypeId) (size : Nat) (v : Value) (n : Nat) (xs : List Value) : w.ownsRow base e size v n xs ↔ Own H base e size v n xs := by
  unfold World.ownsRow Own; rw [hs.1]
/-- Memory has grown; of what was there only the block 'row' may have turned. -/
structure Gr (row : Option Nat) (H H' : Heap) : Prop where
  size : H.size ≤ H'.size
  same : ∀ i, i < H.size → some i ≠ row → H'[i]? = H[i]?
theorem hv_append {x y : Operand} {t e : TypeId} {agg : Bool} {size bytes : Nat} {zero : Value} {base n b off m c : Nat} {v : Value} {xs news : List Value} [ht : Und C.P t (.slice e)] [hi : Inf C.P e agg size bytes zero]
    (ho : o.op = .call { callee := .builtin .append, args := #[x, y], argTypes := #[t, t] }) (hx : ev ρ x = v) (hown : Own H base e size v n xs)
    (hy : ev ρ y = .slice (some ⟨b, off, none⟩) m c) (hnews : Row H b off news) (hl : news.length = m * size) (h1 : ∀ u ∈ news, u.oneCell' = true)
    (hzs : zero.cells.size = size) (hsz : 0 < size) (h63 : n + m ≤ 9223372036854775807) (hby : (n + m) * bytes ≤ 140737488355328) (hbase : base ≤ H.size) :
    HV C o ρ H (fun v' H' => Own H' base e size v' (n + m) (xs ++ news) ∧ Gr v.ownBlock H H' ∧ (v' = .slice none 0 0 ↔ v = .slice none 0 0 ∧ m = 0) ∧ (v'.ownBlock = v.ownBlock ∨ v'.ownBlock = some H.size)) := fun w hs => .inl (by
  obtain ⟨i, i1, i2, i3, i4⟩ := hi.i
  obtain ⟨v', w', hr, hown', hg, hn, hb'⟩ := run_append_own_at (P := C.P) w base t o.type e i zero size bytes ht.h i1 i4 i2 i3 hzs hsz v n xs ((own_iff hs ..).2 hown) ⟨b, off, none⟩ m c news hl
    (fun j u hj => by rw [addr_add, cell_cellAt hs]; exact hnews j u hj) h1 (by unfold maxLen; exact h63) hby (by rw [hs.1]; exact hbase)
  refine ⟨v', w', ?_, w'.heap, ⟨rfl, hg.tape.trans hs.2.1, hg.os.trans hs.2.2.1, hg.output.trans hs.2.2.2⟩, (own_iff (O := Outer.of w') ⟨rfl, rfl, rfl, rfl⟩ ..).1 hown', ⟨by rw [← hs.1]; exact hg.size, fun i hi hne => by rw [← hs.1]; exact hg.block i (by rw [hs.1]; exact hi) hne⟩, hn, by rw [← hs.1]; exact hb'⟩
  simp only [execOp, ho, resolve, invoke, builtin, Sem.run_bind, Sem.run_pure, Result.andThen_ok, List.map_toArray, List.map_cons, List.map_nil, hx, hy, hr])
theorem hv_call {f : Operand} {as : Array Operand} {ts : Array TypeId} {g : FuncId} {fst cap : Array Value} {A : List Value} {R : Value → Heap → Prop} [hg : Has C.P g] (ho : o.op = .call { callee := .value f, args := as, argTypes := ts })
    (hf : ev ρ f = .func (.func g) fst cap) (h : FnC C.P g A.toArray C.O H R) (hA : fst.toList ++ (as.toList.map (ev ρ) ++ cap.toList) = A) : HV C o ρ H R := fun w hs => .inr (.inl ⟨g, A.toArray, by
  have hA' : fst ++ as.map (ev ρ) ++ cap = A.toArray := by
    rw [← hA]
    apply Array.ext'
    simp
  simp only [execOp, ho, resolve, hf, Deferred.ofValue, invoke, Sem.run_bind, Sem.run_pure, Result.andThen_ok, hA', hg.h], h⟩)
end heavy
end Go.XG
