/-
  XG, part b: the operations, one law each: those that leave memory alone ('LV'), those that make, write or call ('HV'); what memory holds ('Blk', 'Ext', 'Upd').
-/
import Derived.Test.YtjlhjjjhblcokaaXa
namespace Go.XG

/-! Types, by instances that a program prints. -/
class Und (P : Program) (t : TypeId) (d : outParam TypeDesc) : Prop where
  h : P.underlying t = some d
class Inf (P : Program) (t : TypeId) (agg : outParam Bool) (size bytes : outParam Nat) (zero : outParam Value) : Prop where
  i : ∃ x, P.info? t = some x ∧ x.size = size ∧ x.bytes = bytes ∧ x.zero = some zero
  a : ∀ w, (isAgg t).run P w = .ok agg w
class FieldAt (P : Program) (t : TypeId) (f : Nat) (off ty : outParam Nat) : Prop where
  h : ∃ fs x, P.underlying t = some (.struct fs) ∧ fs[f]? = some x ∧ x.offset = off ∧ x.type = ty
class Has (P : Program) (f : FuncId) : Prop where
  h : ∀ args w, (callFunc f args).run P w = .ok (.enter f args) w

section
variable {P : Program} {t : TypeId} {d : TypeDesc} {agg : Bool} {size bytes : Nat} {zero : Value}
theorem Und.run [h : Und P t d] (w : World) : (underlying t).run P w = .ok d w := by simp [underlying, h.h]
theorem Inf.run [h : Inf P t agg size bytes zero] (w : World) : (sizeOf t).run P w = .ok size w := by
  obtain ⟨x, h1, h2, _⟩ := h.i
  simp [sizeOf, typeInfo, h1, h2]
theorem Inf.zrun [h : Inf P t agg size bytes zero] (w : World) : (zeroValue t).run P w = .ok zero w := by
  obtain ⟨x, h1, _, _, h2⟩ := h.i
  simp [zeroValue, typeInfo, h1, h2]
end

/-! Memory. -/
def cellAt (H : Heap) (b i : Nat) : Option Value :=
  match H[b]? with
  | some (.cells c _ _) => c[i]?
  | _ => none
theorem cell_cellAt {O : Outer} {H : Heap} {w : World} (hs : Sees O H w) (b i : Nat) : w.cell? ⟨b, i, none⟩ = cellAt H b i := by
  unfold World.cell? cellAt
  rw [hs.1]
  simp only [Option.isSome_none, Bool.false_eq_true, if_false]
  cases H[b]? with
  | none => rfl
  | some o => cases o <;> rfl
/-- Block b is just these cells, of this type, none frozen. -/
def Blk (H : Heap) (b : Nat) (cs : List Value) (t : TypeId) : Prop := H[b]? = some (.cells cs.toArray t (0, 0))
/-- From place 'off' of block b on, memory holds these cells (whatever else lies there). -/
def Row (H : Heap) (b off : Nat) (xs : List Value) : Prop := ∀ j v, xs[j]? = some v → cellAt H b (off + j) = some v
structure Ext (H H' : Heap) : Prop where
  size : H.size ≤ H'.size
  same : ∀ i, i < H.size → H'[i]? = H[i]?
/-- Nothing but block b has turned; nothing has gone. -/
structure But (b : Nat) (H H' : Heap) : Prop where
  size : H.size ≤ H'.size
  same : ∀ i, i < H.size → i ≠ b → H'[i]? = H[i]?
theorem Ext.refl (H : Heap) : Ext H H := ⟨Nat.le_refl _, fun _ _ => rfl⟩
theorem Ext.trans {H H' H'' : Heap} (h : Ext H H') (k : Ext H' H'') : Ext H H'' :=
  ⟨Nat.le_trans h.size k.size, fun i hi => (k.same i (Nat.lt_of_lt_of_le hi h.size)).trans (h.same i hi)⟩
theorem Ext.but {H H' : Heap} (h : Ext H H') (b : Nat) : But b H H' := ⟨h.size, fun i hi _ => h.same i hi⟩
theorem But.refl (b : Nat) (H : Heap) : But b H H := ⟨Nat.le_refl _, fun _ _ _ => rfl⟩
theorem But.trans {b : Nat} {H H' H'' : Heap} (h : But b H H') (k : But b H' H'') : But b H H'' :=
  ⟨Nat.le_trans h.size k.size, fun i hi hb => (k.same i (Nat.lt_of_lt_of_le hi h.size) hb).trans (h.same i hi hb)⟩
/-- Writing a block of one's own is nothing to what was there. -/
theorem Ext.ofBut {b : Nat} {H H' H'' : Heap} (h : Ext H H') (k : But b H' H'') (hb : H.size ≤ b) : Ext H H'' :=
  ⟨Nat.le_trans h.size k.size, fun i hi => (k.same i (Nat.lt_of_lt_of_le hi h.size) (by omega)).trans (h.same i hi)⟩
section
variable {H H' : Heap} {b b' i : Nat} {cs cs' : List Value} {t t' : TypeId} {xs : List Value} {off : Nat}
theorem lt_of_get {o : Obj} (h : H[b]? = some o) : b < H.size := by
  rcases Nat.lt_or_ge b H.size with hlt | hge
  · exact hlt
  · rw [Array.getElem?_eq_none hge] at h; cases h
theorem Blk.lt (h : Blk H b cs t) : b < H.size := lt_of_get h
theorem Blk.cell (h : Blk H b cs t) (i : Nat) : cellAt H b i = cs[i]? := by unfold Blk at h; unfold cellAt; rw [h]; simp
theorem Blk.ext (h : Blk H b cs t) (e : Ext H H') : Blk H' b cs t := (e.same b h.lt).trans h
theorem Blk.but (h : Blk H b cs t) (e : But b' H H') (hne : b ≠ b') : Blk H' b cs t := (e.same b h.lt hne).trans h
theorem Blk.ne (h : Blk H b cs t) (h' : Blk H b' cs' t') (hne : Nat.beq t t' = false) : b ≠ b' := by
  rintro rfl
  unfold Blk at h h'
  rw [h] at h'
  injection h' with h'
  injection h' with _ ht
  exact Nat.ne_of_beq_eq_false hne ht
theorem Blk.fresh (h : Blk H b cs t) (hb : H.size ≤ b') : b ≠ b' := by have := h.lt; omega
theorem cellAt_lt {v : Value} (h : cellAt H b i = some v) : b < H.size := by
  unfold cellAt at h
  split at h
  · rename_i hb; exact lt_of_get hb
  · cases h
theorem cellAt_ext {v : Value} (h : cellAt H b i = some v) (e : Ext H H') : cellAt H' b i = some v := by
  have := e.same b (cellAt_lt h)
  unfold cellAt at *
  rw [this]; exact h
theorem cellAt_but {v : Value} (h : cellAt H b i = some v) (e : But b' H H') (hne : b ≠ b') : cellAt H' b i = some v := by
  have := e.same b (cellAt_lt h) hne
  unfold cellAt at *
  rw [this]; exact h
theorem Row.ext (h : Row H b off xs) (e : Ext H H') : Row H' b off xs := fun j v hj => cellAt_ext (h j v hj) e
theorem Row.but (h : Row H b off xs) (e : But b' H H') (hne : b ≠ b') : Row H' b off xs := fun j v hj => cellAt_but (h j v hj) e hne
theorem Blk.row (h : Blk H b cs t) : Row H b 0 cs := fun j v hj => by rw [h.cell]; simpa using hj
end

/-- One cell, or a row of cells (a struct, an array): what a load of that type reads. -/
def Ld (H : Heap) (b off : Nat) (agg : Bool) (n : Nat) (v : Value) : Prop :=
  match agg with
  | false => cellAt H b off = some v
  | true => ∃ cs : List Value, v = .agg cs.toArray ∧ cs.length = n ∧ Row H b off cs
theorem run_loadCellsFrom {P : Program} {O : Outer} {H : Heap} {b : Nat} : ∀ (cs : List Value) (off i : Nat) (acc : Array Value) (w : World), Sees O H w → Row H b (off + i) cs →
    (loadCellsFrom ⟨b, off, none⟩ i cs.length acc).run P w = .ok (acc ++ cs.toArray) w
  | [], off, i, acc, w, hs, hr => by simp [loadCellsFrom]
  | v :: cs, off, i, acc, w, hs, hr => by
    have h0 : w.cell? ((⟨b, off, none⟩ : Addr).add i) = some v := by
      have := hr 0 v rfl
      rw [← cell_cellAt hs] at this
      unfold Addr.add
      by_cases hi : i = 0
      · subst hi; simpa using this
      · simpa [hi] using this
    have ih := run_loadCellsFrom (P := P) cs off (i + 1) (acc.push v) w hs (fun j u hj => by
      have := hr (j + 1) u (by simpa using hj)
      rw [show off + (i + 1) + j = off + i + (j + 1) by omega]; exact this)
    simp only [List.length_cons, loadCellsFrom, Sem.run_bind, run_load, h0, Result.andThen_ok]
    rw [ih]
    simp
theorem run_loadVar {P : Program} {O : Outer} {H : Heap} {w : World} {t : TypeId} {agg : Bool} {size bytes : Nat} {zero : Value} [hi : Inf P t agg size bytes zero] {b off : Nat} {v : Value}
    (hs : Sees O H w) (h : Ld H b off agg size v) : (loadVar t ⟨b, off, none⟩).run P w = .ok v w := by
  unfold loadVar
  simp only [Sem.run_bind, hi.a, Result.andThen_ok]
  cases agg with
  | false =>
    have h' : cellAt H b off = some v := h
    rw [← cell_cellAt hs] at h'
    simp [h']
  | true =>
    obtain ⟨cs, rfl, hl, hr⟩ := h
    have := run_loadCellsFrom (P := P) cs off 0 #[] w hs (by simpa using hr)
    simp only [if_true, Sem.run_bind, Inf.run, Result.andThen_ok, loadCells, ← hl, this]
    simp
theorem ld_blk {H : Heap} {b off : Nat} {cs : List Value} {t n : Nat} {v : Value} (h : Blk H b cs t) (hv : cs[off]? = some v) : Ld H b off false n v := by
  show cellAt H b off = some v
  rw [h.cell]; exact hv
theorem ld_row {H : Heap} {b off k n : Nat} {xs : List Value} {v : Value} (h : Row H b off xs) (hv : xs[k]? = some v) : Ld H b (off + k) false n v := h k v hv

section light
variable {C : Cx} {o : Oper} {ρ : Env} {H : Heap}
theorem pv_move {x : Operand} {v : Value} (ho : o.op = .move x) (hx : ev ρ x = v) : PV C o ρ v := fun w => by simp [execOp, ho, hx]
theorem pv_assign {x : Operand} {v : Value} (ho : o.op = .assign x) (hx : ev ρ x = v) : PV C o ρ v := fun w => by simp [execOp, ho, hx]
theorem pv_pick_t {c x y : Operand} {v : Value} (ho : o.op = .pick c x y) (hc : ev ρ c = .bool true) (hx : ev ρ x = v) : PV C o ρ v := fun w => by
  simp [execOp, ho, hc, hx, asBool]
theorem pv_pick_f {c x y : Operand} {v : Value} (ho : o.op = .pick c x y) (hc : ev ρ c = .bool false) (hx : ev ρ y = v) : PV C o ρ v := fun w => by
  simp [execOp, ho, hc, hx, asBool]
theorem pv_nilCheck_p {x : Operand} {a : Addr} (ho : o.op = .nilCheck x) (hx : ev ρ x = .pointer (some a)) : PV C o ρ (.pointer (some a)) := fun w => by
  simp [execOp, ho, hx]
theorem pv_nilCheck_f {x : Operand} {f : FuncId} {a c : Array Value} (ho : o.op = .nilCheck x) (hx : ev ρ x = .func (.func f) a c) : PV C o ρ (.func (.func f) a c) := fun w => by
  simp [execOp, ho, hx]
theorem pv_extract {x : Operand} {i : Nat} {vs : Array Value} {v : Value} (ho : o.op = .extract x i) (hx : ev ρ x = .tuple vs) (hv : vs[i]? = some v) : PV C o ρ v := fun w => by
  simp [execOp, ho, hx, Instr.extract, hv]
theorem pv_makeInterface {x : Operand} {t : TypeId} {d : TypeDesc} {v : Value} [hu : Und C.P t d] (ho : o.op = .makeInterface t x) (hd : (match d with | .interface _ => false | _ => true) = true) (hx : ev ρ x = v) :
    PV C o ρ (.iface t v) := fun w => by
  simp only [execOp, ho, Instr.makeInterface, Sem.run_bind, Und.run, Result.andThen_ok, hx]
  cases d <;> simp at hd ⊢
theorem pv_makeFunc {fn : Fn} {f c : Array Operand} {a b : List Value} (ho : o.op = .makeFunc fn f c) (ha : f.toList.map (ev ρ) = a) (hb : c.toList.map (ev ρ) = b) : PV C o ρ (.func fn a.toArray b.toArray) := fun w => by
  have ha' : f.map (ev ρ) = a.toArray := by apply Array.ext'; simp [Array.toList_map, ha]
  have hb' : c.map (ev ρ) = b.toArray := by apply Array.ext'; simp [Array.toList_map, hb]
  simp [execOp, ho, Instr.makeFunc, ha', hb']

/-- Arithmetic that does not go round. -/
def fits (k : IntKind) (n : Int) : Prop := k.wrap n = n
theorem pv_add {x y : Operand} {t u : TypeId} {k : IntKind} {m n : Int} (ho : o.op = .binOp .add t x y u) (hx : ev ρ x = .int k m) (hy : ev ρ y = .int k n) (hf : k.wrap (m + n) = m + n) : PV C o ρ (.int k (m + n)) := fun w => by
  simp [execOp, ho, hx, hy, eqGuard, binOp, Op.intArith, hf]
theorem pv_sub {x y : Operand} {t u : TypeId} {k : IntKind} {m n : Int} (ho : o.op = .binOp .sub t x y u) (hx : ev ρ x = .int k m) (hy : ev ρ y = .int k n) (hf : k.wrap (m - n) = m - n) : PV C o ρ (.int k (m - n)) := fun w => by
  simp [execOp, ho, hx, hy, eqGuard, binOp, Op.intArith, hf]
theorem pv_mul {x y : Operand} {t u : TypeId} {k : IntKind} {m n : Int} (ho : o.op = .binOp .mul t x y u) (hx : ev ρ x = .int k m) (hy : ev ρ y = .int k n) (hf : k.wrap (m * n) = m * n) : PV C o ρ (.int k (m * n)) := fun w => by
  simp [execOp, ho, hx, hy, eqGuard, binOp, Op.intArith, hf]
theorem pv_addw {x y : Operand} {t u : TypeId} {k : IntKind} {m n : Int} (ho : o.op = .binOp .add t x y u) (hx : ev ρ x = .int k m) (hy : ev ρ y = .int k n) : PV C o ρ (.int k (k.wrap (m + n))) := fun w => by
  simp [execOp, ho, hx, hy, eqGuard, binOp, Op.intArith]
theorem pv_subw {x y : Operand} {t u : TypeId} {k : IntKind} {m n : Int} (ho : o.op = .binOp .sub t x y u) (hx : ev ρ x = .int k m) (hy : ev ρ y = .int k n) : PV C o ρ (.int k (k.wrap (m - n))) := fun w => by
  simp [execOp, ho, hx, hy, eqGuard, binOp, Op.intArith]
theorem pv_mulw {x y : Operand} {t u : TypeId} {k : IntKind} {m n : Int} (ho : o.op = .binOp .mul t x y u) (hx : ev ρ x = .int k m) (hy : ev ρ y = .int k n) : PV C o ρ (.int k (k.wrap (m * n))) := fun w => by
  simp [execOp, ho, hx, hy, eqGuard, binOp, Op.intArith]
theorem pv_quo {x y : Operand} {t u : TypeId} {k : IntKind} {m n : Int} (ho : o.op = .binOp .quo t x y u) (hx : ev ρ x = .int k m) (hy : ev ρ y = .int k n) (h0 : n ≠ 0) (hf : k.wrap (m.tdiv n) = m.tdiv n) : PV C o ρ (.int k (m.tdiv n)) := fun w => by
  simp [execOp, ho, hx, hy, eqGuard, binOp, Op.intDiv, h0, hf]
theorem pv_rem {x y : Operand} {t u : TypeId} {k : IntKind} {m n : Int} (ho : o.op = .binOp .rem t x y u) (hx : ev ρ x = .int k m) (hy : ev ρ y = .int k n) (h0 : n ≠ 0) : PV C o ρ (.int k (m.tmod n)) := fun w => by
  simp [execOp, ho, hx, hy, eqGuard, binOp, Op.intDiv, h0]
theorem pv_quov {x y : Operand} {t u : TypeId} {k : IntKind} {m n r : Int} (ho : o.op = .binOp .quo t x y u) (hx : ev ρ x = .int k m) (hy : ev ρ y = .int k n) (h0 : n ≠ 0) (hf : k.wrap (m.tdiv n) = r) : PV C o ρ (.int k r) := fun w => by
  simp [execOp, ho, hx, hy, eqGuard, binOp, Op.intDiv, h0, hf]
theorem pv_remv {x y : Operand} {t u : TypeId} {k : IntKind} {m n r : Int} (ho : o.op = .binOp .rem t x y u) (hx : ev ρ x = .int k m) (hy : ev ρ y = .int k n) (h0 : n ≠ 0) (hr : m.tmod n = r) : PV C o ρ (.int k r) := fun w => by
  simp [execOp, ho, hx, hy, eqGuard, binOp, Op.intDiv, h0, hr]
theorem pv_addv {x y : Operand} {t u : TypeId} {k : IntKind} {m n r : Int} (ho : o.op = .binOp .add t x y u) (hx : ev ρ x = .int k m) (hy : ev ρ y = .int k n) (hf : k.wrap (m + n) = r) : PV C o ρ (.int k r) := fun w => by
  simp [execOp, ho, hx, hy, eqGuard, binOp, Op.intArith, hf]
/-- Bits, as they are. -/
def bits2 (op : BinOp) (k : IntKind) (m n : Int) : Int :=
  match op with
  | .and => k.wrap (BitVec.ofInt k.bits m &&& BitVec.ofInt k.bits n).toNat
  | .or => k.wrap (BitVec.ofInt k.bits m ||| BitVec.ofInt k.bits n).toNat
  | .xor => k.wrap (BitVec.ofInt k.bits m ^^^ BitVec.ofInt k.bits n).toNat
  | _ => k.wrap (BitVec.ofInt k.bits m &&& ~~~BitVec.ofInt k.bits n).toNat
theorem pv_and {x y : Operand} {t u : TypeId} {k : IntKind} {m n r : Int} (ho : o.op = .binOp .and t x y u) (hx : ev ρ x = .int k m) (hy : ev ρ y = .int k n) (hr : bits2 .and k m n = r) : PV C o ρ (.int k r) := fun w => by
  subst hr; simp [execOp, ho, hx, hy, eqGuard, binOp, Op.intBits, bits2]
theorem pv_or {x y : Operand} {t u : TypeId} {k : IntKind} {m n r : Int} (ho : o.op = .binOp .or t x y u) (hx : ev ρ x = .int k m) (hy : ev ρ y = .int k n) (hr : bits2 .or k m n = r) : PV C o ρ (.int k r) := fun w => by
  subst hr; simp [execOp, ho, hx, hy, eqGuard, binOp, Op.intBits, bits2]
theorem pv_xor {x y : Operand} {t u : TypeId} {k : IntKind} {m n r : Int} (ho : o.op = .binOp .xor t x y u) (hx : ev ρ x = .int k m) (hy : ev ρ y = .int k n) (hr : bits2 .xor k m n = r) : PV C o ρ (.int k r) := fun w => by
  subst hr; simp [execOp, ho, hx, hy, eqGuard, binOp, Op.intBits, bits2]
theorem pv_shl {x y : Operand} {t u : TypeId} {k k' : IntKind} {m n r : Int} (ho : o.op = .binOp .shl t x y u) (hx : ev ρ x = .int k m) (hy : ev ρ y = .int k' n) (h0 : 0 ≤ n) (hr : k.wrap (m * 2 ^ min n.toNat k.bits) = r) : PV C o ρ (.int k r) := fun w => by
  subst hr; simp [execOp, ho, hx, hy, eqGuard, binOp, Op.shift, Int.not_lt.2 h0]
theorem pv_shr {x y : Operand} {t u : TypeId} {k k' : IntKind} {m n r : Int} (ho : o.op = .binOp .shr t x y u) (hx : ev ρ x = .int k m) (hy : ev ρ y = .int k' n) (h0 : 0 ≤ n) (hr : m.fdiv (2 ^ min n.toNat k.bits) = r) : PV C o ρ (.int k r) := fun w => by
  subst hr; simp [execOp, ho, hx, hy, eqGuard, binOp, Op.shift, Int.not_lt.2 h0]
theorem pv_neg {x : Operand} {t : TypeId} {k : IntKind} {n : Int} (ho : o.op = .unOp .neg t x) (hx : ev ρ x = .int k n) (hf : k.wrap (-n) = -n) : PV C o ρ (.int k (-n)) := fun w => by
  simp [execOp, ho, hx, Op.unary, Op.intArith, hf]
theorem pv_not {x : Operand} {t : TypeId} {b : Bool} (ho : o.op = .unOp .not t x) (hx : ev ρ x = .bool b) : PV C o ρ (.bool (!b)) := fun w => by
  simp [execOp, ho, hx, Op.unary]
theorem pv_conv {x : Operand} {s t : TypeId} {ds : TypeDesc} {k k' : IntKind} {n r : Int} [hs : Und C.P s ds] [ht : Und C.P t (.int k')] (ho : o.op = .convert s t x) (hx : ev ρ x = .int k n) (hr : k'.wrap n = r) : PV C o ρ (.int k' r) := fun w => by
  subst hr; simp [execOp, ho, hx, convert, Und.run, Conv.intToInt]
theorem fit_i64 {n : Int} (h : -9223372036854775808 ≤ n ∧ n < 9223372036854775808) : IntKind.i64.wrap n = n := by
  rw [IntKind.wrap_i64]; omega
theorem fit_u64 {n : Int} (h : 0 ≤ n ∧ n < 18446744073709551616) : IntKind.u64.wrap n = n := by
  show n % 2 ^ 64 = n
  omega
theorem fit_u8 {n : Int} (h : 0 ≤ n ∧ n < 256) : IntKind.u8.wrap n = n := by
  show n % 2 ^ 8 = n
  omega
/-! Comparisons: what they say, as a bool. -/
theorem pv_lss {x y : Operand} {t u : TypeId} {k : IntKind} {m n : Int} (ho : o.op = .binOp .lss t x y u) (hx : ev ρ x = .int k m) (hy : ev ρ y = .int k n) : PV C o ρ (.bool (decide (m < n))) := fun w => by
  simp [execOp, ho, hx, hy, eqGuard, binOp, Op.intCmp]
theorem pv_leq {x y : Operand} {t u : TypeId} {k : IntKind} {m n : Int} (ho : o.op = .binOp .leq t x y u) (hx : ev ρ x = .int k m) (hy : ev ρ y = .int k n) : PV C o ρ (.bool (decide (m ≤ n))) := fun w => by
  simp [execOp, ho, hx, hy, eqGuard, binOp, Op.intCmp]
theorem pv_gtr {x y : Operand} {t u : TypeId} {k : IntKind} {m n : Int} (ho : o.op = .binOp .gtr t x y u) (hx : ev ρ x = .int k m) (hy : ev ρ y = .int k n) : PV C o ρ (.bool (decide (n < m))) := fun w => by
  simp [execOp, ho, hx, hy, eqGuard, binOp, Op.intCmp]
theorem pv_geq {x y : Operand} {t u : TypeId} {k : IntKind} {m n : Int} (ho : o.op = .binOp .geq t x y u) (hx : ev ρ x = .int k m) (hy : ev ρ y = .int k n) : PV C o ρ (.bool (decide (n ≤ m))) := fun w => by
  simp [execOp, ho, hx, hy, eqGuard, binOp, Op.intCmp]
theorem pv_eql {x y : Operand} {t u : TypeId} {k : IntKind} {m n : Int} (ho : o.op = .binOp .eql t x y u) (hx : ev ρ x = .int k m) (hy : ev ρ y = .int k n) : PV C o ρ (.bool (decide (m = n))) := fun w => by
  simp [execOp, ho, hx, hy, eqGuard, binOp, Op.intCmp]; rfl
theorem pv_neq {x y : Operand} {t u : TypeId} {k : IntKind} {m n : Int} (ho : o.op = .binOp .neq t x y u) (hx : ev ρ x = .int k m) (hy : ev ρ y = .int k n) : PV C o ρ (.bool (!decide (m = n))) := fun w => by
  simp [execOp, ho, hx, hy, eqGuard, binOp, Op.intCmp, bne]; rfl
end light
end Go.XG
