/-
  XG, part i: copies from slice to slice; an append of zeros to what is full; whether slices overlap.
-/
import Derived.Test.YtjlhjjjhblcokaaTm
import Derived.Test.YtjlhjjjhblcokaaXk
import Derived.Test.YtjlhjjjhblcokaaXg
import Derived.Lib.Overlaps
import Derived.Lib.AppendZeros
namespace Go.XG
theorem run_append_make {P : Program} (w : World) (t tn ty e : TypeId) (i : TypeInfo) (z : Value) (k kn : IntKind) (ht : P.underlying t = some (.slice e)) (htn : P.underlying tn = some (.int kn)) (hi : P.info? e = some i) (hz : i.zero = some z)
    (b : Addr) (sLen sCap : Nat) (olds : List Value) (hlo : olds.length = sLen * i.size) (holds : ∀ j v, olds[j]? = some v → w.cell? (b.add j) = some v)
    (n : Nat) (h0 : 0 < n) (hs : 0 < i.size) (hg : sCap < sLen + n) (h63 : ((sLen + n : Nat) : Int) ≤ 9223372036854775807) (h48 : n * i.bytes ≤ 281474976710656) (hfit : Builtin.nextslicecap (sLen + n) sCap * i.bytes ≤ 281474976710656) :
    (Builtin.append_ #[t, tn] ty #[.slice (some b) sLen sCap, .int k n]).run P w =
      .ok (.slice (some ⟨w.heap.size, 0, none⟩) (sLen + n) (grownCap w (sLen + n) sCap e))
        (w.drew.alloc (.cells (olds.toArray ++ (Builtin.zeroCells z.cells n ++ Builtin.zeroCells z.cells (grownCap w (sLen + n) sCap e - (sLen + n)))) e)) := by
  have hn : n ≠ 0 := by omega
  have hng : ¬ (sLen + n ≤ sCap) := by omega
  have hw : IntKind.i64.wrap (n : Int) = n := by rw [IntKind.wrap_i64]; omega
  have h63' : ¬ (9223372036854775807 < ((sLen : Int) + (n : Int))) := by omega
  have h48' : ¬ (281474976710656 < Builtin.nextslicecap (sLen + n) sCap * i.bytes) := by omega
  have h48i : ¬ (281474976710656 < (n : Int) * (i.bytes : Int)) := by
    rw [← Int.natCast_mul]
    omega
  have hneg : ¬ ((n : Int) < 0) := by omega
  have hns : ¬ (n * i.size = 0) := Nat.mul_ne_zero hn (by omega)
  have hfo := run_firstCells_some (P := P) w.drew i.size sLen b sLen sCap olds hlo (by simpa using holds)
  simp [Builtin.append_, run_underlying ht, run_underlying htn, sizeOf, typeInfo, zeroValue, hi, hz, asInt, asIntOf, hw, hng, hneg, hns, h63', h48', h48i, Question.forced, hfo, newRow, grownCap]
section
variable {C : Cx} {o : Oper} {ρ : Env} {H : Heap}
theorem hv_copy {x y : Operand} {t e : TypeId} {agg : Bool} {size bytes : Nat} {zero : Value} {b off dl dc sb so sl sc : Nat} {cs news : List Value} {t' : TypeId} [ht : Und C.P t (.slice e)] [hi : Inf C.P e agg size bytes zero]
    (ho : o.op = .call { callee := .builtin .copy, args := #[x, y], argTypes := #[t, t] }) (hx : ev ρ x = .slice (some ⟨b, off, none⟩) dl dc) (hy : ev ρ y = .slice (some ⟨sb, so, none⟩) sl sc)
    (hb : Blk H b cs t') (hr : Row H sb so news) (hl : news.length = Nat.min sl dl * size) (hc : off + news.length ≤ cs.length) (h1 : ∀ u ∈ news, u.oneCell' = true) :
    HV C o ρ H (fun _ H' => Upd H H' b (setRange cs off news) t') := fun w hs => .inl (by
  obtain ⟨w', H', hst, hs', hu, _⟩ := run_storeCells (P := C.P) news H cs off 0 w hs hb (by omega) h1
  have hf := run_firstCells_some (P := C.P) (w := w) size (Nat.min sl dl) ⟨sb, so, none⟩ sl sc news hl (fun j v hj => by rw [addr_add, cell_cellAt hs]; exact hr j v hj)
  refine ⟨goInt (Nat.min sl dl), w', ?_, H', hs', hu⟩
  simp only [execOp, ho, resolve, invoke, builtin, Sem.run_bind, Sem.run_pure, Result.andThen_ok, List.map_toArray, List.map_cons, List.map_nil, hx, hy, Builtin.copy_]
  simp [Und.run, Inf.run, Builtin.lenOf, hf, hst])
theorem hv_append_make {x y : Operand} {t tn e : TypeId} {agg : Bool} {size bytes : Nat} {zero : Value} {a : Addr} {n m c : Nat} {xs : List Value} {kn : IntKind} [ht : Und C.P t (.slice e)] [htn : Und C.P tn (.int kn)] [hi : Inf C.P e agg size bytes zero]
    (ho : o.op = .call { callee := .builtin .append, args := #[x, y], argTypes := #[t, tn] }) (hx : ev ρ x = .slice (some a) n c) (hrow : ∃ b off, a = ⟨b, off, none⟩ ∧ Row H b off xs) (hl : xs.length = n * size)
    (hy : ev ρ y = .int .i64 (m : Nat)) (h0 : 0 < m) (hsz : 0 < size) (hzs : zero.cells.size = size) (hg : c < n + m) (h63 : n + m ≤ 9223372036854775807) (hby : (n + m) * bytes ≤ 140737488355328) :
    HV C o ρ H (fun v' H' => ∃ b' c' ex, v' = .slice (some ⟨b', 0, none⟩) (n + m) c' ∧ n + m ≤ c' ∧ ex.length = c' * size - n * size ∧ c' ≤ maxLen ∧ New H H' b' (xs ++ ex) e) := fun w hs => .inl (by
  obtain ⟨i, i1, i2, i3, i4⟩ := hi.i
  obtain ⟨b, off, rfl, hrow⟩ := hrow
  have hge := grownCap_ge w (n + m) c e
  have hcm : grownCap w (n + m) c e ≤ maxLen := grownCap_le_maxLen w (n + m) c e (by unfold maxLen; exact h63)
  have hr := run_append_make (P := C.P) w t tn o.type e i zero .i64 kn ht.h htn.h i1 i4 ⟨b, off, none⟩ n c xs (by rw [i2]; exact hl) (fun j v hj => by rw [addr_add, cell_cellAt hs]; exact hrow j v hj) m h0 (by omega) hg (by omega)
    (by rw [i3]; refine Nat.le_trans (Nat.mul_le_mul_right _ (show m ≤ n + m by omega)) (by omega)) (by rw [i3]; exact growslice_fits hg hby)
  obtain ⟨h1, h2, h3, h4⟩ := hs
  refine ⟨.slice (some ⟨w.heap.size, 0, none⟩) (n + m) (grownCap w (n + m) c e), w.drew.alloc (.cells (xs.toArray ++ (Builtin.zeroCells zero.cells m ++ Builtin.zeroCells zero.cells (grownCap w (n + m) c e - (n + m)))) e), ?_, H.push (.cells (xs ++ ((Builtin.zeroCells zero.cells m).toList ++ (Builtin.zeroCells zero.cells (grownCap w (n + m) c e - (n + m))).toList)).toArray e), ?_, ⟨H.size, grownCap w (n + m) c e, (Builtin.zeroCells zero.cells m).toList ++ (Builtin.zeroCells zero.cells (grownCap w (n + m) c e - (n + m))).toList, ?_, hge, ?_, hcm, new_push H _ e⟩⟩
  · simp only [execOp, ho, resolve, invoke, builtin, Sem.run_bind, Sem.run_pure, Result.andThen_ok, List.map_toArray, List.map_cons, List.map_nil, hx, hy, hr]
  · refine ⟨?_, h2, h3, h4⟩
    show w.heap.push _ = _
    rw [h1]; congr 2; apply Array.ext'; simp
  · rw [h1]
  · rw [List.length_append, zeroCells_len, zeroCells_len, hzs, Nat.sub_mul, Nat.add_mul]
    have := Nat.mul_le_mul_right size hge
    rw [Nat.add_mul] at this
    omega)
/-- An append to a slice that has room for it. -/
theorem hv_append_room {x y : Operand} {t e : TypeId} {agg : Bool} {size bytes : Nat} {zero : Value} {b off n c sb so m c2 : Nat} {cs news : List Value} {t' : TypeId} [ht : Und C.P t (.slice e)] [hi : Inf C.P e agg size bytes zero]
    (ho : o.op = .call { callee := .builtin .append, args := #[x, y], argTypes := #[t, t] }) (hx : ev ρ x = .slice (some ⟨b, off, none⟩) n c) (hy : ev ρ y = .slice (some ⟨sb, so, none⟩) m c2)
    (hb : Blk H b cs t') (hr : Row H sb so news) (hl : news.length = m * size) (hroom : n + m ≤ c) (hc : off + n * size + news.length ≤ cs.length) (h1 : ∀ u ∈ news, u.oneCell' = true) :
    HV C o ρ H (fun v' H' => v' = .slice (some ⟨b, off, none⟩) (n + m) c ∧ Upd H H' b (setRange cs (off + n * size) news) t') := fun w hs => .inl (by
  obtain ⟨w', H', hst, hs', hu, _⟩ := run_storeCells (P := C.P) news H cs (off + n * size) 0 w hs hb (by omega) h1
  have hf := run_firstCells_some (P := C.P) (w := w) size m ⟨sb, so, none⟩ m c2 news hl (fun j v hj => by rw [addr_add, cell_cellAt hs]; exact hr j v hj)
  refine ⟨.slice (some ⟨b, off, none⟩) (n + m) c, w', ?_, H', hs', rfl, hu⟩
  simp only [execOp, ho, resolve, invoke, builtin, Sem.run_bind, Sem.run_pure, Result.andThen_ok, List.map_toArray, List.map_cons, List.map_nil, hx, hy, Builtin.append_]
  simp [Und.run, Inf.run, Builtin.lenOf, hf, hst, hroom, addr_add])
theorem shape_blk {O : Outer} {w : World} {b t : Nat} {cs : List Value} (hs : Sees O H w) (h : Blk H b cs t) : w.shape? b = some (t, cs.length) := by
  unfold World.shape?; rw [hs.1, h]; simp
theorem frozen_blk {O : Outer} {w : World} {b t off : Nat} {cs : List Value} (hs : Sees O H w) (h : Blk H b cs t) : w.frozen? ⟨b, off, none⟩ = false := by
  unfold World.frozen?; rw [hs.1, h]; simp
theorem hv_overlaps {f x y : Operand} {ts : Array TypeId} {g : FuncId} {fn : Func} {tS tR e : TypeId} {agg : Bool} {size bytes : Nat} {zero : Value} {b off la ca vb vo lb cb t1 t2 : Nat} {cs vs : List Value} [hts : Und C.P tS (.slice e)] [hi : Inf C.P e agg size bytes zero]
    (ho : o.op = .call { callee := .value f, args := #[x, y], argTypes := ts }) (hf : ev ρ f = .func (.func g) #[] #[]) (hx : ev ρ x = .slice (some ⟨vb, vo, none⟩) la ca) (hy : ev ρ y = .slice (some ⟨b, off, none⟩) lb cb)
    (hg : C.P.funcs[g]? = some fn) (h1 : (fn.name == "runtime.NumGoroutine") = false) (h2 : fn.body.isNone = true) (h3 : Extern.findNext fn = none) (h4 : Extern.find fn = some (Extern.SlicesOverlaps.overlaps #[tS, tS] #[tR]))
    (hv : Blk H vb vs t1) (hb : Blk H b cs t2) (hne : vb ≠ b) (hc : cs ≠ []) : HV C o ρ H (fun v H' => v = .bool false ∧ H = H') :=
  hv_extern (A := [.slice (some ⟨vb, vo, none⟩) la ca, .slice (some ⟨b, off, none⟩) lb cb]) ho hf (by simp [hx, hy]) hg h1 h2 h3 h4 fun w hs =>
    ⟨_, w, H, Lib.run_overlaps_apart w tS tR e hts.h size (fun w => Inf.run w) ⟨vb, vo, none⟩ ⟨b, off, none⟩ la ca lb cb hne t1 t2 vs.length cs.length (shape_blk hs hv) (shape_blk hs hb) (fun h => hc (List.length_eq_zero_iff.1 h)) (frozen_blk hs hv) (frozen_blk hs hv), hs, rfl, rfl⟩
/-- Cells, or none, behind a slice of one's own. -/
theorem hv_append_cells {x y : Operand} {t e : TypeId} {agg : Bool} {size bytes : Nat} {zero : Value} {ya : Option Addr} {base n m c : Nat} {v : Value} {xs news : List Value} [ht : Und C.P t (.slice e)] [hi : Inf C.P e agg size bytes zero]
    (ho : o.op = .call { callee := .builtin .append, args := #[x, y], argTypes := #[t, t] }) (hx : ev ρ x = v) (hown : Own H base e size v n xs)
    (hy : ev ρ y = .slice ya m c) (hl : news.length = m * size) (hr : m = 0 ∨ ∃ yb yo, ya = some ⟨yb, yo, none⟩ ∧ Row H yb yo news) (h1 : ∀ u ∈ news, u.oneCell' = true)
    (hzs : zero.cells.size = size) (hsz : 0 < size) (h63 : n + m ≤ 9223372036854775807) (hby : (n + m) * bytes ≤ 140737488355328) (hbase : base ≤ H.size) :
    HV C o ρ H (fun v' H' => Own H' base e size v' (n + m) (xs ++ news) ∧ Gr v.ownBlock H H') := by
  rcases hr with h0 | ⟨yb, yo, rfl, hyr⟩
  · subst h0
    obtain rfl : news = [] := List.length_eq_zero_iff.1 (by rw [hl, Nat.zero_mul])
    intro w hs
    obtain ⟨i, i1, i2, i3, i4⟩ := hi.i
    obtain ⟨a', c', hv⟩ := hown.val
    have hle : n ≤ c' := by
      rcases hown.2 with ⟨h1, h2⟩ | ⟨g, cap, cur, h1, _, _, h4, _⟩
      · omega
      · rw [hv] at h1; cases h1; exact h4
    refine .inl ⟨v, w, ?_, H, hs, by simpa using hown, ⟨Nat.le_refl _, fun _ _ _ => rfl⟩⟩
    have hr := run_append_none (P := C.P) (w := w) (ty := o.type) ht.h i1 a' ya n c' c hle
    simp only [execOp, ho, resolve, invoke, builtin, Sem.run_bind, Sem.run_pure, Result.andThen_ok, List.map_toArray, List.map_cons, List.map_nil, hx, hy, hv, hr]
  · have h := hv_append (C := C) (ρ := ρ) (H := H) ho hx hown hy hyr hl h1 hzs hsz h63 hby hbase
    intro w hs
    rcases h w hs with ⟨v', w', h1, H', h2, h3, h4, _⟩ | ⟨f, A, h1, _⟩ | ⟨w', H', h1, _⟩
    · exact .inl ⟨v', w', h1, H', h2, h3, h4⟩
    all_goals
      exfalso
      simp only [execOp, ho, resolve, invoke, builtin, Sem.run_bind, Sem.run_pure, Result.andThen_ok] at h1
      cases hb : (Builtin.append_ #[t, t] o.type (#[x, y].map (ev ρ))).run C.P w with
      | ok a b => rw [hb] at h1; simp at h1
      | halt a b => rw [hb] at h1; simp [Result.andThen] at h1
end
theorem own_blk2 {H : Heap} {a : Option Addr} {base e size n c : Nat} {xs : List Value} (h : Own H base e size (.slice a n c) n xs) :
    (a = none ∧ n = 0 ∧ c = 0) ∨ ∃ g ex, a = some ⟨g, 0, none⟩ ∧ Blk H g (xs ++ ex) e ∧ base ≤ g ∧ n ≤ c ∧ c ≤ maxLen ∧ (xs ++ ex).length = c * size := by
  rcases h.2 with ⟨h2, h3⟩ | ⟨g, cap, cur, h1, h2, h3, h4, h5, h7, h6⟩
  · injection h2 with h2 _ h8; exact .inl ⟨h2, h3, h8⟩
  · injection h1 with h1 h8 h9
    subst h9
    refine .inr ⟨g, cur.toList.drop (n * size), h1, ?_, h2, by omega, h5, ?_⟩
    · unfold Blk
      rw [h3, ← h6, List.take_append_drop]
    · rw [← h6, List.take_append_drop]; simpa using h7
theorem own_mk {H : Heap} {base e size n c g : Nat} {xs ex : List Value} (h : Blk H g (xs ++ ex) e) (hb : base ≤ g) (hl : xs.length = n * size) (hc : (xs ++ ex).length = c * size) (hn : n ≤ c) (hm : c ≤ maxLen) :
    Own H base e size (.slice (some ⟨g, 0, none⟩) n c) n xs :=
  ⟨hl, .inr ⟨g, c, (xs ++ ex).toArray, rfl, hb, h, hn, hm, by simpa using hc, by rw [← hl]; simp⟩⟩
theorem ins_cells {T Q D E : List Value} {i : Nat} (hT : T.length = i * 2) (hQ : Q.length = 2) (hE : 2 + D.length ≤ E.length) :
    setRange (setRange (T ++ E) (0 + i * 2) Q) (0 + (i + 1) * 2) D = T ++ (Q ++ (D ++ E.drop (2 + D.length))) := by
  have e1 : setRange (T ++ E) (0 + i * 2) Q = T ++ (Q ++ E.drop 2) := by
    rw [Nat.zero_add, ← hT]
    conv => lhs; rw [← List.take_append_drop 2 E]
    exact setRange_at Q T _ _ (by rw [List.length_take, hQ]; omega)
  have e2 : 0 + (i + 1) * 2 = (T ++ Q).length := by rw [List.length_append, hT, hQ]; omega
  rw [e1, e2, ← List.append_assoc]
  conv => lhs; rw [← List.take_append_drop D.length (E.drop 2)]
  rw [setRange_at D (T ++ Q) _ _ (by rw [List.length_take, List.length_drop]; omega), List.drop_drop, List.append_assoc]
theorem ins_cells2 {T Q D E : List Value} {i : Nat} (hT : T.length = i * 2) (hQ : Q.length = 2) (hE : 2 + D.length ≤ E.length) :
    setRange (setRange (T ++ E) (0 + (i + 1) * 2) D) (0 + i * 2) Q = T ++ (Q ++ (D ++ E.drop (2 + D.length))) := by
  have e2 : 0 + (i + 1) * 2 = (T ++ E.take 2).length := by rw [List.length_append, hT, List.length_take]; omega
  have e1 : setRange (T ++ E) (0 + (i + 1) * 2) D = T ++ (E.take 2 ++ (D ++ E.drop (2 + D.length))) := by
    rw [e2]
    conv => lhs; rw [← List.take_append_drop 2 E, ← List.append_assoc, ← List.take_append_drop D.length (E.drop 2)]
    have e3 : (List.take 2 (List.take 2 E ++ (List.take D.length (List.drop 2 E) ++ List.drop D.length (List.drop 2 E)))) = E.take 2 := by rw [List.take_append_drop, List.take_append_drop]
    rw [e3, setRange_at D (T ++ E.take 2) _ _ (by rw [List.length_take, List.length_drop]; omega), List.drop_drop, List.append_assoc]
  rw [e1, Nat.zero_add, ← hT]
  exact setRange_at Q T _ _ (by rw [List.length_take, hQ]; omega)
theorem blk_rowsT {H : Heap} {g e k : Nat} {l : List (List Int)} {ex : List Value} (h : Blk H g (fr l ++ ex) e) (hw : Wide k l) : RowsT H e k (some ⟨g, 0, none⟩) l :=
  ⟨hw, .inr ⟨g, 0, _, rfl, h, by rw [List.drop_zero, ← fr_len hw, List.take_left]⟩⟩
theorem row_take {H : Heap} {g e : Nat} {l : List (List Int)} {ex : List Value} (h : Blk H g (fr l ++ ex) e) (i : Nat) : Row H g 0 (fr (l.take i)) := by
  have h1 := h.row.pre
  have e : fr l = fr (l.take i) ++ fr (l.drop i) := by rw [← fr_app, List.take_append_drop]
  rw [e] at h1; exact h1.pre
theorem row_drop {H : Heap} {g e k : Nat} {l : List (List Int)} {ex : List Value} (h : Blk H g (fr l ++ ex) e) (hw : Wide k l) {i : Nat} (hi : i ≤ l.length) : Row H g (0 + i * k) (fr (l.drop i)) := by
  have h1 := h.part (i * k) ((l.length - i) * k)
  have e1 : ((fr l ++ ex).drop (i * k)).take ((l.length - i) * k) = fr (l.drop i) := by
    have e2 : fr l = fr (l.take i) ++ fr (l.drop i) := by rw [← fr_app, List.take_append_drop]
    have l1 : (fr (l.take i)).length = i * k := by rw [fr_len hw.take, List.length_take, Nat.min_eq_left hi]
    have l2 : (fr (l.drop i)).length = (l.length - i) * k := by rw [fr_len hw.drop, List.length_drop]
    rw [e2, List.append_assoc, ← l1, List.drop_left, ← l2, List.take_left]
  rw [e1] at h1
  rw [Nat.zero_add]; exact h1
theorem cut_any {b n m size : Nat} : ∃ so, cutA (some ⟨b, 0, none⟩) n m size = some ⟨b, so, none⟩ ∧ (n < m → so = 0 + n * size) := by
  rcases Nat.lt_or_ge n m with h | h
  · exact ⟨_, cut_at h, fun _ => rfl⟩
  · unfold cutA
    split
    · exact ⟨0, rfl, fun h2 => by omega⟩
    · exact ⟨0 + n * size, by simp [addr_add], fun h2 => rfl⟩
end Go.XG
