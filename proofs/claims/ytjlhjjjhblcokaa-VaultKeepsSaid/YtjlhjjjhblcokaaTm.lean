/-
  Rows in blocks of a type; what an append makes of rows that are another's; pairs built.
-/
import Derived.Test.YtjlhjjjhblcokaaT
import Derived.Test.YtjlhjjjhblcokaaXr
import Derived.ArgAppend
namespace Go.XG
/-- Rows of k numbers, in a block of elements of type e. -/
structure RowsT (H : Heap) (e : TypeId) (k : Nat) (a : Option Addr) (l : List (List Int)) : Prop where
  wide : Wide k l
  h : l = [] ∨ ∃ g o cs, a = some ⟨g, o, none⟩ ∧ Blk H g cs e ∧ (cs.drop o).take (l.length * k) = fr l
section
variable {H H1 : Heap} {e k n m c b base : Nat} {a : Option Addr} {l l' : List (List Int)} {cs : List Value} {t : TypeId}
theorem RowsT.ext (h : RowsT H e k a l) (x : Ext H H1) : RowsT H1 e k a l := ⟨h.wide, h.h.imp id fun ⟨g, o, cs, h1, h2, h3⟩ => ⟨g, o, cs, h1, h2.ext x, h3⟩⟩
theorem RowsT.lp {i : Nat} (h : RowsT H e k a l) (u : Lpw i H H1) : RowsT H1 e k a l := ⟨h.wide, h.h.imp id fun ⟨g, o, cs, h1, h2, h3⟩ => ⟨g, o, cs, h1, h2.lp u, h3⟩⟩
theorem RowsT.offT (h : RowsT H e k a l) (hb : Blk H b cs t) (u : But b H H1) (hne : Nat.beq t e = false) : RowsT H1 e k a l :=
  ⟨h.wide, h.h.imp id fun ⟨g, o, cs', h1, h2, h3⟩ => ⟨g, o, cs', h1, h2.but u (Ne.symm (hb.ne h2 hne)), h3⟩⟩
theorem RowsT.offM {kv : List Int → Value} {es : Ents} {n : Nat} (h : RowsT H e k a l) (hm : MapAt H b kv n es) (u : But b H H1) : RowsT H1 e k a l :=
  ⟨h.wide, h.h.imp id fun ⟨g, o, cs', h1, h2, h3⟩ => ⟨g, o, cs', h1, h2.but u (hm.blk h2).ne, h3⟩⟩
theorem RowsT.growT {e2 size : Nat} {v : Value} {xs : List Value} (h : RowsT H e k a l) (o : Own H base e2 size v n xs) (g : Gr v.ownBlock H H1) (hne : Nat.beq e e2 = false) : RowsT H1 e k a l :=
  ⟨h.wide, h.h.imp id fun ⟨gg, o', cs', h1, h2, h3⟩ => ⟨gg, o', cs', h1, h2.offT o g hne, h3⟩⟩
theorem RowsT.nil {a : Option Addr} : RowsT H e k a [] := ⟨wide_nil, .inl rfl⟩
theorem RowsT.rows (h : RowsT H e k a l) : Rows H a k l := ⟨h.wide, by
  rcases h.h with rfl | ⟨g, o, cs, h1, h2, h3⟩
  · exact .inl rfl
  · refine .inr ⟨g, o, h1, rows_row h.wide ?_⟩
    rw [← h3]; exact h2.part o _⟩
theorem own_rowsT (hw : Wide k l) (h : Own H base e k (.slice a n c) l.length (fr l)) : RowsT H e k a l := ⟨hw, by
  by_cases h0 : l = []
  · exact .inl h0
  · have hl : 0 < l.length := List.length_pos_iff.2 h0
    rcases h.2 with ⟨_, h2⟩ | ⟨g, cap, cur, h1, h2, h3, h4, h5, h6, h7⟩
    · omega
    · cases h1
      exact .inr ⟨g, 0, cur.toList, rfl, by unfold Blk; rw [h3], by rw [List.drop_zero]; exact h7⟩⟩
theorem fr_len' (hw : Wide k l) : (fr l).length = l.length * k := fr_len hw
theorem fr_drop : ∀ {l : List (List Int)} (n : Nat), Wide k l → n ≤ l.length → (fr l).drop (n * k) = fr (l.drop n)
  | l, 0, _, _ => by simp
  | [], n + 1, _, h => by simp at h
  | r :: l, n + 1, hw, h => by
    have hr : r.length = k := hw r (by simp)
    have ih := fr_drop (l := l) n (fun x hx => hw x (by simp [hx])) (by simpa using h)
    show (ints r ++ fr l).drop ((n + 1) * k) = fr (l.drop n)
    rw [← ih, Nat.add_mul, Nat.one_mul, Nat.add_comm, ← List.drop_drop]
    congr 1
    rw [← hr, show r.length = (ints r).length by simp [ints], List.drop_left]
theorem fr_take : ∀ {l : List (List Int)} (n : Nat), Wide k l → n ≤ l.length → (fr l).take (n * k) = fr (l.take n)
  | l, 0, _, _ => by simp [fr]
  | [], n + 1, _, h => by simp at h
  | r :: l, n + 1, hw, h => by
    have hr : r.length = k := hw r (by simp)
    have ih := fr_take (l := l) n (fun x hx => hw x (by simp [hx])) (by simpa using h)
    show (ints r ++ fr l).take ((n + 1) * k) = ints r ++ fr (l.take n)
    have e : (n + 1) * k = (ints r).length + n * k := by simp [ints, hr, Nat.add_mul]; omega
    rw [e, List.take_length_add_append, ih]
theorem cutA_0 (a : Option Addr) (m size : Nat) : cutA a 0 m size = a := by
  unfold cutA; split
  · rfl
  · cases a with
    | none => rfl
    | some x => simp [Addr.add]
theorem RowsT.take (h : RowsT H e k a l) (hn : n ≤ l.length) : RowsT H e k a (l.take n) := ⟨h.wide.take, by
  rcases h.h with rfl | ⟨g, o, cs, h1, h2, h3⟩
  · exact .inl (by simp)
  · refine .inr ⟨g, o, cs, h1, h2, ?_⟩
    rw [← fr_take n h.wide hn, ← h3, List.take_take, List.length_take, Nat.min_eq_left hn, Nat.min_eq_left (Nat.mul_le_mul_right k hn)]⟩
theorem RowsT.cut (h : RowsT H e k a l) (hn : n ≤ l.length) (hc : l.length ≤ c) : RowsT H e k (cutA a n c k) (l.drop n) := ⟨h.wide.drop, by
  by_cases h0 : n = l.length
  · exact .inl (by rw [h0]; simp)
  · rcases h.h with rfl | ⟨g, o, cs, h1, h2, h3⟩
    · exact .inl (by simp)
    · refine .inr ⟨g, o + n * k, cs, ?_, h2, ?_⟩
      · unfold cutA; rw [if_neg (by omega), h1]; simp [addr_add]
      · rw [← fr_drop n h.wide hn, ← h3, List.drop_take, List.drop_drop, List.length_drop, ← Nat.sub_mul]⟩
/-- Some rows out of the midst. -/
theorem RowsT.mid (h : RowsT H e k a l) {i j : Nat} (hij : i ≤ j) (hj : j ≤ l.length) (hc : l.length ≤ c) : RowsT H e k (cutA a i c k) ((l.take j).drop i) :=
  (h.take hj).cut (by simp; omega) (by simp; omega)
end
section
variable {C : Cx} {o : Oper} {ρ : Env} {H : Heap}
theorem run_append_none {P : Program} {w : World} {t ty e : TypeId} {i : TypeInfo} (ht : P.underlying t = some (.slice e)) (hi : P.info? e = some i) (a ya : Option Addr) (n cap c : Nat) (hn : n ≤ cap) :
    (Builtin.append_ #[t, t] ty #[.slice a n cap, .slice ya 0 c]).run P w = .ok (.slice a n cap) w := by
  cases a <;> cases ya <;> simp [Builtin.append_, run_underlying ht, sizeOf, typeInfo, hi, Builtin.lenOf, hn, Builtin.firstCells, loadCells, loadCellsFrom, storeCells]
theorem rowOf {e k : Nat} {a : Option Addr} {l : List (List Int)} (h : RowsT H e k a l) : l = [] ∨ ∃ b off, a = some ⟨b, off, none⟩ ∧ Row H b off (fr l) := by
  rcases h.h with h0 | ⟨g, o, cs, h1, h2, h3⟩
  · exact .inl h0
  · exact .inr ⟨g, o, h1, by rw [← h3]; exact h2.part o _⟩
/-- Rows behind rows that are full: a block of one's own. -/
theorem hv_append_full {x y : Operand} {t e : TypeId} {agg : Bool} {size bytes : Nat} {zero : Value} {a ya : Option Addr} {n m c : Nat} {l l' : List (List Int)} [ht : Und C.P t (.slice e)] [hi : Inf C.P e agg size bytes zero]
    (ho : o.op = .call { callee := .builtin .append, args := #[x, y], argTypes := #[t, t] }) (hx : ev ρ x = .slice a n n) (hn : l.length = n) (hR : RowsT H e size a l)
    (hy : ev ρ y = .slice ya m c) (hm : l'.length = m) (hR' : RowsT H e size ya l') (hm0 : 0 < m)
    (hzs : zero.cells.size = size) (hsz : 0 < size) (h63 : n + m ≤ 9223372036854775807) (hby : (n + m) * bytes ≤ 140737488355328) (hna : a = none → n = 0) :
    HV C o ρ H (fun v' H' => Own H' H.size e size v' (n + m) (fr (l ++ l')) ∧ Ext H H') := fun w hs => .inl (by
  obtain ⟨i, i1, i2, i3, i4⟩ := hi.i
  obtain ⟨yb, yo, rfl, hyr⟩ := (rowOf hR').resolve_left (fun h => by rw [h] at hm; simp at hm; omega)
  have hyc : ∀ j u, (fr l')[j]? = some u → w.cell? ((⟨yb, yo, none⟩ : Addr).add j) = some u := fun j u hj => by rw [addr_add, cell_cellAt hs]; exact hyr j u hj
  have hlen' : (fr l').length = m * size := by rw [fr_len hR'.wide, hm]
  have hone := fr_one l'
  have fin : ∀ v' w', w'.ownsRow w.heap.size e size v' (n + m) (fr l ++ fr l') → w.grownBy w' none → (Builtin.append_ #[t, t] o.type #[.slice a n n, .slice (some ⟨yb, yo, none⟩) m c]).run C.P w = .ok v' w' →
      ∃ v w', (execOp (ev ρ) o).run C.P w = .ok (.value v) w' ∧ ∃ H', Sees C.O H' w' ∧ Own H' H.size e size v (n + m) (fr (l ++ l')) ∧ Ext H H' := fun v' w' hown hg hr => by
    refine ⟨v', w', ?_, w'.heap, ⟨rfl, hg.tape.trans hs.2.1, hg.os.trans hs.2.2.1, hg.output.trans hs.2.2.2⟩, ?_, ⟨by rw [← hs.1]; exact hg.size, fun i hi => by rw [← hs.1]; exact hg.block i (by rw [hs.1]; exact hi) (by simp)⟩⟩
    · simp only [execOp, ho, resolve, invoke, builtin, Sem.run_bind, Sem.run_pure, Result.andThen_ok, List.map_toArray, List.map_cons, List.map_nil, hx, hy, hr]
    · rw [fr_app, ← hs.1]; exact (own_iff (O := Outer.of w') ⟨rfl, rfl, rfl, rfl⟩ ..).1 hown
  cases ha : a with
  | none =>
    have hn0 : n = 0 := hna ha
    subst hn0
    obtain rfl : l = [] := List.length_eq_zero_iff.1 hn
    obtain ⟨v', w', hr, hown, hg, _⟩ := run_append_own_at (P := C.P) w w.heap.size t o.type e i zero size bytes ht.h i1 i4 i2 i3 hzs hsz (.slice none 0 0) 0 [] (World.ownsRow_nil w _ e size) ⟨yb, yo, none⟩ m c (fr l') hlen' hyc hone (by unfold maxLen; exact h63) hby (Nat.le_refl _)
    subst ha
    exact fin v' w' (by simpa [fr] using hown) (by simpa [Value.ownBlock] using hg) hr
  | some ad =>
    have holds : ∀ j u, (fr l)[j]? = some u → w.cell? (ad.add j) = some u := fun j u hj => by
      rcases rowOf hR with h0 | ⟨b, off, h1, h2⟩
      · rw [h0] at hj; simp [fr] at hj
      · rw [ha] at h1; cases h1; rw [addr_add, cell_cellAt hs]; exact h2 j u hj
    obtain ⟨v', w', hr, hown, hg⟩ := run_append_arg_grows (P := C.P) w t o.type e i zero size bytes ht.h i1 i4 i2 i3 hzs hsz ad n n (fr l) (by rw [fr_len hR.wide, hn]) holds ⟨yb, yo, none⟩ m c (fr l') hlen' hyc (by omega) (by unfold maxLen; exact h63) hby
    subst ha
    exact fin v' w' hown hg hr)
/-- Rows, or none, behind a slice of one's own. -/
theorem hv_append_rows {x y : Operand} {t e : TypeId} {agg : Bool} {size bytes : Nat} {zero : Value} {ya : Option Addr} {base n m c : Nat} {v : Value} {l l' : List (List Int)} [ht : Und C.P t (.slice e)] [hi : Inf C.P e agg size bytes zero]
    (ho : o.op = .call { callee := .builtin .append, args := #[x, y], argTypes := #[t, t] }) (hx : ev ρ x = v) (hown : Own H base e size v n (fr l))
    (hy : ev ρ y = .slice ya m c) (hm : l'.length = m) (hR' : RowsT H e size ya l')
    (hzs : zero.cells.size = size) (hsz : 0 < size) (h63 : n + m ≤ 9223372036854775807) (hby : (n + m) * bytes ≤ 140737488355328) (hbase : base ≤ H.size) :
    HV C o ρ H (fun v' H' => Own H' base e size v' (n + m) (fr (l ++ l')) ∧ Gr v.ownBlock H H') := by
  rcases rowOf hR' with h0 | ⟨yb, yo, rfl, hyr⟩
  · subst h0
    obtain rfl : m = 0 := by simpa using hm.symm
    intro w hs
    obtain ⟨i, i1, i2, i3, i4⟩ := hi.i
    obtain ⟨a', c', hv⟩ := hown.val
    have hle : n ≤ c' := by
      rcases hown.2 with ⟨h1, h2⟩ | ⟨g, cap, cur, h1, _, _, h4, _⟩
      · omega
      · rw [hv] at h1; cases h1; exact h4
    refine .inl ⟨v, w, ?_, H, hs, by simpa using hown, ⟨Nat.le_refl _, fun _ _ _ => rfl⟩⟩
    have hr := run_append_none (P := C.P) (w := w) (ty := o.type) ht.h i1 a' ya n c' c hle
    simp only [execOp, ho, resolve, invoke, builtin, Sem.run_bind, Sem.run_pure, Result.andThen_ok, List.map_toArray, List.map_cons, List.map_nil, hx, hy, hv, hr]
  · have h := hv_append (C := C) (ρ := ρ) (H := H) ho hx hown hy hyr (by rw [fr_len hR'.wide, hm]) (fr_one l') hzs hsz h63 hby hbase
    intro w hs
    rcases h w hs with ⟨v', w', h1, H', h2, h3, h4, _⟩ | ⟨f, A, h1, _⟩ | ⟨w', H', h1, _⟩
    · exact .inl ⟨v', w', h1, H', h2, by rw [fr_app]; exact h3, h4⟩
    all_goals
      exfalso
      simp only [execOp, ho, resolve, invoke, builtin, Sem.run_bind, Sem.run_pure, Result.andThen_ok] at h1
      cases hb : (Builtin.append_ #[t, t] o.type (#[x, y].map (ev ρ))).run C.P w with
      | ok a b => rw [hb] at h1; simp at h1
      | halt a b => rw [hb] at h1; simp [Result.andThen] at h1
/-- Rows, or none, behind rows that are full. -/
theorem hv_append_both {x y : Operand} {t e : TypeId} {agg : Bool} {size bytes : Nat} {zero : Value} {a ya : Option Addr} {n m c : Nat} {l l' : List (List Int)} [ht : Und C.P t (.slice e)] [hi : Inf C.P e agg size bytes zero]
    (ho : o.op = .call { callee := .builtin .append, args := #[x, y], argTypes := #[t, t] }) (hx : ev ρ x = .slice a n n) (hn : l.length = n) (hR : RowsT H e size a l)
    (hy : ev ρ y = .slice ya m c) (hm : l'.length = m) (hR' : RowsT H e size ya l')
    (hzs : zero.cells.size = size) (hsz : 0 < size) (h63 : n + m ≤ 9223372036854775807) (hby : (n + m) * bytes ≤ 140737488355328) (hna : a = none → n = 0) :
    HV C o ρ H (fun v' H' => ∃ a' c', v' = .slice a' (n + m) c' ∧ n + m ≤ c' ∧ (a' = none → c' = 0) ∧ RowsT H' e size a' (l ++ l') ∧ Ext H H') := by
  by_cases h0 : m = 0
  · subst h0
    obtain rfl : l' = [] := List.length_eq_zero_iff.1 hm
    intro w hs
    obtain ⟨i, i1, i2, i3, i4⟩ := hi.i
    refine .inl ⟨.slice a n n, w, ?_, H, hs, a, n, rfl, by omega, hna, by simpa using hR, Ext.refl _⟩
    have hr := run_append_none (P := C.P) (w := w) (ty := o.type) ht.h i1 a ya n n c (Nat.le_refl _)
    simp only [execOp, ho, resolve, invoke, builtin, Sem.run_bind, Sem.run_pure, Result.andThen_ok, List.map_toArray, List.map_cons, List.map_nil, hx, hy, hr]
  · have h := hv_append_full (C := C) (ρ := ρ) (H := H) ho hx hn hR hy hm hR' (by omega) hzs hsz h63 hby hna
    have fin : ∀ v' H', Own H' H.size e size v' (n + m) (fr (l ++ l')) → ∃ a' c', v' = .slice a' (n + m) c' ∧ n + m ≤ c' ∧ (a' = none → c' = 0) ∧ RowsT H' e size a' (l ++ l') := fun v' H' ho => by
      obtain ⟨a', c', hv⟩ := ho.val
      subst hv
      have hl : (l ++ l').length = n + m := by simp [hn, hm]
      refine ⟨a', c', rfl, ?_, fun h => own_cap ho h, own_rowsT (n := n + m) (c := c') (hR.wide.app hR'.wide) (by rw [hl]; exact ho)⟩
      rcases own_blk ho with ⟨_, h2⟩ | ⟨_, _, _, _, _, h2⟩
      · omega
      · exact h2
    intro w hs
    rcases h w hs with ⟨v', w', h1, H', h2, h3, h4⟩ | ⟨f, A, h1, _⟩ | ⟨w', H', h1, _⟩
    · obtain ⟨a', c', g1, g2, g3, g4⟩ := fin v' H' h3
      exact .inl ⟨v', w', h1, H', h2, a', c', g1, g2, g3, g4, h4⟩
    all_goals
      exfalso
      simp only [execOp, ho, resolve, invoke, builtin, Sem.run_bind, Sem.run_pure, Result.andThen_ok] at h1
      cases hb : (Builtin.append_ #[t, t] o.type (#[x, y].map (ev ρ))).run C.P w with
      | ok a b => rw [hb] at h1; simp at h1
      | halt a b => rw [hb] at h1; simp [Result.andThen] at h1
/-! A pair, built. -/
theorem setRange_split (vs ws zs : List Value) (h : zs.length = vs.length + ws.length) : setRange (setRange zs 0 vs) vs.length ws = vs ++ ws := by
  have h1 : zs = zs.take vs.length ++ zs.drop vs.length := (List.take_append_drop _ _).symm
  have e1 : setRange zs 0 vs = vs ++ zs.drop vs.length := by
    have := setRange_mid vs [] zs (by omega)
    simpa using this
  rw [e1]
  exact setRange_mid' ws vs (zs.drop vs.length) (by simp; omega)
theorem pv_build_pair {t : TypeId} {p q : Operand} {pl : List (Nat × Nat)} {size bytes : Nat} {zs xs ys : List Value} {u v : Value} [hP : Places C.P t pl] [Inf C.P t true size bytes (.agg zs.toArray)] (ho : o.op = .build t #[(0, p), (1, q)])
    (hp : ev ρ p = u) (hq : ev ρ q = v) (hu : vcells u = xs) (hv : vcells v = ys) (h0 : pl[0]? = some (0, xs.length)) (h1 : pl[1]? = some (xs.length, ys.length)) (hz : zs.length = xs.length + ys.length) : PV C o ρ (.agg (xs ++ ys).toArray) := by
  refine pv_build_s (qs := [(0, u), (1, v)]) (cs := xs ++ ys) ho (by simp [hp, hq]) ?_
  simp only [fillL, h0, h1, hu, hv]
  rw [if_pos ⟨trivial, by omega⟩, if_pos ⟨trivial, by rw [setRange_length]; omega⟩, setRange_split xs ys zs hz]
end
end Go.XG
namespace Go.XG
section
variable {H : Heap} {b t e k i j : Nat} {r : List Int} {cs : List Value} {a : Option Addr} {l : List (List Int)}
theorem ld_int (h : Blk H b (ints r) t) (hk : i < r.length) : cellAt H b (0 + i * 1) = some (.int .i64 (r.getD i 0)) := by
  rw [h.cell]; simp [ints, hk]
theorem ld_get (h : Blk H b (ints r) t) (hk : i < r.length) : cellAt H b i = some (.int .i64 (r.getD i 0)) := by
  rw [h.cell]; simp [ints, hk]
theorem ld_ky (h : Blk H b (ints r) t) (hr : 4 ≤ r.length) : Ld H b 0 true 4 (.agg (ints (ky r)).toArray) :=
  ⟨ints (ky r), rfl, by simp [ints]; omega, by
    have := h.part 0 4
    simpa [ints, List.map_take] using this⟩
theorem ld_ints (h : Blk H b (ints r) t) (hr : r.length = k) : Ld H b 0 true k (.agg (ints r).toArray) := ⟨ints r, rfl, by simpa [ints] using hr, h.row⟩
theorem RowsT.at (h : RowsT H e k a l) : ∃ ba off, 0 < l.length → a = some ⟨ba, off, none⟩ ∧ RowsAt H ba off k l := by
  rcases h.rows.2 with h0 | ⟨ba, off, h1, h2⟩
  · exact ⟨0, 0, fun h => by omega⟩
  · exact ⟨ba, off, fun _ => ⟨h1, h2⟩⟩
theorem ld_rky (h : RowsAt H b j k l) (hw : Wide k l) (hk : 4 ≤ k) (hi : i < l.length) : Ld H b (j + i * k) true 4 (.agg (ints (ky (gr l i))).toArray) :=
  ⟨ints (ky (gr l i)), rfl, (List.length_map _).trans (ky_len (hw.get hi) hk), fun x v hx => h i hi x v (by
    have hx' := hx
    simp only [ints, List.map_take] at hx' ⊢
    rw [List.getElem?_take] at hx'
    split at hx'
    · exact hx'
    · cases hx')⟩
theorem rowsT1 (h : Blk H b cs e) (hc : cs = ints r) (hr : r.length = k) : RowsT H e k (some ⟨b, 0, none⟩) [r] :=
  ⟨fun x hx => by simp at hx; rw [hx]; exact hr, .inr ⟨b, 0, cs, rfl, h, by
    subst hc
    have : (ints r).length = 1 * k := by simp [ints, hr]
    simp only [List.drop_zero, List.length_singleton, fr, List.flatMap_cons, List.flatMap_nil, List.append_nil]
    rw [← this, List.take_length]⟩⟩
end
theorem ints_app (a b : List Int) : ints a ++ ints b = ints (a ++ b) := by simp [ints]
theorem ints_ten {r : List Int} {n : Nat} (h : r.length = n) : (ints r).length = n := by simpa [ints] using h
end Go.XG
namespace Go.XG
theorem Yld.mono {P : Program} {O : Outer} {l : Nat} {xs : List Value} {H : Heap} {R R' : Bool → Heap → Prop} (h : Yld P O l xs H R) (hr : ∀ b H', R b H' → R' b H') : Yld P O l xs H R' :=
  fun w hs => (h w hs).mono fun _ _ ⟨b, H', e, s, r⟩ => ⟨b, H', e, s, hr b H' r⟩
section
variable {C : Cx} {o : Oper} {ρ : Env} {H : Heap}
theorem pv_maxn {x y : Operand} {ts : Array TypeId} {k : IntKind} {m n : Nat} (ho : o.op = .call { callee := .builtin .max, args := #[x, y], argTypes := ts }) (hx : ev ρ x = .int k (m : Int)) (hy : ev ρ y = .int k (n : Int)) : PV C o ρ (.int k ((max m n : Nat) : Int)) := by
  have h := pv_max (C := C) ho hx hy
  have e : max (m : Int) (n : Int) = ((max m n : Nat) : Int) := by omega
  rw [e] at h; exact h
end
theorem del_has {l : List (List Int)} {k : List Int} (h : hasK l k = true) : delR l k = l.take (bel l k) ++ l.drop (bel l k + 1) := by unfold delR; rw [if_pos h]
theorem del_no {l : List (List Int)} {k : List Int} (h : hasK l k = false) : delR l k = l := by unfold delR; rw [if_neg (by rw [h]; decide)]
theorem frf_take {l : List (List Int)} {i : Nat} (f : List Int → List Int) (h : i < l.length) : fr ((l.take (i + 1)).map f) = fr ((l.take i).map f) ++ ints (f (gr l i)) := by
  rw [take_gr h, List.map_append, fr_app]; simp [fr]
theorem frs_take {l : List (List Int)} {i : Nat} (h : i < l.length) : fr (l.take (i + 1)) = fr (l.take i) ++ ints (gr l i) := by
  rw [take_gr h, fr_app]; simp [fr]
theorem wide_ky {l : List (List Int)} {m : Nat} (h : Wide m l) (hm : 4 ≤ m) : Wide 4 (l.map ky) := fun r hr => by
  obtain ⟨x, hx, rfl⟩ := List.mem_map.1 hr
  exact ky_len (h x hx) hm
theorem rng_len {l : List (List Int)} {a b : List Int} : max (bel l a) (bel l b) - bel l a = (rngR l a b).length := by
  have h1 := bel_le l a; have h2 := bel_le l b
  unfold rngR; simp; omega
theorem ints_mem (r : List Int) : ∀ u ∈ ints r, u.oneCell' = true := List.all_eq_true.1 (ints_one r)
end Go.XG
namespace Go.XG
theorem row_pair {r : List Int} (h : r.length = 5) : ints (ky r) ++ [.int .i64 (r.getD 4 0)] = ints r := by
  match r, h with
  | [_, _, _, _, _], _ => rfl
end Go.XG
