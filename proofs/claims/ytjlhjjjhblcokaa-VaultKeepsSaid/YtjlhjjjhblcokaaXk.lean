/-
  XG, part k: what an object holds of memory, and what is off it.
-/
import Derived.Test.YtjlhjjjhblcokaaXm
import Derived.Laws.Externs
namespace Go.XG
/-- Of what was there only blocks of F have turned. -/
structure KeepF (F : Nat → Prop) (H H' : Heap) : Prop where
  size : H.size ≤ H'.size
  same : ∀ i, i < H.size → ¬ F i → H'[i]? = H[i]?
/-- What is held behind it was held ahead of it, or is new. -/
def Grown (F F' : Nat → Prop) (H : Heap) : Prop := ∀ i, F' i → F i ∨ H.size ≤ i
section
variable {F F' F2 : Nat → Prop} {H H1 H2 : Heap} {a : Option Addr} {b b' k n : Nat} {l : List (List Int)} {cs : List Value} {t : TypeId}
theorem KeepF.refl (F : Nat → Prop) (H : Heap) : KeepF F H H := ⟨Nat.le_refl _, fun _ _ _ => rfl⟩
theorem KeepF.trans (h : KeepF F H H1) (k : KeepF F H1 H2) : KeepF F H H2 :=
  ⟨Nat.le_trans h.size k.size, fun i hi hf => (k.same i (Nat.lt_of_lt_of_le hi h.size) hf).trans (h.same i hi hf)⟩
theorem KeepF.transE (h : KeepF F H H1) (e : Ext H1 H2) : KeepF F H H2 := h.trans ⟨e.size, fun i hi _ => e.same i hi⟩
theorem KeepF.own (h : KeepF F H H1) (u : But b H1 H2) (hf : F b) : KeepF F H H2 := h.trans ⟨u.size, fun i hi hn => u.same i hi (fun e => hn (e ▸ hf))⟩
theorem KeepF.upd (h : KeepF F H H1) (u : But b H1 H2) (f : Fresh H b) : KeepF F H H2 :=
  ⟨Nat.le_trans h.size u.size, fun i hi hf => (u.same i (Nat.lt_of_lt_of_le hi h.size) (by have := f.le; omega)).trans (h.same i hi hf)⟩
theorem KeepF.fresh (h : KeepF F H H1) (n : New H1 H2 b cs t) : Fresh H b := ⟨Nat.le_trans h.size n.ge⟩
theorem KeepF.freshM {kv : List Int → Value} {es : Ents} (h : KeepF F H H1) (k : NewM H1 H2 b kv n es) : Fresh H b := ⟨Nat.le_trans h.size k.ge⟩
theorem KeepF.grown {v : Value} (h : KeepF F H H1) (g : Gr v.ownBlock H1 H2) (hf : ∀ i, v.ownBlock = some i → F i ∨ H.size ≤ i) : KeepF F H H2 :=
  ⟨Nat.le_trans h.size g.size, fun i hi hn => (g.same i (Nat.lt_of_lt_of_le hi h.size) (fun e => by rcases hf i e.symm with h1 | h1; exact hn h1; omega)).trans (h.same i hi hn)⟩
theorem KeepF.step (h : KeepF F H H1) (g : Grown F F' H) (k : KeepF F' H1 H2) : KeepF F H H2 :=
  ⟨Nat.le_trans h.size k.size, fun i hi hn => (k.same i (Nat.lt_of_lt_of_le hi h.size) (fun hf => by rcases g i hf with h1 | h1; exact hn h1; omega)).trans (h.same i hi hn)⟩
theorem Grown.refl (F : Nat → Prop) (H : Heap) : Grown F F H := fun _ h => .inl h
theorem Grown.trans (h : Grown F F' H) (k : Grown F' F2 H1) (hs : H.size ≤ H1.size) : Grown F F2 H := fun i hi => by
  rcases k i hi with h1 | h1
  · exact h i h1
  · exact .inr (Nat.le_trans hs h1)
/-- What is held by an object that is itself new. -/
theorem Ext.keep (h : Ext H H1) (k : KeepF F H1 H2) (hf : ∀ i, F i → H.size ≤ i) : Ext H H2 :=
  ⟨Nat.le_trans h.size k.size, fun i hi => (k.same i (Nat.lt_of_lt_of_le hi h.size) (fun e => by have := hf i e; omega)).trans (h.same i hi)⟩
theorem Ext.keepB (h : Ext H H1) (k : KeepF F H1 H2) {B : Nat} (hf : ∀ i, F i → B ≤ i) (hB : H.size ≤ B) : Ext H H2 := h.keep k fun i hi => Nat.le_trans hB (hf i hi)
theorem Blk.keep (h : Blk H b cs t) (k : KeepF F H H1) (hn : ¬ F b) : Blk H1 b cs t := (k.same b h.lt hn).trans h
/-- Rows that lie off what F holds. -/
structure RowsF (F : Nat → Prop) (H : Heap) (a : Option Addr) (k : Nat) (l : List (List Int)) : Prop where
  rows : Rows H a k l
  off : ∀ b o, a = some ⟨b, o, none⟩ → l.length ≠ 0 → ¬ F b
theorem rows_split {ad : Addr} (h : Rows H (some ad) k l) : l = [] ∨ ∃ ba o, ad = ⟨ba, o, none⟩ ∧ RowsAt H ba o k l := by
  rcases h.2 with h0 | ⟨b, o, h1, h2⟩
  · exact .inl (List.length_eq_zero_iff.1 h0)
  · injection h1 with h1; exact .inr ⟨b, o, h1, h2⟩
/-- A slice whose cells are new. -/
def NewA (H : Heap) (a : Option Addr) : Prop := ∀ b o, a = some ⟨b, o, none⟩ → H.size ≤ b
theorem rowsAt_lt {o : Nat} (h : RowsAt H b o k l) (hw : Wide k l) (hk : 0 < k) (hl : l.length ≠ 0) : b < H.size := by
  have h0 := h 0 (by omega)
  have hw0 := hw.get (i := 0) (by omega)
  match hg : gr l 0, hw0 with
  | [], hw0 => simp at hw0; omega
  | x :: r, _ =>
    rw [hg] at h0
    exact cellAt_lt (h0 0 (.int .i64 x) rfl)
theorem rowsAt_keep {o : Nat} (h : RowsAt H b o k l) (kf : KeepF F H H1) (hn : ¬ F b) : RowsAt H1 b o k l := fun i hi j v hj => by
  have h1 := h i hi j v hj
  have := kf.same b (cellAt_lt h1) hn
  unfold cellAt at *
  rw [this]; exact h1
theorem RowsF.ext (h : RowsF F H a k l) (e : Ext H H1) : RowsF F H1 a k l := ⟨h.rows.ext e, h.off⟩
theorem RowsF.step (h : RowsF F H a k l) (hk : 0 < k) (kf : KeepF F H H1) (g : Grown F F' H) : RowsF F' H1 a k l := by
  refine ⟨⟨h.rows.1, ?_⟩, fun b o ha hl hf => ?_⟩
  · rcases h.rows.2 with h0 | ⟨b, o, h1, h2⟩
    · exact .inl h0
    · by_cases hl : l.length = 0
      · exact .inl hl
      · exact .inr ⟨b, o, h1, rowsAt_keep h2 kf (h.off b o h1 hl)⟩
  · rcases h.rows.2 with h0 | ⟨b2, o2, h1, h2⟩
    · exact hl h0
    · rw [h1] at ha; injection ha with ha; injection ha with e1 e2; subst e1
      rcases g b2 hf with h3 | h3
      · exact h.off b2 o2 h1 hl h3
      · have := rowsAt_lt h2 h.rows.1 hk hl; omega
theorem RowsF.new (h : Rows H1 a k l) (hn : NewA H a) (hf : ∀ i, F i → i < H.size) : RowsF F H1 a k l := ⟨h, fun b o ha _ hF => by have := hn b o ha; have := hf b hF; omega⟩
theorem wide_nil {k : Nat} : Wide k [] := fun r hr => (by cases hr)
theorem rows_nil : Rows H a k [] := ⟨fun r hr => (by cases hr), .inl rfl⟩
theorem newA_none : NewA H none := fun b o h => by cases h
theorem own_new {base e size c : Nat} {xs : List Value} (h : Own H1 base e size (.slice a n c) n xs) (hb : H.size ≤ base) : NewA H a := fun b o ha => by
  rcases h.2 with ⟨h2, _⟩ | ⟨g, cap, cur, h1, h2, _⟩
  · injection h2 with h2; rw [h2] at ha; cases ha
  · injection h1 with h1; rw [h1] at ha; injection ha with ha; injection ha with e1 e2; omega
theorem NewA.le (h : NewA H1 a) (hs : H.size ≤ H1.size) : NewA H a := fun b o ha => Nat.le_trans hs (h b o ha)
/-- A slice of one's own of nothing, with a block. -/
theorem own_empty (h : Blk H b [] t) {base size : Nat} (hb : base ≤ b) : Own H base t size (.slice (some ⟨b, 0, none⟩) 0 0) 0 [] :=
  ⟨by simp, .inr ⟨b, 0, #[], rfl, hb, h, Nat.le_refl _, Nat.zero_le _, by simp, by simp⟩⟩
theorem own_cap {base e size c : Nat} {xs : List Value} (h : Own H base e size (.slice a n c) n xs) (ha : a = none) : c = 0 := by
  rcases h.2 with ⟨h2, _⟩ | ⟨g, cap, cur, h1, _⟩
  · injection h2
  · injection h1 with h1; rw [ha] at h1; cases h1
/-- The block of a slice of one's own, whole. -/
theorem own_blk {base e size c : Nat} {xs : List Value} (h : Own H base e size (.slice a n c) n xs) : (a = none ∧ n = 0) ∨ ∃ g ex, a = some ⟨g, 0, none⟩ ∧ Blk H g (xs ++ ex) e ∧ base ≤ g ∧ n ≤ c := by
  rcases h.2 with ⟨h2, h3⟩ | ⟨g, cap, cur, h1, h2, h3, h4, _, _, h6⟩
  · injection h2 with h2; exact .inl ⟨h2, h3⟩
  · injection h1 with h1 h5 h7
    refine .inr ⟨g, cur.toList.drop (n * size), h1, ?_, h2, by omega⟩
    unfold Blk
    rw [h3, ← h6, List.take_append_drop]
end
theorem run_equalIn_sn {P : Program} (w : World) (d : Nat) (t e : TypeId) (a : Option Addr) (l c : Nat) (h : P.underlying t = some (.slice e)) : (Op.equalIn (d + 1) t (.slice a l c) (.slice none 0 0)).run P w = .ok a.isNone w := by
  cases a <;> simp [Op.equalIn, run_underlying h]
theorem run_eql_sn {P : Program} (w : World) (t e : TypeId) (a : Option Addr) (l c : Nat) (h : P.underlying t = some (.slice e)) : (binOp .eql t (.slice a l c) (.slice none 0 0)).run P w = .ok (.bool a.isNone) w := by
  have : (Op.equal t (.slice a l c) (.slice none 0 0)).run P w = .ok a.isNone w := run_equalIn_sn w 9999 t e a l c h
  simp [binOp, this]
section
variable {C : Cx} {o : Oper} {ρ : Env} {H : Heap}
/-- An append of nothing. -/
theorem hv_append_e {x y : Operand} {t e : TypeId} {agg : Bool} {size bytes : Nat} {zero : Value} {base n c : Nat} {a : Addr} {v : Value} {xs : List Value} [ht : Und C.P t (.slice e)] [hi : Inf C.P e agg size bytes zero]
    (ho : o.op = .call { callee := .builtin .append, args := #[x, y], argTypes := #[t, t] }) (hx : ev ρ x = v) (hown : Own H base e size v n xs)
    (hy : ev ρ y = .slice (some a) 0 c)
    (hzs : zero.cells.size = size) (hsz : 0 < size) (h63 : n ≤ 9223372036854775807) (hby : n * bytes ≤ 140737488355328) (hbase : base ≤ H.size) :
    HV C o ρ H (fun v' H' => Own H' base e size v' n xs ∧ Gr v.ownBlock H H' ∧ (v' = .slice none 0 0 ↔ v = .slice none 0 0) ∧ (v'.ownBlock = v.ownBlock ∨ v'.ownBlock = some H.size)) := fun w hs => .inl (by
  obtain ⟨i, i1, i2, i3, i4⟩ := hi.i
  obtain ⟨v', w', hr, hown', hg, hn, hb'⟩ := run_append_own_at (P := C.P) w base t o.type e i zero size bytes ht.h i1 i4 i2 i3 hzs hsz v n xs ((own_iff hs ..).2 hown) a 0 c [] (by simp)
    (fun j u hj => by simp at hj) (fun u hu => by cases hu) (by unfold maxLen; exact h63) (by simpa using hby) (by rw [hs.1]; exact hbase)
  rw [List.append_nil, Nat.add_zero] at hown'
  refine ⟨v', w', ?_, w'.heap, ⟨rfl, hg.tape.trans hs.2.1, hg.os.trans hs.2.2.1, hg.output.trans hs.2.2.2⟩, (own_iff (O := Outer.of w') ⟨rfl, rfl, rfl, rfl⟩ ..).1 hown', ⟨by rw [← hs.1]; exact hg.size, fun i hi hne => by rw [← hs.1]; exact hg.block i (by rw [hs.1]; exact hi) hne⟩, by simpa using hn, by rw [← hs.1]; exact hb'⟩
  simp only [execOp, ho, resolve, invoke, builtin, Sem.run_bind, Sem.run_pure, Result.andThen_ok, List.map_toArray, List.map_cons, List.map_nil, hx, hy, hr])
theorem pv_eql_sn {x y : Operand} {t u e : TypeId} {a : Option Addr} {n c : Nat} [hu : Und C.P t (.slice e)] (ho : o.op = .binOp .eql t x y u) (hx : ev ρ x = .slice a n c) (hy : ev ρ y = .slice none 0 0) : PV C o ρ (.bool a.isNone) := fun w => by
  have := run_eql_sn (P := C.P) w t e a n c hu.h
  simp [execOp, ho, hx, hy, eqGuard, this]
theorem lv_lookup_s {x y : Operand} {t k e : TypeId} {b n bytes : Nat} {kv : List Int → Value} {ns : List Int} {es : Ents} {r : Int} [Und C.P t (.map k e)] [hK : MapKey C.P k kv n] [Inf C.P e false 1 bytes (.int .i64 0)] (ho : o.op = .lookup t x y true) (hx : ev ρ x = .map (some b)) (hy : ev ρ y = kv ns)
    (hn : ns.length = n) (hm : MapAt H b kv n es) (hr : look es ns = some r) : LV C o ρ H (.tuple #[.int .i64 r, .bool true]) := by
  have := lv_lookup (C := C) ho hx hy hn hm
  rw [hr] at this; exact this
theorem lv_lookup_f {x y : Operand} {t k e : TypeId} {b n bytes : Nat} {kv : List Int → Value} {ns : List Int} {es : Ents} [Und C.P t (.map k e)] [hK : MapKey C.P k kv n] [Inf C.P e false 1 bytes (.int .i64 0)] (ho : o.op = .lookup t x y true) (hx : ev ρ x = .map (some b)) (hy : ev ρ y = kv ns)
    (hn : ns.length = n) (hm : MapAt H b kv n es) (hr : look es ns = none) : LV C o ρ H (.tuple #[.int .i64 0, .bool false]) := by
  have := lv_lookup (C := C) ho hx hy hn hm
  rw [hr] at this; exact this
end
theorem Own.offM {H H1 : Heap} {base e size m b n : Nat} {v : Value} {xs : List Value} {kv : List Int → Value} {es : Ents} (h : Own H base e size v m xs) (hm : MapAt H b kv n es) (u : But b H H1) : Own H1 base e size v m xs := by
  refine ⟨h.1, ?_⟩
  rcases h.2 with h2 | ⟨g, cap, cur, h1, h2, h3, h4⟩
  · exact .inl h2
  · refine .inr ⟨g, cap, cur, h1, h2, (u.same g (lt_of_get h3) ?_).trans h3, h4⟩
    intro hg
    obtain ⟨ms, c, h5, _⟩ := hm.h
    rw [hg, h5] at h3
    cases h3
end Go.XG
namespace Go.XG
section
variable {C : Cx} {o : Oper} {ρ : Env} {H : Heap}
theorem hv_append_n {x y : Operand} {t e : TypeId} {agg : Bool} {size bytes : Nat} {zero : Value} {base n : Nat} {v : Value} {xs : List Value} [ht : Und C.P t (.slice e)] [hi : Inf C.P e agg size bytes zero]
    (ho : o.op = .call { callee := .builtin .append, args := #[x, y], argTypes := #[t, t] }) (hx : ev ρ x = v) (hown : Own H base e size v n xs) (hy : ev ρ y = .slice none 0 0) :
    HV C o ρ H (fun v' H' => v' = v ∧ H = H') := fun w hs => .inl (by
  obtain ⟨i, i1, i2, i3, i4⟩ := hi.i
  have hrun := run_append_owned_none (P := C.P) (w := w) base t o.type e i size ht.h i1 v n xs ((own_iff hs ..).2 hown)
  refine ⟨v, w, ?_, H, hs, rfl, rfl⟩
  simp only [execOp, ho, resolve, invoke, builtin, Sem.run_bind, Sem.run_pure, Result.andThen_ok, List.map_toArray, List.map_cons, List.map_nil, hx, hy]
  simp only [hrun, Result.andThen_ok, Sem.run_pure])
end
theorem rowsAt_row {H : Heap} {b k : Nat} : ∀ {l : List (List Int)} {off : Nat}, Wide k l → RowsAt H b off k l → Row H b off (fr l)
  | [], _, _, _ => fun j v hj => by simp [fr] at hj
  | r :: l, off, hw, h => fun j v hj => by
    have h1 : r.length = k := hw r (by simp)
    have hj' : (ints r ++ fr l)[j]? = some v := hj
    by_cases hlt : j < (ints r).length
    · rw [List.getElem?_append_left hlt] at hj'
      have := h 0 (by simp) j v (by simpa [gr] using hj')
      simpa using this
    · have hlen : (ints r).length = k := by simp [ints, h1]
      rw [List.getElem?_append_right (by omega)] at hj'
      have ih := rowsAt_row (off := off + k) (l := l) (fun x hx => hw x (by simp [hx])) (fun i hi => by
        have := h (i + 1) (by simpa using hi)
        rw [show off + (i + 1) * k = off + k + i * k by rw [Nat.add_mul]; omega] at this
        have e : gr (r :: l) (i + 1) = gr l i := by simp [gr]
        rw [e] at this
        exact this) (j - (ints r).length) v hj'
      rw [show off + j = off + k + (j - (ints r).length) by omega]
      exact ih
theorem fr_one (l : List (List Int)) : ∀ u ∈ fr l, u.oneCell' = true := fun u hu => by
  simp [fr, ints] at hu
  obtain ⟨r, _, x, _, rfl⟩ := hu
  rfl
theorem lastIx {n : Nat} (h : 0 < n) : ((n : Int) - 1).toNat = n - 1 := by omega
end Go.XG
namespace Go.XG
theorem own_split {H : Heap} {base e size c : Nat} {a : Option Addr} {l : List (List Int)} {xs : List Value} (h : Own H base e size (.slice a l.length c) l.length xs) :
    (a = none ∧ l = [] ∧ c = 0) ∨ ∃ g ex, a = some ⟨g, 0, none⟩ ∧ Blk H g (xs ++ ex) e ∧ base ≤ g ∧ l.length ≤ c := by
  rcases own_blk h with ⟨h1, h2⟩ | h1
  · exact .inl ⟨h1, List.length_eq_zero_iff.1 h2, own_cap h h1⟩
  · exact .inr h1
section
variable {C : Cx} {o : Oper} {ρ : Env} {H : Heap}
/-- A body-less function that the model stands in for. -/
theorem hv_extern {f : Operand} {as : Array Operand} {ts : Array TypeId} {g : FuncId} {fn : Func} {e : Array Value → Sem Value} {A : List Value} {R : Value → Heap → Prop} (ho : o.op = .call { callee := .value f, args := as, argTypes := ts })
    (hf : ev ρ f = .func (.func g) #[] #[]) (hA : as.toList.map (ev ρ) = A) (hg : C.P.funcs[g]? = some fn) (h1 : (fn.name == "runtime.NumGoroutine") = false) (h2 : fn.body.isNone = true) (h3 : Extern.findNext fn = none) (h4 : Extern.find fn = some e)
    (h : ∀ w, Sees C.O H w → ∃ v w' H', (e A.toArray).run C.P w = .ok v w' ∧ Sees C.O H' w' ∧ R v H') : HV C o ρ H R := fun w hs => .inl (by
  obtain ⟨v, w', H', hr, hs', hR⟩ := h w hs
  have hA' : as.map (ev ρ) = A.toArray := by rw [← hA]; apply Array.ext'; simp
  refine ⟨v, w', ?_, H', hs', hR⟩
  have hc := run_callFunc_extern (P := C.P) hg h1 h2 h3 h4 A.toArray w
  rw [hr] at hc
  simp only [Result.andThen_ok] at hc
  simp only [execOp, ho, resolve, hf, Deferred.ofValue, invoke, Sem.run_bind, Sem.run_pure, Result.andThen_ok, hA', Array.empty_append, Array.append_empty]
  simpa using hc)
theorem run_mapsClone {P : Program} {O : Outer} {w : World} {t : TypeId} {b n : Nat} {kv : List Int → Value} {es : Ents} (hs : Sees O H w) (hm : MapAt H b kv n es) :
    ∃ v w' H', (Extern.MapsClone.clone [Value.iface t (.map (some b))].toArray).run P w = .ok v w' ∧ Sees O H' w' ∧ ∃ b', v = .iface t (.map (some b')) ∧ NewM H H' b' kv n es := by
  obtain ⟨ms, c, h1, h2⟩ := hm.h
  refine ⟨_, _, _, ?_, sees_push hs (.map ms c), H.size, rfl, newM_push H ms c kv n es hm.wide h2⟩
  have e : Extern.MapsClone.clone [Value.iface t (.map (some b))].toArray = (getObj b >>= fun o => match o with
      | .map entries clock => (newObj (.map entries clock) >>= fun n => pure (.iface t (.map (some n))))
      | _ => stuck "maps.clone: a map expected") := rfl
  rw [e]
  simp only [Sem.run_bind, run_getObj_at hs h1, Result.andThen_ok, run_newObj, Sem.run_pure, hs.1]
theorem pv_typeAssert {x : Operand} {xt t k e : TypeId} {v : Value} [hu : Und C.P t (.map k e)] (ho : o.op = .typeAssert x xt t false) (hx : ev ρ x = .iface t v) : PV C o ρ v := fun w => by
  simp [execOp, ho, hx, Instr.typeAssert, Und.run]
end
end Go.XG
namespace Go.XG
theorem sl_eq {a : Option Addr} {x : Addr} {n c : Nat} (h : a = some x) : Value.slice a n c = .slice (some x) n c := by rw [h]
end Go.XG
