/-
  XG, part j: 'delete' of a map; maps from numbers to numbers, as functions.
-/
import Derived.Test.YtjlhjjjhblcokaaXi
namespace Go.XG
theorem era_map {α β : Type} (f : α → β) : ∀ (l : List α) (i : Nat), (l.map f).eraseIdx i = (l.eraseIdx i).map f
  | [], _ => rfl
  | _ :: _, 0 => rfl
  | a :: l, i + 1 => by simp [era_map f l i]
theorem del_at : ∀ (es : Ents) (ns : List Int), (ns ∉ es.map (·.1) → delE es ns = es) ∧ ∀ i : Nat, (es.map (·.1))[i]? = some ns → (∀ j, j < i → (es.map (·.1))[j]? ≠ some ns) → delE es ns = es.eraseIdx i
  | [], ns => ⟨fun _ => rfl, fun i h => by simp at h⟩
  | p :: es, ns => by
    obtain ⟨h1, h2⟩ := del_at es ns
    constructor
    · intro h
      simp at h
      simp only [delE]
      rw [if_neg h.1, h1 (by simpa using h.2)]
    · intro i hi hj
      cases i with
      | zero =>
        simp at hi
        subst hi
        simp [delE]
      | succ i =>
        have h0 := hj 0 (by omega)
        simp at h0
        simp only [List.map_cons, List.getElem?_cons_succ] at hi
        have h3 := h2 i hi (fun j hj' => by have := hj (j + 1) (by omega); simpa using this)
        simp only [delE]
        rw [if_neg (fun e => h0 e.symm), h3]
        rfl
theorem del_mem {es : Ents} {k : List Int} {p : List Int × Int} (h : p ∈ delE es k) : p ∈ es := by
  induction es with
  | nil => exact h
  | cons q es ih =>
    unfold delE at h
    split at h
    · exact List.mem_cons_of_mem _ h
    · rcases List.mem_cons.1 h with rfl | h
      · exact List.mem_cons_self ..
      · exact List.mem_cons_of_mem _ (ih h)
section
variable {C : Cx} {o : Oper} {ρ : Env} {H : Heap}
theorem hv_delete {x y : Operand} {t tk k e : TypeId} {b n : Nat} {kv : List Int → Value} {ns : List Int} {es : Ents} [Und C.P t (.map k e)] [hK : MapKey C.P k kv n] (ho : o.op = .call { callee := .builtin .delete, args := #[x, y], argTypes := #[t, tk] }) (hx : ev ρ x = .map (some b)) (hy : ev ρ y = kv ns)
    (hn : ns.length = n) (hm : MapAt H b kv n es) : HV C o ρ H (fun _ H' => UpdM H H' b kv n (delE es ns)) := fun w hs => .inl (by
  obtain ⟨ms, c, h1, h2⟩ := hm.h
  have hkeys : ms.toList.map (·.key) = (es.map (·.1)).map kv := by
    have := congrArg (List.map Prod.fst) h2
    rw [List.map_map, List.map_map] at this
    rw [List.map_map]
    exact this
  obtain ⟨r, hr, hd⟩ := hK.find w ns (es.map (·.1)) ms.toList hn (fun k hk => by
    simp at hk; obtain ⟨v, hk⟩ := hk; exact hm.wide _ hk) hkeys
  obtain ⟨hp1, hp2⟩ := del_at es ns
  have hwd : ∀ p ∈ delE es ns, p.1.length = n := fun p hp => hm.wide p (del_mem hp)
  rcases hd with ⟨rfl, h3⟩ | ⟨i, x0, rfl, ⟨e0, h4, h5⟩, h6, h7⟩
  · obtain ⟨g1, g2, g3, g4⟩ := setObj_run (P := C.P) hs h1 (.map ms c)
    refine ⟨.tuple #[], _, ?_, _, g2, g3, hwd, _, _, g4, ?_⟩
    · simp [execOp, ho, hx, hy, resolve, invoke, builtin, Builtin.delete_, Und.run, run_getObj_at hs h1, hK.check _ _ _ hn, hr, g1]
    · rw [hp1 h3]; exact h2
  · have hil : i < ms.size := by have := (List.getElem?_eq_some_iff.1 h4).1; simpa using this
    obtain ⟨g1, g2, g3, g4⟩ := setObj_run (P := C.P) hs h1 (.map (ms.eraseIdxIfInBounds i) c)
    refine ⟨.tuple #[], _, ?_, _, g2, g3, hwd, _, _, g4, ?_⟩
    · simp [execOp, ho, hx, hy, resolve, invoke, builtin, Builtin.delete_, Und.run, run_getObj_at hs h1, hK.check _ _ _ hn, hr, g1]
    · rw [hp2 i h6 h7]
      have e1 : (ms.eraseIdxIfInBounds i).toList = ms.toList.eraseIdx i := by
        unfold Array.eraseIdxIfInBounds; rw [dif_pos hil]; simp
      rw [e1, ← era_map, h2, era_map])
end
/-- A map from numbers to numbers, as a function. -/
def MapI (H : Heap) (b : Nat) (f : Int → Option Int) : Prop := ∃ es, MapAt H b kvI 1 es ∧ (es.map (·.1)).Nodup ∧ ∀ j : Int, look es [j] = f j
theorem put_keys {es : Ents} {k : List Int} {v : Int} (h : (es.map (·.1)).Nodup) : ((putE es k v).map (·.1)).Nodup := by
  by_cases hk : k ∈ es.map (·.1)
  · have : (putE es k v).map (·.1) = es.map (·.1) := by
      clear h
      revert hk
      induction es with
      | nil => intro hk; simp at hk
      | cons p es ih =>
        intro hk
        unfold putE
        split
        · rename_i e; simp [e]
        · rename_i e
          simp only [List.map_cons, List.cons.injEq, true_and]
          exact ih (by simp only [List.map_cons, List.mem_cons] at hk; exact hk.resolve_left e)
    rw [this]; exact h
  · rw [(put_at es k v).1 hk, List.map_append]
    simp only [List.map_cons, List.map_nil]
    rw [List.nodup_append]
    exact ⟨h, by simp, fun a ha b hb => by simp at hb; subst hb; exact fun e => hk (e ▸ ha)⟩
theorem del_look {es : Ents} {k : List Int} (h : (es.map (·.1)).Nodup) : ((delE es k).map (·.1)).Nodup ∧ ∀ j, look (delE es k) j = if j = k then none else look es j := by
  induction es with
  | nil => exact ⟨h, fun j => by simp [delE, look]⟩
  | cons p es ih =>
    simp only [List.map_cons, List.nodup_cons] at h
    obtain ⟨h1, h2⟩ := ih h.2
    unfold delE
    split
    · rename_i e
      refine ⟨h.2, fun j => ?_⟩
      simp only [look]
      by_cases hj : j = k
      · rw [if_pos hj, hj, e]
        exact (look_find es p.1).1 h.1
      · rw [if_neg hj, if_neg (by rw [← e]; exact hj)]
    · rename_i e
      refine ⟨?_, fun j => ?_⟩
      · simp only [List.map_cons, List.nodup_cons]
        refine ⟨fun hm => h.1 ?_, h1⟩
        obtain ⟨q, hq, he⟩ := List.mem_map.1 hm
        exact List.mem_map.2 ⟨q, del_mem hq, he⟩
      · simp only [look, h2]
        by_cases hj : j = k
        · rw [if_pos hj, if_pos hj, if_neg (by rw [hj]; exact e)]
        · rw [if_neg hj, if_neg hj]
section
variable {H H1 : Heap} {b b' : Nat} {f : Int → Option Int} {cs : List Value} {t : TypeId}
theorem MapI.lt (h : MapI H b f) : b < H.size := by obtain ⟨es, h1, _⟩ := h; exact h1.lt
theorem MapI.ext (h : MapI H b f) (e : Ext H H1) : MapI H1 b f := by obtain ⟨es, h1, h2⟩ := h; exact ⟨es, h1.ext e, h2⟩
theorem MapI.off (h : MapI H b f) (u : But b' H H1) (a : Apart b b') : MapI H1 b f := by obtain ⟨es, h1, h2⟩ := h; exact ⟨es, h1.off u a, h2⟩
theorem MapI.apart (h : MapI H b f) (k : New H H1 b' cs t) : Apart b b' := by obtain ⟨es, h1, h2⟩ := h; exact h1.apart k
theorem MapI.blk (h : MapI H b f) (k : Blk H b' cs t) : Apart b' b := by obtain ⟨es, h1, h2⟩ := h; exact h1.blk k
theorem MapI.keep {F : Nat → Prop} (h : MapI H b f) (k : KeepF F H H1) (hf : ¬ F b) : MapI H1 b f := by
  obtain ⟨es, ⟨h1, ms, c, h2, h3⟩, h4⟩ := h
  exact ⟨es, ⟨h1, ms, c, (k.same b (lt_of_get h2) hf).trans h2, h3⟩, h4⟩
theorem MapI.offT (h : MapI H b f) (hb : Blk H b' cs t) (u : But b' H H1) (_ : Nat.beq t 3 = false) : MapI H1 b f := h.off u (Apart.symm (h.blk hb))
theorem MapI.growT {base size m : Nat} {e : TypeId} {v : Value} {xs : List Value} (h : MapI H b f) (o : Own H base e size v m xs) (g : Gr v.ownBlock H H1) (_ : Nat.beq 3 e = false) : MapI H1 b f := by
  obtain ⟨es, h1, h2⟩ := h; exact ⟨es, h1.grow o g, h2⟩
theorem MapI.put (h : MapI H b f) (j v : Int) : ∃ es, MapAt H b kvI 1 es ∧ ∀ H2, MapAt H2 b kvI 1 (putE es [j] v) → MapI H2 b (fun i => if i = j then some v else f i) := by
  obtain ⟨es, h1, h2, h3⟩ := h
  exact ⟨es, h1, fun H2 h4 => ⟨_, h4, put_keys h2, fun i => by rw [look_put, h3]; simp⟩⟩
theorem MapI.del (h : MapI H b f) (j : Int) : ∃ es, MapAt H b kvI 1 es ∧ ∀ H2, MapAt H2 b kvI 1 (delE es [j]) → MapI H2 b (fun i => if i = j then none else f i) := by
  obtain ⟨es, h1, h2, h3⟩ := h
  exact ⟨es, h1, fun H2 h4 => ⟨_, h4, (del_look h2).1, fun i => by rw [(del_look h2).2, h3]; simp⟩⟩
theorem mapI_new {es : Ents} (h : MapAt H b kvI 1 es) (h0 : es = []) : MapI H b (fun _ => none) := by subst h0; exact ⟨[], h, by simp, fun _ => rfl⟩
end
section
variable {C : Cx} {o : Oper} {ρ : Env} {H : Heap}
theorem hv_mono {R R' : Value → Heap → Prop} (h : HV C o ρ H R) (k : ∀ v H', R v H' → R' v H') : HV C o ρ H R' := fun w hs => (h w hs).imp (fun ⟨v, w', h1, H', h2, h3⟩ => ⟨v, w', h1, H', h2, k _ _ h3⟩)
  (fun h => h.imp (fun ⟨f, A, h1, h2⟩ => ⟨f, A, h1, h2.mono k⟩) (fun ⟨w', H', h1, h2, h3⟩ => ⟨w', H', h1, h2, k _ _ h3⟩))
theorem lv_lookI {x y : Operand} {t k e : TypeId} {b bytes : Nat} {f : Int → Option Int} {j : Int} [Und C.P t (.map k e)] [hK : MapKey C.P k kvI 1] [Inf C.P e false 1 bytes (.int .i64 0)] (ho : o.op = .lookup t x y true) (hx : ev ρ x = .map (some b)) (hy : ev ρ y = .int .i64 j)
    (hm : MapI H b f) : LV C o ρ H (.tuple #[.int .i64 ((f j).getD 0), .bool (f j).isSome]) := by
  obtain ⟨es, h1, h2, h3⟩ := hm
  rw [← h3 j]
  exact lv_lookup (ns := [j]) ho hx hy rfl h1
theorem lv_lookI_s {x y : Operand} {t k e : TypeId} {b bytes : Nat} {f : Int → Option Int} {j r : Int} [Und C.P t (.map k e)] [hK : MapKey C.P k kvI 1] [Inf C.P e false 1 bytes (.int .i64 0)] (ho : o.op = .lookup t x y true) (hx : ev ρ x = .map (some b)) (hy : ev ρ y = .int .i64 j)
    (hm : MapI H b f) (h : f j = some r) : LV C o ρ H (.tuple #[.int .i64 r, .bool true]) := by
  have := lv_lookI (C := C) ho hx hy hm
  rw [h] at this; exact this
theorem lv_lookI_n {x y : Operand} {t k e : TypeId} {b bytes : Nat} {f : Int → Option Int} {j : Int} [Und C.P t (.map k e)] [hK : MapKey C.P k kvI 1] [Inf C.P e false 1 bytes (.int .i64 0)] (ho : o.op = .lookup t x y true) (hx : ev ρ x = .map (some b)) (hy : ev ρ y = .int .i64 j)
    (hm : MapI H b f) (h : f j = none) : LV C o ρ H (.tuple #[.int .i64 0, .bool false]) := by
  have := lv_lookI (C := C) ho hx hy hm
  rw [h] at this; exact this
theorem hv_putI {x y z : Operand} {t k e : TypeId} {b : Nat} {f : Int → Option Int} {j u : Int} [Und C.P t (.map k e)] [hK : MapKey C.P k kvI 1] (ho : o.op = .mapUpdate t x y z) (hx : ev ρ x = .map (some b)) (hy : ev ρ y = .int .i64 j) (hz : ev ρ z = .int .i64 u)
    (hm : MapI H b f) : HV C o ρ H (fun _ H' => MapI H' b (fun i => if i = j then some u else f i) ∧ But b H H') := by
  obtain ⟨es, h1, h2⟩ := hm.put j u
  exact hv_mono (hv_mapUpdate (ns := [j]) ho hx hy hz rfl h1) fun v H' h => ⟨h2 _ h.map, h.but⟩
theorem hv_delI {x y : Operand} {t tk k e : TypeId} {b : Nat} {f : Int → Option Int} {j : Int} [Und C.P t (.map k e)] [hK : MapKey C.P k kvI 1] (ho : o.op = .call { callee := .builtin .delete, args := #[x, y], argTypes := #[t, tk] }) (hx : ev ρ x = .map (some b)) (hy : ev ρ y = .int .i64 j)
    (hm : MapI H b f) : HV C o ρ H (fun _ H' => MapI H' b (fun i => if i = j then none else f i) ∧ But b H H') := by
  obtain ⟨es, h1, h2⟩ := hm.del j
  exact hv_mono (hv_delete (ns := [j]) ho hx hy rfl h1) fun v H' h => ⟨h2 _ h.map, h.but⟩
end
section
variable {P : Program} {fn : Func} {ρ : Env} {H : Heap}
theorem resv4 {r s q u : ResultVar} {v x y z : Value} (h : fn.results = #[r, s, q, u]) (h1 : RV P ρ H r v) (h2 : RV P ρ H s x) (h3 : RV P ρ H q y) (h4 : RV P ρ H u z) : FnRes P fn ρ H (.tuple #[v, x, y, z]) := fun N O a w hr hs => by
  have e1 := h1 N O a w hr hs
  have e2 := h2 N O a w hr hs
  have e3 := h3 N O a w hr hs
  have e4 := h4 N O a w hr hs
  simp only [results_rget, h, Sem.run_bind]
  simp [-Array.getD_eq_getD_getElem?, e1, e2, e3, e4]
end
end Go.XG
