/-
  XG, part m: maps from numbers, or pairs of numbers, to numbers.
-/
import Derived.Test.YtjlhjjjhblcokaaXh
import Derived.Test.YtjlhjjjhblcokaaR
import Derived.Laws.Cover3
import Derived.MapKept
namespace Go.XG
/-- What a map has, in the order in which it came. -/
abbrev Ents := List (List Int × Int)
def look : Ents → List Int → Option Int
  | [], _ => none
  | p :: es, k => if k = p.1 then some p.2 else look es k
def putE : Ents → List Int → Int → Ents
  | [], k, v => [(k, v)]
  | p :: es, k, v => if k = p.1 then (k, v) :: es else p :: putE es k v
def delE : Ents → List Int → Ents
  | [], _ => []
  | p :: es, k => if k = p.1 then es else p :: delE es k
theorem look_put : ∀ (es : Ents) (k : List Int) (v : Int) (k' : List Int), look (putE es k v) k' = if k' = k then some v else look es k'
  | [], k, v, k' => by simp [putE, look]
  | p :: es, k, v, k' => by
    have ih := look_put es k v k'
    unfold putE
    by_cases h : k = p.1
    · rw [if_pos h]; simp only [look]; by_cases h' : k' = k
      · rw [if_pos h', if_pos h']
      · rw [if_neg h', if_neg h', if_neg (by rw [← h]; exact h')]
    · rw [if_neg h]; simp only [look]; by_cases h' : k' = p.1
      · rw [if_pos h', if_pos h', if_neg (by rw [h']; exact fun e => h e.symm)]
      · rw [if_neg h', if_neg h', ih]
/-- Keys of a kind: how one stands in a cell, and of how many numbers it is. -/
class MapKey (P : Program) (t : TypeId) (kv : outParam (List Int → Value)) (n : outParam Nat) : Prop where
  check : ∀ (em : Bool) (w : World) (ns : List Int), ns.length = n → (Instr.checkKey em 10000 t (kv ns)).run P w = .ok () w
  find : ∀ (w : World) (ns : List Int) (ks : List (List Int)) (l : List MapEntry), ns.length = n → (∀ k ∈ ks, k.length = n) → l.map (·.key) = ks.map kv →
    ∃ r, (Instr.findKey t (kv ns) l).run P w = .ok r w ∧ ((r = none ∧ ns ∉ ks) ∨ ∃ i x, r = some (i, x) ∧ (∃ e, l[i]? = some e ∧ e.val = x) ∧ ks[i]? = some ns ∧ ∀ j, j < i → ks[j]? ≠ some ns)
  bits : ∀ (ns : List Int), Instr.sameBits 10000 (kv ns) (kv ns) = true
def kvA (ns : List Int) : Value := .agg (ints ns).toArray
def kvI (ns : List Int) : Value := .int .i64 (ns.getD 0 0)
section
variable {P : Program}
theorem run_each {m : Nat} (w : World) (f : Nat → PUnit → Sem (ForInStep PUnit)) : ∀ (s : Nat), (∀ i r, s ≤ i → i < s + m → (f i r).run P w = .ok (.yield PUnit.unit) w) → (forIn (List.range' s m) PUnit.unit f).run P w = .ok PUnit.unit w := by
  induction m with
  | zero => intro s _; rfl
  | succ m ih =>
    intro s hf
    rw [List.range'_succ, List.forIn_cons, Sem.run_bind, hf s _ (Nat.le_refl _) (by omega)]
    simp only [Result.andThen_ok]
    exact ih (s + 1) (fun i r h1 h2 => hf i r (by omega) (by omega))
theorem findAsking_run {t n : Nat} {w : World} {ns : List Int} (he : ∀ ks : List Int, ks.length = n → (Op.equal t (kvA ns) (kvA ks)).run P w = .ok (decide (ns = ks)) w) :
    ∀ (ks : List (List Int)) (l : List MapEntry) (i0 : Nat), (∀ k ∈ ks, k.length = n) → l.map (·.key) = ks.map kvA →
      ∃ r, (Instr.findAsking t (kvA ns) l i0).run P w = .ok r w ∧ ((r = none ∧ ns ∉ ks) ∨ ∃ i x, r = some (i0 + i, x) ∧ (∃ e, l[i]? = some e ∧ e.val = x) ∧ ks[i]? = some ns ∧ ∀ j, j < i → ks[j]? ≠ some ns)
  | [], [], i0, _, _ => ⟨none, rfl, .inl ⟨rfl, by simp⟩⟩
  | [], _ :: _, _, _, h => by simp at h
  | _ :: _, [], _, _, h => by simp at h
  | k :: ks, e :: l, i0, hk, h => by
    simp only [List.map_cons, List.cons.injEq] at h
    have h1 := he k (hk k (List.mem_cons_self ..))
    simp only [Instr.findAsking, Sem.run_bind, h.1, h1, Result.andThen_ok]
    by_cases hc : ns = k
    · subst hc
      refine ⟨some (i0, e.val), by simp, .inr ⟨0, e.val, rfl, ⟨e, rfl, rfl⟩, rfl, fun j hj => absurd hj (Nat.not_lt_zero j)⟩⟩
    · obtain ⟨r, hr, hd⟩ := findAsking_run he ks l (i0 + 1) (fun x hx => hk x (List.mem_cons_of_mem _ hx)) h.2
      refine ⟨r, by simp [hc, hr], ?_⟩
      rcases hd with ⟨h3, h4⟩ | ⟨i, x, h3, h4, h5, h6⟩
      · exact .inl ⟨h3, by simp [hc, h4]⟩
      · refine .inr ⟨i + 1, x, by rw [h3]; congr 2; omega, by simpa using h4, by simpa using h5, fun j hj => ?_⟩
        cases j with
        | zero => simp; exact fun h => hc h.symm
        | succ j => simpa using h6 j (by omega)
theorem findNow_run {q : IntKind} {ns : List Int} :
    ∀ (ks : List (List Int)) (l : List MapEntry) (i0 : Nat), (∀ k ∈ ks, k.length = 1) → ns.length = 1 → l.map (·.key) = ks.map kvI →
      ∃ r, Instr.findNow (.int q) (kvI ns) l i0 = some r ∧ ((r = none ∧ ns ∉ ks) ∨ ∃ i x, r = some (i0 + i, x) ∧ (∃ e, l[i]? = some e ∧ e.val = x) ∧ ks[i]? = some ns ∧ ∀ j, j < i → ks[j]? ≠ some ns)
  | [], [], i0, _, _, _ => ⟨none, rfl, .inl ⟨rfl, by simp⟩⟩
  | [], _ :: _, _, _, _, h => by simp at h
  | _ :: _, [], _, _, _, h => by simp at h
  | k :: ks, e :: l, i0, hk, hn, h => by
    simp only [List.map_cons, List.cons.injEq] at h
    have hkl := hk k (List.mem_cons_self ..)
    have hs : Instr.sameNow (.int q) (kvI ns) e.key = some (decide (ns = k)) := by
      rw [h.1]
      match ns, hn, k, hkl with
      | [a], _, [b], _ => simp [kvI, Instr.sameNow]; rw [Bool.eq_iff_iff]; simp
    unfold Instr.findNow
    rw [hs]
    by_cases hc : ns = k
    · subst hc
      refine ⟨some (i0, e.val), by simp, .inr ⟨0, e.val, rfl, ⟨e, rfl, rfl⟩, rfl, fun j hj => absurd hj (Nat.not_lt_zero j)⟩⟩
    · obtain ⟨r, hr, hd⟩ := findNow_run (q := q) ks l (i0 + 1) (fun x hx => hk x (List.mem_cons_of_mem _ hx)) hn h.2
      refine ⟨r, by simp [hc, hr], ?_⟩
      rcases hd with ⟨h3, h4⟩ | ⟨i, x, h3, h4, h5, h6⟩
      · exact .inl ⟨h3, by simp [hc, h4]⟩
      · refine .inr ⟨i + 1, x, by rw [h3]; congr 2; omega, by simpa using h4, by simpa using h5, fun j hj => ?_⟩
        cases j with
        | zero => simp; exact fun h => hc h.symm
        | succ j => simpa using h6 j (by omega)
instance (priority := low) MapKey.int {t : TypeId} [hu : Und P t (.int .i64)] : MapKey P t kvI 1 where
  check em w ns h := by
    show (Instr.checkKey em (9999 + 1) t (.int .i64 _)).run P w = _
    rw [Instr.checkKey]
    simp [Und.run]
  find w ns ks l h1 h2 h3 := by
    obtain ⟨r, hr, hd⟩ := findNow_run (q := .i64) ks l 0 h2 h1 h3
    refine ⟨r, by simp [Instr.findKey, Und.run, hr], ?_⟩
    simpa using hd
  bits ns := by simp [kvI, Instr.sameBits]
theorem sameBits_ints : ∀ (d : Nat) (ns : List Int), ((ints ns).toArray.toList.zip (ints ns).toArray.toList).all (fun (x, y) => Instr.sameBits d x y) = true
  | d, [] => rfl
  | d, x :: ns => by
    have ih := sameBits_ints d ns
    simp only [ints, List.map_cons, List.zip_cons_cons, List.all_cons, Bool.and_eq_true] at ih ⊢
    exact ⟨by simp [Instr.sameBits], ih⟩
instance (priority := low) MapKey.array {t e n b : Nat} {z : Value} [hu : Und P t (.array n e)] [he : Und P e (.int .i64)] [hI : Inf P e false 1 b z] : MapKey P t kvA n where
  check em w ns h := by
    show (Instr.checkKey em (9999 + 1) t (.agg _)).run P w = _
    rw [Instr.checkKey]
    simp only [Sem.run_bind, Und.run, Result.andThen_ok, Std.Legacy.Range.forIn_eq_forIn_range', Std.Legacy.Range.size, Nat.sub_zero, Nat.add_one_sub_one, Nat.div_one]
    rw [run_each w _ 0 (fun i r _ hi => by
      simp only [Sem.run_bind, Inf.run, Result.andThen_ok, Nat.mul_one]
      have hp : (part e (ints ns).toArray i).run P w = .ok (.int .i64 (ns.getD i 0)) w := part_int w (by omega)
      rw [hp]
      simp only [Result.andThen_ok]
      have hc : (Instr.checkKey em 9999 e (.int .i64 (ns.getD i 0))).run P w = .ok () w := by
        show (Instr.checkKey em (9998 + 1) e (.int .i64 _)).run P w = _
        rw [Instr.checkKey]
        simp [Und.run]
      rw [hc]
      rfl)]
    rfl
  find w ns ks l h1 h2 h3 := by
    have he' : ∀ k : List Int, k.length = n → (Op.equal t (kvA ns) (kvA k)).run P w = .ok (decide (ns = k)) w := fun k hk => by
      have h : (Op.equalIn 10000 t (.agg (ns.map (Value.int .i64)).toArray) (.agg (k.map (Value.int .i64)).toArray)).run P w = _ := run_eq_ints (P := P) 9998 w (t := t) (e := e) (k := .i64) h1 hk
      simp only [Op.equal, Op.maxDepth, kvA, ints, h]
    obtain ⟨r, hr, hd⟩ := findAsking_run he' ks l 0 h2 h3
    refine ⟨r, ?_, by simpa using hd⟩
    cases l with
    | nil =>
      have : ks = [] := by cases ks with
        | nil => rfl
        | cons _ _ => simp at h3
      subst this
      simp [Instr.findKey, Und.run, Instr.findNow]
      have : r = none := by
        rcases hd with ⟨h, _⟩ | ⟨i, x, _, ⟨e, h, _⟩, _⟩
        · exact h
        · simp at h
      rw [this]
    | cons e0 l =>
      simp only [Instr.findKey, Sem.run_bind, Und.run, Result.andThen_ok, Instr.findNow, Instr.sameNow]
      exact hr
  bits ns := by
    show Instr.sameBits (9999 + 1) (.agg _) (.agg _) = true
    rw [Instr.sameBits]
    have := sameBits_ints 9999 ns
    simp only [beq_self_eq_true, Bool.true_and]
    exact this
end
structure MapAt (H : Heap) (b : Nat) (kv : List Int → Value) (n : Nat) (es : Ents) : Prop where
  wide : ∀ p ∈ es, p.1.length = n
  h : ∃ (ms : Array MapEntry) (c : Nat), H[b]? = some (.map ms c) ∧ ms.toList.map (fun e => (e.key, e.val)) = es.map fun p => (kv p.1, Value.int .i64 p.2)
theorem look_find : ∀ (es : Ents) (ns : List Int), (ns ∉ es.map (·.1) → look es ns = none) ∧ ∀ i : Nat, (es.map (·.1))[i]? = some ns → (∀ j, j < i → (es.map (·.1))[j]? ≠ some ns) → ∃ x, look es ns = some x ∧ es[i]? = some (ns, x)
  | [], ns => ⟨fun _ => rfl, fun i h => by simp at h⟩
  | p :: es, ns => by
    obtain ⟨h1, h2⟩ := look_find es ns
    constructor
    · intro h
      simp at h
      simp only [look]
      rw [if_neg h.1]
      exact h1 (by simpa using h.2)
    · intro i hi hj
      cases i with
      | zero =>
        simp at hi
        subst hi
        exact ⟨p.2, by simp [look], by simp⟩
      | succ i =>
        have h0 := hj 0 (by omega)
        simp at h0
        simp only [List.map_cons, List.getElem?_cons_succ] at hi
        obtain ⟨x, h3, h4⟩ := h2 i hi (fun j hj' => by have := hj (j + 1) (by omega); simpa using this)
        refine ⟨x, ?_, by simpa using h4⟩
        simp only [look]
        rw [if_neg (fun e => h0 e.symm)]
        exact h3
theorem put_at : ∀ (es : Ents) (ns : List Int) (v : Int), (ns ∉ es.map (·.1) → putE es ns v = es ++ [(ns, v)]) ∧ ∀ i : Nat, (es.map (·.1))[i]? = some ns → (∀ j, j < i → (es.map (·.1))[j]? ≠ some ns) → putE es ns v = es.set i (ns, v)
  | [], ns, v => ⟨fun _ => rfl, fun i h => by simp at h⟩
  | p :: es, ns, v => by
    obtain ⟨h1, h2⟩ := put_at es ns v
    constructor
    · intro h
      simp at h
      simp only [putE]
      rw [if_neg h.1, h1 (by simpa using h.2)]
      rfl
    · intro i hi hj
      cases i with
      | zero =>
        simp at hi
        subst hi
        simp [putE]
      | succ i =>
        have h0 := hj 0 (by omega)
        simp at h0
        simp only [List.map_cons, List.getElem?_cons_succ] at hi
        have h3 := h2 i hi (fun j hj' => by have := hj (j + 1) (by omega); simpa using this)
        simp only [putE]
        rw [if_neg (fun e => h0 e.symm), h3]
        rfl
theorem put_wide {es : Ents} {n : Nat} {k : List Int} {v : Int} (h : ∀ p ∈ es, p.1.length = n) (hk : k.length = n) : ∀ p ∈ putE es k v, p.1.length = n := by
  induction es with
  | nil => intro p hp; simp [putE] at hp; subst hp; exact hk
  | cons q es ih =>
    intro p hp
    unfold putE at hp
    split at hp
    · rcases List.mem_cons.1 hp with rfl | hp
      · exact hk
      · exact h p (List.mem_cons_of_mem _ hp)
    · rcases List.mem_cons.1 hp with rfl | hp
      · exact h _ (List.mem_cons_self ..)
      · exact ih (fun p hp => h p (List.mem_cons_of_mem _ hp)) p hp
section
variable {H H1 : Heap} {b b' n : Nat} {kv : List Int → Value} {es : Ents} {cs : List Value} {t : TypeId}
theorem MapAt.lt (h : MapAt H b kv n es) : b < H.size := by obtain ⟨ms, c, h1, _⟩ := h.h; exact lt_of_get h1
theorem MapAt.ext (h : MapAt H b kv n es) (e : Ext H H1) : MapAt H1 b kv n es := ⟨h.wide, by obtain ⟨ms, c, h1, h2⟩ := h.h; exact ⟨ms, c, (e.same b (lt_of_get h1)).trans h1, h2⟩⟩
theorem MapAt.off (h : MapAt H b kv n es) (u : But b' H H1) (a : Apart b b') : MapAt H1 b kv n es := ⟨h.wide, by obtain ⟨ms, c, h1, h2⟩ := h.h; exact ⟨ms, c, (u.same b (lt_of_get h1) a.ne).trans h1, h2⟩⟩
theorem MapAt.apart (h : MapAt H b kv n es) (k : New H H1 b' cs t) : Apart b b' := ⟨by have := h.lt; have := k.ge; omega⟩
theorem MapAt.blk (h : MapAt H b kv n es) (k : Blk H b' cs t) : Apart b' b := ⟨fun e => by
  obtain ⟨ms, c, h1, _⟩ := h.h
  subst e
  unfold Blk at k
  rw [k] at h1
  cases h1⟩
theorem MapAt.grow {base size m : Nat} {e : TypeId} {v : Value} {xs : List Value} (h : MapAt H b kv n es) (o : Own H base e size v m xs) (g : Gr v.ownBlock H H1) : MapAt H1 b kv n es := ⟨h.wide, by
  obtain ⟨ms, c, h1, h2⟩ := h.h
  refine ⟨ms, c, (g.same b (lt_of_get h1) (fun hg => ?_)).trans h1, h2⟩
  obtain ⟨cur, h3⟩ := o.blockType hg.symm
  rw [h1] at h3
  cases h3⟩
end
theorem run_getObj_at {P : Program} {O : Outer} {H : Heap} {w : World} {b : Nat} {ms : Array MapEntry} {c : Nat} (hs : Sees O H w) (h : H[b]? = some (.map ms c)) : (getObj b).run P w = .ok (.map ms c) w := by
  rw [← hs.1] at h
  exact MapKept.run_getObj_map h
theorem run_eql_mn {P : Program} (w : World) (t k e : TypeId) (m : Option Nat) (h : P.underlying t = some (.map k e)) : (binOp .eql t (.map m) (.map none)).run P w = .ok (.bool m.isNone) w := by
  have h2 := run_neq_map_nil (P := P) w t k e m h
  simp only [binOp, Sem.run_bind] at h2 ⊢
  cases hr : (Op.equal t (.map m) (.map none)).run P w with
  | ok b w' =>
    rw [hr] at h2
    simp only [Result.andThen_ok, Sem.run_pure, Result.ok.injEq, Value.bool.injEq] at h2 ⊢
    refine ⟨?_, h2.2⟩
    cases b <;> cases hm : m.isNone <;> simp_all
  | halt x w' => rw [hr] at h2; simp [Result.andThen] at h2
section
variable {C : Cx} {o : Oper} {ρ : Env} {H : Heap}
theorem lv_lookup {x y : Operand} {t k e : TypeId} {b n bytes : Nat} {kv : List Int → Value} {ns : List Int} {es : Ents} [Und C.P t (.map k e)] [hK : MapKey C.P k kv n] [Inf C.P e false 1 bytes (.int .i64 0)] (ho : o.op = .lookup t x y true) (hx : ev ρ x = .map (some b)) (hy : ev ρ y = kv ns)
    (hn : ns.length = n) (hm : MapAt H b kv n es) : LV C o ρ H (.tuple #[.int .i64 ((look es ns).getD 0), .bool (look es ns).isSome]) := fun w hs => by
  obtain ⟨ms, c, h1, h2⟩ := hm.h
  have hkeys : ms.toList.map (·.key) = (es.map (·.1)).map kv := by
    have := congrArg (List.map Prod.fst) h2
    rw [List.map_map, List.map_map] at this
    rw [List.map_map]
    exact this
  obtain ⟨r, hr, hd⟩ := hK.find w ns (es.map (·.1)) ms.toList hn (fun k hk => by
    simp at hk; obtain ⟨v, hk⟩ := hk; exact hm.wide _ hk) hkeys
  obtain ⟨hl1, hl2⟩ := look_find es ns
  simp only [execOp, ho, hx, hy, Instr.lookup, Sem.run_bind, Und.run, Result.andThen_ok, run_getObj_at hs h1, Sem.run_pure, hK.check _ _ _ hn, hr]
  rcases hd with ⟨rfl, h3⟩ | ⟨i, x, rfl, ⟨e0, h4, h5⟩, h6, h7⟩
  · rw [hl1 h3]
    simp [Inf.zrun]
  · obtain ⟨y, h8, h9⟩ := hl2 i h6 h7
    have : x = .int .i64 y := by
      have h10 := congrArg (fun l => l[i]?) h2
      simp only [List.getElem?_map, h4, h9, Option.map_some, Option.some.injEq, Prod.mk.injEq] at h10
      rw [← h5, h10.2]
    rw [h8, this]
    simp
theorem lv_lookup0 {x y : Operand} {t k e : TypeId} {n bytes : Nat} {kv : List Int → Value} {ns : List Int} [Und C.P t (.map k e)] [hK : MapKey C.P k kv n] [Inf C.P e false 1 bytes (.int .i64 0)] (ho : o.op = .lookup t x y true) (hx : ev ρ x = .map none) (hy : ev ρ y = kv ns)
    (hn : ns.length = n) : LV C o ρ H (.tuple #[.int .i64 0, .bool false]) := fun w _ => by
  obtain ⟨r, hr, hd⟩ := hK.find w ns [] [] hn (fun k hk => by cases hk) rfl
  have : r = none := by
    rcases hd with ⟨h, _⟩ | ⟨i, x, _, ⟨e, h, _⟩, _⟩
    · exact h
    · simp at h
  subst this
  simp only [execOp, ho, hx, hy, Instr.lookup, Sem.run_bind, Und.run, Result.andThen_ok, Sem.run_pure, hK.check _ _ _ hn]
  simp [hr, Inf.zrun]
theorem pv_eql_mn {x y : Operand} {t u k e : TypeId} {m : Option Nat} [hu : Und C.P t (.map k e)] (ho : o.op = .binOp .eql t x y u) (hx : ev ρ x = .map m) (hy : ev ρ y = .map none) : PV C o ρ (.bool m.isNone) := fun w => by
  have := run_eql_mn (P := C.P) w t k e m hu.h
  simp [execOp, ho, hx, hy, eqGuard, this]
theorem pv_neq_mn {x y : Operand} {t u k e : TypeId} {m : Option Nat} [hu : Und C.P t (.map k e)] (ho : o.op = .binOp .neq t x y u) (hx : ev ρ x = .map m) (hy : ev ρ y = .map none) : PV C o ρ (.bool (!m.isNone)) := fun w => by
  have := run_neq_map_nil (P := C.P) w t k e m hu.h
  simp [execOp, ho, hx, hy, eqGuard, this]
/-- A map that is new. -/
structure NewM (H H' : Heap) (b : Nat) (kv : List Int → Value) (n : Nat) (es : Ents) : Prop where
  ext : Ext H H'
  map : MapAt H' b kv n es
  ge : H.size ≤ b
theorem newM_push (H : Heap) (ms : Array MapEntry) (c : Nat) (kv : List Int → Value) (n : Nat) (es : Ents) (hw : ∀ p ∈ es, p.1.length = n) (h : ms.toList.map (fun e => (e.key, e.val)) = es.map fun p => (kv p.1, Value.int .i64 p.2)) : NewM H (H.push (.map ms c)) H.size kv n es :=
  ⟨⟨by simp, fun i hi => by rw [Array.getElem?_push, if_neg (by omega)]⟩, ⟨hw, ms, c, by simp, h⟩, Nat.le_refl _⟩
theorem hv_makeMap {t : TypeId} (kv : List Int → Value) (n : Nat) (ho : o.op = .makeMap t none) : HV C o ρ H (fun v H' => ∃ b, v = .map (some b) ∧ NewM H H' b kv n []) := fun w hs => .inl ⟨_, _, by
  simp only [execOp, ho, Instr.makeMap, Option.map_none, Sem.run_bind, run_newObj, Result.andThen_ok, Sem.run_pure]
  rfl, _, sees_push hs _, H.size, by rw [hs.1], newM_push H #[] 0 kv n [] (fun p hp => by cases hp) rfl⟩
/-- The map b has turned; nothing else has. -/
structure UpdM (H H' : Heap) (b : Nat) (kv : List Int → Value) (n : Nat) (es : Ents) : Prop where
  but : But b H H'
  map : MapAt H' b kv n es
theorem setObj_run {P : Program} {O : Outer} {w : World} {b : Nat} {ms : Array MapEntry} {c : Nat} (hs : Sees O H w) (hb : H[b]? = some (.map ms c)) (y : Obj) : (setObj b y).run P w = .ok () { w with heap := w.heap.setIfInBounds b y } ∧ Sees O (H.setIfInBounds b y) { w with heap := w.heap.setIfInBounds b y } ∧ But b H (H.setIfInBounds b y) ∧ (H.setIfInBounds b y)[b]? = some y := by
  have hlt := lt_of_get hb
  refine ⟨?_, ⟨by rw [hs.1], hs.2.1, hs.2.2.1, hs.2.2.2⟩, ⟨by simp, fun i _ hne => by rw [Array.getElem?_setIfInBounds_ne (Ne.symm hne)]⟩, by simp [hlt]⟩
  unfold setObj
  rw [← hs.1] at hb
  simp [Sem.run, hb]
theorem hv_mapUpdate {x y z : Operand} {t k e : TypeId} {b n : Nat} {kv : List Int → Value} {ns : List Int} {es : Ents} {u : Int} [Und C.P t (.map k e)] [hK : MapKey C.P k kv n] (ho : o.op = .mapUpdate t x y z) (hx : ev ρ x = .map (some b)) (hy : ev ρ y = kv ns) (hz : ev ρ z = .int .i64 u)
    (hn : ns.length = n) (hm : MapAt H b kv n es) : HV C o ρ H (fun _ H' => UpdM H H' b kv n (putE es ns u)) := fun w hs => .inr (.inr (by
  obtain ⟨ms, c, h1, h2⟩ := hm.h
  have hkeys : ms.toList.map (·.key) = (es.map (·.1)).map kv := by
    have := congrArg (List.map Prod.fst) h2
    rw [List.map_map, List.map_map] at this
    rw [List.map_map]
    exact this
  obtain ⟨r, hr, hd⟩ := hK.find w ns (es.map (·.1)) ms.toList hn (fun k hk => by
    simp at hk; obtain ⟨v, hk⟩ := hk; exact hm.wide _ hk) hkeys
  obtain ⟨hp1, hp2⟩ := put_at es ns u
  rcases hd with ⟨rfl, h3⟩ | ⟨i, x0, rfl, ⟨e0, h4, h5⟩, h6, h7⟩
  · obtain ⟨g1, g2, g3, g4⟩ := setObj_run (P := C.P) hs h1 (.map (ms.push ⟨kv ns, .int .i64 u, c⟩) (c + 1))
    refine ⟨_, _, ?_, g2, g3, put_wide hm.wide hn, _, _, g4, ?_⟩
    · simp only [execOp, ho, hx, hy, hz, Instr.mapUpdate, Sem.run_bind, Und.run, Result.andThen_ok, run_getObj_at hs h1, hK.check _ _ _ hn, hr, g1, Sem.run_pure]
    · rw [hp1 h3]; simp [h2]
  · have hil : i < ms.size := by have := (List.getElem?_eq_some_iff.1 h4).1; simpa using this
    have hke : e0.key = kv ns := by
      have h10 := congrArg (fun l => l[i]?) hkeys
      simp only [List.getElem?_map, h4, Option.map_some] at h10
      have h6' : (es[i]?.map (·.1)) = some ns := by simpa using h6
      simp only [Option.map_map] at h10
      have h11 : (es[i]?.map (·.1)).map kv = some e0.key := by rw [Option.map_map]; exact h10.symm
      rw [h6'] at h11
      simp at h11
      exact h11.symm
    have hstay : (Instr.keyThatStays (((ms[i]?).map (·.key)).getD (kv ns)) (kv ns)).run C.P w = .ok (kv ns) w := by
      have : ms[i]? = some e0 := by simpa using h4
      rw [this]
      simp only [Option.map_some, Option.getD_some, hke, Instr.keyThatStays, hK.bits, if_true, Sem.run_pure]
    obtain ⟨g1, g2, g3, g4⟩ := setObj_run (P := C.P) hs h1 (.map (ms.modify i fun e => { e with key := kv ns, val := .int .i64 u }) c)
    refine ⟨_, _, ?_, g2, g3, put_wide hm.wide hn, _, _, g4, ?_⟩
    · simp only [execOp, ho, hx, hy, hz, Instr.mapUpdate, Sem.run_bind, Und.run, Result.andThen_ok, run_getObj_at hs h1, hK.check _ _ _ hn, hr, hstay, g1, Sem.run_pure]
    · rw [hp2 i h6 h7]
      apply List.ext_getElem?
      intro j
      have h2j := congrArg (fun l => l[j]?) h2
      simp only [List.getElem?_map] at h2j ⊢
      rw [List.getElem?_set]
      simp only [Array.getElem?_toList, Array.getElem?_modify] at h2j ⊢
      by_cases hij : i = j
      · subst hij
        have hl : i < es.length := by
          have := (List.getElem?_eq_some_iff.1 h6).1
          simpa using this
        simp [hl, hil]
      · simp only [if_neg hij, h2j]))
end
end Go.XG
