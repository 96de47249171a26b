/-
  XG, the frame: from a contract 'true, and of what was there nothing has turned' to the row.
-/
import Derived.Test.YtjlhjjjhblcokaaXe
import Derived.ProofKit
import Derived.OpenShut
import Derived.ShutString
import Derived.Deep.Slices
import Derived.Deep.Fields
namespace Go.XG
open Go.ChangeShapes Go.WideShapes Go.RowKit
section
variable {Hd : Type} {enc : TypeId × Value → Hd} {P : Program} {W W' : World}
theorem trodAll_stays (hl : laidOutB P = true) (hb : Below W.heap.size W W') {sp : Nat → Bool} : ∀ {ts : List TypeId} {vs : List Value} {ds : List (DataW Hd)} {ps : List MemPlace},
    (ts.all fun t => P.readableRec t && decide (t < P.types.size)) = true → DataW.TrodAll enc P W 0 (fun _ => true) true ts vs ds ps → (∀ x ∈ ps, x.block < W.heap.size) → (∀ x ∈ ps, sp x.block = true) → DataW.TrodAll enc P W' 0 sp true ts vs ds ps
  | [], vs, ds, ps, _, h, _, _ => by
    obtain ⟨rfl, rfl, rfl⟩ := trodAll_nil h
    exact trodAll_mk0
  | t :: ts, vs, ds, ps, ht, h, hlt, hsp => by
    obtain ⟨v, vs', d, ds', p, q, rfl, rfl, rfl, h0, r0⟩ := trodAll_cons h
    simp only [List.all_cons, Bool.and_eq_true, decide_eq_true_eq] at ht
    exact trodAll_cons_mk (WideElems.Trod_stays hl ht.1.1 ht.1.2 h0 (fun x hx => hb.same (hlt x (List.mem_append_left _ hx))) (fun x hx => hsp x (List.mem_append_left _ hx)))
      (trodAll_stays hl hb ht.2 r0 (fun x hx => hlt x (List.mem_append_right _ hx)) (fun x hx => hsp x (List.mem_append_right _ hx)))
theorem below_of_ext {H' : Heap} (hs : Sees (Outer.of W) H' W') (hE : Ext W.heap H') : Below W.heap.size W W' :=
  ⟨hs.2.2.1, hs.2.1, hs.2.2.2, by rw [hs.1]; exact hE.size, fun k hk => by rw [hs.1]; exact hE.same k hk⟩
theorem post_of_below {f : Func} {s : ChangeSpec} {apart fresh handsOn again : Bool} {args : Array Value} {v : Value} {ds gs : List (DataW Hd)} {before pa pv : List MemPlace}
    (hW : DataW.Whole enc P f.params.toList s.vars apart W args.toList ds gs before)
    (hres : ∀ (b : Nat) (sp : Nat → Bool) (hd : Bool), DataW.TrodAll enc P W' b sp hd f.resultTypes.toList (v.resultList f.resultTypes.size) (s.fn Hd (ds ++ gs)).results [])
    (hargs : ∀ sp : Nat → Bool, (∀ p ∈ before, sp p.block = true) → DataW.TrodAll enc P W' 0 sp true f.params.toList args.toList (s.fn Hd (ds ++ gs)).args pa)
    (hvars : ∀ sp : Nat → Bool, (∀ p ∈ before, sp p.block = true) → DataW.TrodVars enc P W' sp s.vars (s.fn Hd (ds ++ gs)).vars pv)
    (hps : before = pa ++ pv) (hb : Below W.heap.size W W')
    (hok : ∀ (j : Nat) (t : TypeId) (r : Value), f.resultTypes[j]? = some t → (v.resultList f.resultTypes.size)[j]? = some r → Value.okWide P W' .any 0 t r) :
    s.post enc P f apart fresh handsOn again W args v W' := by
  have hlt : ∀ p ∈ before, p.block < W.heap.size := fun p hp => hW.lt p hp
  have hold : ∀ p ∈ before, (fun b => decide (b < W.heap.size)) p.block = true := fun p hp => by simpa using hlt p hp
  refine ⟨ds, gs, before, [], pa, pv, hW, hres _ _ _, hargs _ hold, hvars _ hold, World.keptBut_mono (fun p hp => ⟨hp, ?_⟩) (hb.frame (· ∈ before)), fun _ => ?_⟩
  · rw [hps, List.mem_append] at hp
    exact Or.inr hp
  · obtain ⟨_, _, _, _, _, hz, hn⟩ := hW
    refine ⟨hok, _, _, ([] ++ pa) ++ pv, ⟨[] ++ pa, pv, trodAll_append (hargs _ (fun _ _ => rfl)) (hres _ _ _), hvars _ (fun _ _ => rfl), rfl, ?_, ?_⟩, ?_⟩
    · intro b off hp
      have hin : MemPlace.cell b off ∈ before := by rw [hps]; simpa using hp
      rw [hb.frozen (hlt _ hin)]
      exact hz b off hin
    · intro ha
      have := hn ha
      rw [hps] at this
      simpa using this
    · intro p hp _
      rw [hps]
      simpa using hp
/-- The statement's post, where the call answers true and turns nothing. -/
theorem law_post {f : Func} {s : ChangeSpec} {apart fresh handsOn again : Bool} {args : Array Value} {ds : List (DataW Hd)} {p : List MemPlace} {tb : TypeId} {H' : Heap}
    (hl : laidOutB P = true) (hv : s.vars = []) (hres : (s.fn Hd (ds ++ [])).results = [.lit (.bool true)]) (hargs : (s.fn Hd (ds ++ [])).args = ds) (hvars : (s.fn Hd (ds ++ [])).vars = [])
    (hrt : f.resultTypes = #[tb]) (hub : P.underlying tb = some .bool) (hok : (f.params.toList.all fun t => P.readableRec t && decide (t < P.types.size)) = true)
    (hW : DataW.Whole enc P f.params.toList s.vars apart W args.toList ds [] (p ++ []))
    (hA : DataW.TrodAll enc P W 0 (fun _ => true) true f.params.toList args.toList ds p) (hs : Sees (Outer.of W) H' W') (hE : Ext W.heap H') :
    s.post enc P f apart fresh handsOn again W args (.bool true) W' := by
  have hb := below_of_ext hs hE
  refine post_of_below (pa := p) (pv := []) hW ?_ ?_ ?_ rfl hb ?_
  · intro b sp hd
    rw [hres, hrt]
    exact trodAll_cons_mk (shut_bool hub true) trodAll_mk0
  · intro sp hsp
    rw [hargs]
    exact trodAll_stays hl hb hok hA (fun x hx => hW.lt x (by simpa using hx)) (fun x hx => hsp x (by simpa using hx))
  · intro sp hsp
    rw [hv, hvars]
    rfl
  · exact ok_one hrt rfl (okWide_bool_mk hub true)
theorem law_calls {f : FuncId} {A : List Value} {Q : Ending → World → Prop} (h : FnC P f A.toArray (Outer.of W) W.heap (fun v H' => v = .bool true ∧ Ext W.heap H'))
    (k : ∀ W' H', Sees (Outer.of W) H' W' → Ext W.heap H' → Q (.returned (.bool true)) W') : Calls P f A.toArray W Q :=
  (h W ⟨rfl, rfl, rfl, rfl⟩).mono fun _ _ ⟨v, H', he, hs, hv, hE⟩ => by subst he; subst hv; exact k _ H' hs hE
/-! Arguments, opened. -/
theorem addr_of_cell {a : Addr} {v : Value} (h : W.cell? a = some v) : a = ⟨a.block, a.off, none⟩ ∧ cellAt W.heap a.block a.off = some v := by
  obtain ⟨b, o, s⟩ := a
  unfold World.cell? at h
  cases hb : W.heap[b]? with
  | none => simp [hb] at h
  | some x =>
    cases x <;> simp [hb] at h
    cases s with
    | some _ => simp at h
    | none =>
      refine ⟨rfl, ?_⟩
      unfold cellAt
      rw [hb]
      simpa using h
theorem cellAt_of_cell {b o : Nat} : W.cell? ⟨b, o, none⟩ = cellAt W.heap b o := cell_cellAt (O := Outer.of W) ⟨rfl, rfl, rfl, rfl⟩ b o
theorem string_bs (s : ByteArray) : ∃ l, Value.string s = .string (bs l) := by
  obtain ⟨l, rfl⟩ := bs_all s
  exact ⟨l, rfl⟩
theorem collect {α : Type} (d : α) {R : Nat → α → Prop} : ∀ n : Nat, (∀ i, i < n → ∃ x, R i x) → ∃ l : List α, l.length = n ∧ ∀ i, i < n → R i (l.getD i d)
  | 0, _ => ⟨[], rfl, fun i h => absurd h (Nat.not_lt_zero i)⟩
  | n + 1, h => by
    obtain ⟨l, hl, hR⟩ := collect d n (fun i hi => h i (Nat.lt_succ_of_lt hi))
    obtain ⟨x, hx⟩ := h n (Nat.lt_succ_self n)
    refine ⟨l ++ [x], by simp [hl], fun i hi => ?_⟩
    by_cases e : i = n
    · subst e
      have : (l ++ [x]).getD i d = x := by simp [List.getD_eq_getElem?_getD, ← hl]
      rw [this]; exact hx
    · have h2 : i < n := by omega
      have : (l ++ [x]).getD i d = l.getD i d := by simp [List.getD_eq_getElem?_getD, List.getElem?_append_left (show i < l.length by omega)]
      rw [this]; exact hR i h2
/-- A slice that came in: its cells, element by element. -/
theorem slice_cells {t e size n m : Nat} {a : Option Addr} {d : DataW Hd} {p : List MemPlace} (ht : P.underlying t = some (.slice e)) (hC : P.cellsOf e = size) (hsz : 0 < size)
    (h : DataW.Trod enc P W 0 (fun _ => true) true t (.slice a n m) d p) :
    n ≤ m ∧ m ≤ maxLen ∧ (n = 0 ∨ ∃ b off, a = some ⟨b, off, none⟩ ∧ ∀ i, i < n → ∃ (cs : List Value) (fuel : Nat) (y : DataW Hd × List MemPlace), cs.length = size ∧ (∀ j v, cs[j]? = some v → cellAt W.heap b (off + i * size + j) = some v) ∧ DataW.trod enc P W 0 (fun _ => true) true fuel e cs = some y) := by
  obtain ⟨fuel, hf⟩ := h
  rcases Deep.open_slice ht hf with ⟨hcs, hx⟩ | ⟨a', len, cap, mm, n', D, Pl, hcs, _, hl, hm, hmm, hx, hi⟩
  · simp only [Value.cells, List.cons.injEq, Value.slice.injEq, and_true] at hcs
    obtain ⟨rfl, rfl, rfl⟩ := hcs
    exact ⟨Nat.le_refl _, by unfold maxLen; omega, .inl rfl⟩
  · simp only [Value.cells, List.cons.injEq, Value.slice.injEq, and_true] at hcs
    obtain ⟨rfl, rfl, rfl⟩ := hcs
    refine ⟨hl, hm, ?_⟩
    by_cases h0 : n = 0
    · exact .inl h0
    · refine .inr ?_
      simp only [if_true] at hmm
      have get : ∀ i, i < n → ∃ cs, W.cells? 0 (a'.add (i * size)) size = some cs ∧ DataW.trod enc P W 0 (fun _ => true) true n' e cs = some (D i, Pl i) := fun i hin => by
        obtain ⟨cs', h1, h2⟩ := hi i (by omega)
        rw [hC] at h1
        exact ⟨cs', h1, h2⟩
      obtain ⟨cs0, h1, _⟩ := get 0 (by omega)
      obtain ⟨_, hl0, hc0⟩ := World.cells?_some h1
      have hfirst := hc0 (i := 0) hsz
      have hlt0 : 0 < cs0.length := by omega
      rw [List.getElem?_eq_getElem hlt0] at hfirst
      have e0 : ((a'.add (0 * size)).add 0) = a' := by simp [Addr.add]
      rw [e0] at hfirst
      obtain ⟨ha, _⟩ := addr_of_cell hfirst
      refine ⟨a'.block, a'.off, congrArg some ha, fun i hin => ?_⟩
      obtain ⟨cs, h2, h3⟩ := get i hin
      obtain ⟨_, hlc, hcc⟩ := World.cells?_some h2
      refine ⟨cs, n', _, hlc, fun j v hj => ?_, h3⟩
      have hjl : j < size := by have := (List.getElem?_eq_some_iff.1 hj).1; omega
      have h4 := hcc (i := j) hjl
      rw [hj, ha, addr_add, addr_add, cellAt_of_cell] at h4
      exact h4
theorem slice_ints {t e n m : Nat} {a : Option Addr} {d : DataW Hd} {p : List MemPlace} (ht : P.underlying t = some (.slice e)) (he : P.underlying e = some (.int .i64)) (hC : P.cellsOf e = 1)
    (h : DataW.Trod enc P W 0 (fun _ => true) true t (.slice a n m) d p) :
    ∃ xs : List Int, n = xs.length ∧ (xs.length = 0 ∨ ∃ b off, a = some ⟨b, off, none⟩ ∧ ∀ k, k < xs.length → cellAt W.heap b (off + k * 1) = some (.int .i64 (xs.getD k 0))) ∧
      ∀ k, k < xs.length → -9223372036854775808 ≤ xs.getD k 0 ∧ xs.getD k 0 < 9223372036854775808 := by
  obtain ⟨_, _, h0 | ⟨b, off, rfl, hi⟩⟩ := slice_cells ht hC (by omega) h
  · subst h0; exact ⟨[], rfl, .inl rfl, fun k hk => absurd hk (Nat.not_lt_zero k)⟩
  · obtain ⟨xs, hl, hx⟩ := collect (0 : Int) (R := fun i x => cellAt W.heap b (off + i * 1) = some (.int .i64 x) ∧ -9223372036854775808 ≤ x ∧ x < 9223372036854775808) n (fun i hin => by
      obtain ⟨cs, fuel, y, h1, h2, h3⟩ := hi i hin
      obtain ⟨x, rfl, _, hw⟩ := DataW.trod_int he h3
      have hb := bounds_i64 hw
      exact ⟨x, h2 0 _ rfl, hb.1, by omega⟩)
    subst hl
    exact ⟨xs, rfl, .inr ⟨b, off, rfl, fun k hk => (hx k hk).1⟩, fun k hk => (hx k hk).2⟩
theorem slice_strings {t e n m : Nat} {a : Option Addr} {d : DataW Hd} {p : List MemPlace} (ht : P.underlying t = some (.slice e)) (he : P.underlying e = some .string) (hC : P.cellsOf e = 1)
    (h : DataW.Trod enc P W 0 (fun _ => true) true t (.slice a n m) d p) :
    ∃ xs : List (List UInt8), n = xs.length ∧ (xs.length = 0 ∨ ∃ b off, a = some ⟨b, off, none⟩ ∧ ∀ k, k < xs.length → cellAt W.heap b (off + k * 1) = some (.string (bs (xs.getD k [])))) := by
  obtain ⟨_, _, h0 | ⟨b, off, rfl, hi⟩⟩ := slice_cells ht hC (by omega) h
  · subst h0; exact ⟨[], rfl, .inl rfl⟩
  · obtain ⟨xs, hl, hx⟩ := collect ([] : List UInt8) (R := fun i x => cellAt W.heap b (off + i * 1) = some (.string (bs x))) n (fun i hin => by
      obtain ⟨cs, fuel, y, h1, h2, h3⟩ := hi i hin
      obtain ⟨s, rfl, _, hw⟩ := DataW.trod_string he h3
      obtain ⟨l, rfl⟩ := bs_all s
      exact ⟨l, h2 0 _ rfl⟩)
    subst hl
    exact ⟨xs, rfl, .inr ⟨b, off, rfl, hx⟩⟩
end
end Go.XG
