/-
  Numbers behind slices; sides in memory.
-/
import Derived.Test.YtdpgbnflielagaaP
import Derived.Test.YtdpgbnflielagaaTo
import Derived.Test.YtdpgbnflielagaaXz
namespace Go.XG
/-- Numbers in a slice. -/
def Ints (H : Heap) (a : Option Addr) (l : List Int) : Prop := l = [] ∨ ∃ g o, a = some ⟨g, o, none⟩ ∧ Row H g o (ints l)
/-- The block of a slice. -/
def bk (a : Option Addr) (j : Nat) : Prop := ∃ x, a = some x ∧ x.block = j
section
variable {H H1 : Heap} {a : Option Addr} {l : List Int} {base n c b : Nat} {F : Nat → Prop}
theorem Ints.ext (h : Ints H a l) (e : Ext H H1) : Ints H1 a l := h.imp id fun ⟨g, o, h1, h2⟩ => ⟨g, o, h1, fun i v hv => cellAt_ext (h2 i v hv) e⟩
theorem own_Ints (h : Own H base 3 1 (.slice a n c) n (ints l)) : Ints H a l := by
  rcases own_blk2 h with ⟨h1, h2, _⟩ | ⟨g, ex, h1, h2, _⟩
  · have := h.len
    rw [h2] at this
    exact .inl (List.length_eq_zero_iff.1 (by simpa [ints] using this))
  · exact .inr ⟨g, 0, h1, h2.row.pre⟩
theorem Ints.at' (h : Ints H a l) : ∃ g o, 0 < l.length → a = some ⟨g, o, none⟩ ∧ Row H g o (ints l) := by
  rcases h with h0 | ⟨g, o, h1, h2⟩
  · exact ⟨0, 0, fun h => by rw [h0] at h; exact absurd h (by simp)⟩
  · exact ⟨g, o, fun _ => ⟨h1, h2⟩⟩
theorem ld_nth {g o k : Nat} (h : Row H g o (ints l)) (hk : k < l.length) : cellAt H g (o + k * 1) = some (.int .i64 (l.getD k 0)) := by
  rw [Nat.mul_one]
  exact h k _ (by simp [ints, List.getD, hk])
theorem ints_len1 (l : List Int) : (ints l).length = l.length * 1 := by simp [ints]
theorem ints_one1 (l : List Int) : ∀ u ∈ ints l, u.oneCell' = true := fun u hu => by
  obtain ⟨x, _, rfl⟩ := List.mem_map.1 hu; rfl
/-- One's own numbers. -/
def IO (H : Heap) (a : Option Addr) (c : Nat) (l : List Int) : Prop := Own H 0 3 1 (.slice a l.length c) l.length (ints l)
theorem IO.ints (h : IO H a c l) : Ints H a l := own_Ints h
theorem IO.blk (h : IO H a c l) : (a = none ∧ l = [] ∧ c = 0) ∨ ∃ g ex, a = some ⟨g, 0, none⟩ ∧ Blk H g (XG.ints l ++ ex) 3 ∧ l.length ≤ c ∧ c ≤ maxLen ∧ (XG.ints l ++ ex).length = c := by
  rcases own_blk2 h with ⟨h1, h2, h3⟩ | ⟨g, ex, h1, h2, _, h3, h4, h5⟩
  · exact .inl ⟨h1, List.length_eq_zero_iff.1 h2, h3⟩
  · exact .inr ⟨g, ex, h1, h2, h3, h4, by omega⟩
theorem io_mk {g : Nat} {ex : List Value} (h : Blk H g (XG.ints l ++ ex) 3) (hn : l.length ≤ c) (hm : c ≤ maxLen) (hc : (XG.ints l ++ ex).length = c) : IO H (some ⟨g, 0, none⟩) c l := own_mk h (Nat.zero_le _) (ints_len1 l) (by omega) hn hm
theorem IO.lt (h : IO H a c l) {j : Nat} (hj : bk a j) : j < H.size := by
  obtain ⟨o, hj, rfl⟩ := hj
  rcases h.blk with ⟨h1, _⟩ | ⟨g, ex, h1, h2, _⟩
  · rw [h1] at hj; cases hj
  · rw [h1] at hj; cases hj; exact h2.lt
theorem IO.keep (h : IO H a c l) (k : KeepF F H H1) (hf : ∀ j, bk a j → ¬ F j) : IO H1 a c l := by
  rcases h.blk with ⟨h1, h2, h3⟩ | ⟨g, ex, h1, h2, h3, h4, h5⟩
  · subst h1; subst h2; subst h3; exact Own.nil _ _ _ _
  · subst h1; exact io_mk (h2.keep k (hf g ⟨_, rfl, rfl⟩)) h3 h4 h5
theorem IO.ty (h : IO H a c l) {j : Nat} (hj : bk a j) {cs : List Value} {t : TypeId} (hb : Blk H b cs t) (ht : Nat.beq 3 t = false) : j ≠ b := by
  obtain ⟨o, hj, rfl⟩ := hj
  rcases h.blk with ⟨h1, _⟩ | ⟨g, ex, h1, h2, _⟩
  · rw [h1] at hj; cases hj
  · rw [h1] at hj; cases hj; exact h2.ne hb ht
end
section
variable {H H1 : Heap} {a : Option Addr} {base n c vb i j : Nat} {l : List Int} {q : Int}
theorem ints_src (h : Ints H a l) : l.length = 0 ∨ ∃ yb yo, a = some ⟨yb, yo, none⟩ ∧ Row H yb yo (ints l) := h.imp (fun h => by rw [h]; rfl) id
theorem ints_none (h : Ints H none l) : l = [] := by
  rcases h with h | ⟨g, o, h1, _⟩
  · exact h
  · cases h1
theorem bk_none {p : Prop} (h : bk none j) : p := by obtain ⟨o, h, _⟩ := h; cases h
theorem bk_some {g o : Nat} (h : bk (some ⟨g, o, none⟩) j) : j = g := by obtain ⟨o', h, rfl⟩ := h; cases h; rfl
theorem own_io (h : Own H base 3 1 (.slice a l.length c) l.length (ints l)) : IO H a c l := by
  rcases own_blk2 h with ⟨h1, h2, h3⟩ | ⟨g, ex, h1, h2, _, h3, h4, h5⟩
  · have h0 := List.length_eq_zero_iff.1 h2
    subst h0; subst h1; subst h3; exact Own.nil _ _ _ _
  · subst h1; exact io_mk h2 h3 h4 (by omega)
theorem own_ge (h : Own H base 3 1 (.slice a n c) n (ints l)) : ∀ j, bk a j → base ≤ j := fun j hj => by
  rcases own_blk2 h with ⟨h1, _⟩ | ⟨g, ex, h1, _, h2, _⟩
  · subst h1; exact bk_none hj
  · subst h1; rw [bk_some hj]; exact h2
theorem own_bk (h : (Value.slice a n c).ownBlock = some i) : bk a i := by
  cases a with
  | none => cases h
  | some x =>
    injection h with h
    exact ⟨x, rfl, h⟩
theorem bk_own (h : bk a j) : (Value.slice a n c).ownBlock = some j := by obtain ⟨o, rfl, rfl⟩ := h; rfl
theorem io_bk {a' : Option Addr} {n' c' s : Nat} (h : (Value.slice a' n' c').ownBlock = (Value.slice a n c).ownBlock ∨ (Value.slice a' n' c').ownBlock = some s) : ∀ j, bk a' j → bk a j ∨ s ≤ j := fun j hj => by
  have e := bk_own (n := n') (c := c') hj
  rcases h with h | h
  · rw [h] at e; exact .inl (own_bk e)
  · rw [h] at e; injection e with e; exact .inr (by omega)
theorem io_app {a' : Option Addr} {c' : Nat} (h : Own H base 3 1 (.slice a' (l.length + 1) c') (l.length + 1) (ints l ++ [.int .i64 q])) : IO H a' c' (l ++ [q]) := by
  have e1 : ints l ++ [.int .i64 q] = ints (l ++ [q]) := by simp [ints]
  have e2 : l.length + 1 = (l ++ [q]).length := by simp
  rw [e1, e2] at h
  exact own_io h
theorem ints_ins {R : List Value} {i : Nat} {q : Int} : ints (l.take i) ++ ([Value.int .i64 q] ++ (ints (l.drop i) ++ R)) = ints (l.take i ++ [q] ++ l.drop i) ++ R := by simp [ints]
theorem ins_len (h : i ≤ l.length) : (l.take i ++ [q] ++ l.drop i).length = l.length + 1 := by simp; omega
end
section
variable {H H1 : Heap} {gb i j c : Nat} {l : List Int} {ex mid T Q D E : List Value} {x : Int}
theorem ins1_cells (hT : T.length = i * 1) (hQ : Q.length = 1) (hE : 1 + D.length ≤ E.length) :
    setRange (setRange (T ++ E) (0 + i * 1) Q) (0 + (i + 1) * 1) D = T ++ (Q ++ (D ++ E.drop (1 + D.length))) := by
  have e1 : setRange (T ++ E) (0 + i * 1) Q = T ++ (Q ++ E.drop 1) := by
    rw [Nat.zero_add, ← hT]
    conv => lhs; rw [← List.take_append_drop 1 E]
    exact setRange_at Q T _ _ (by rw [List.length_take, hQ]; omega)
  have e2 : 0 + (i + 1) * 1 = (T ++ Q).length := by rw [List.length_append, hT, hQ]; omega
  rw [e1, e2, ← List.append_assoc]
  conv => lhs; rw [← List.take_append_drop D.length (E.drop 1)]
  rw [setRange_at D (T ++ Q) _ _ (by rw [List.length_take, List.length_drop]; omega), List.drop_drop, List.append_assoc]
theorem ins1_cells2 (hT : T.length = i * 1) (hQ : Q.length = 1) (hE : 1 + D.length ≤ E.length) :
    setRange (setRange (T ++ E) (0 + (i + 1) * 1) D) (0 + i * 1) Q = T ++ (Q ++ (D ++ E.drop (1 + D.length))) := by
  have e2 : 0 + (i + 1) * 1 = (T ++ E.take 1).length := by rw [List.length_append, hT, List.length_take]; omega
  have e1 : setRange (T ++ E) (0 + (i + 1) * 1) D = T ++ (E.take 1 ++ (D ++ E.drop (1 + D.length))) := by
    rw [e2]
    conv => lhs; rw [← List.take_append_drop 1 E, ← List.append_assoc, ← List.take_append_drop D.length (E.drop 1)]
    have e3 : (List.take 1 (List.take 1 E ++ (List.take D.length (List.drop 1 E) ++ List.drop D.length (List.drop 1 E)))) = E.take 1 := by rw [List.take_append_drop, List.take_append_drop]
    rw [e3, setRange_at D (T ++ E.take 1) _ _ (by rw [List.length_take, List.length_drop]; omega), List.drop_drop, List.append_assoc]
  rw [e1, Nat.zero_add, ← hT]
  exact setRange_at Q T _ _ (by rw [List.length_take, hQ]; omega)
theorem ints_td (l : List Int) (i : Nat) : ints l = ints (l.take i) ++ ints (l.drop i) := by rw [ints_app, List.take_append_drop]
theorem row_takeI (h : Blk H gb (ints l ++ ex) 3) (i : Nat) : Row H gb 0 (ints (l.take i)) := by
  have h1 := h.row.pre
  rw [ints_td l i] at h1; exact h1.pre
theorem row_dropI (h : Blk H gb (ints l ++ ex) 3) (hi : i ≤ l.length) : Row H gb (0 + i * 1) (ints (l.drop i)) := by
  have h1 := h.part (i * 1) ((l.length - i) * 1)
  have l1 : (ints (l.take i)).length = i * 1 := by rw [ints_len1, List.length_take, Nat.min_eq_left hi]
  have l2 : (ints (l.drop i)).length = (l.length - i) * 1 := by rw [ints_len1, List.length_drop]
  have e1 : ((ints l ++ ex).drop (i * 1)).take ((l.length - i) * 1) = ints (l.drop i) := by
    rw [ints_td l i, List.append_assoc, ← l1, List.drop_left, ← l2, List.take_left]
  rw [e1] at h1
  rw [Nat.zero_add]; exact h1
theorem dl_take (h : j < l.length) : dlI (l.take (j + 1)) x = dlI (l.take j) x ++ if l.getD j 0 = x then [] else [l.getD j 0] := by
  have e : l.take (j + 1) = l.take j ++ [l.getD j 0] := by rw [List.take_succ_eq_append_getElem h]; simp [h]
  unfold dlI
  rw [e, List.filter_append]
  split
  · rename_i h1; rw [List.filter_cons_of_neg (by simp only [h1]; simp)]; rfl
  · rename_i h1; rw [List.filter_cons_of_pos (by simp only [h1]; simp)]; rfl
theorem dl_take_n {n : Nat} (h : n < l.length) (h1 : l.getD n 0 = x) (h2 : ∀ j, j < n → l.getD j 0 ≠ x) : dlI (l.take (n + 1)) x = l.take n := by
  rw [dl_take h, if_pos h1, List.append_nil]
  exact dl_not (not_in (fun j hj => by
    rw [List.length_take] at hj
    have : (l.take n).getD j 0 = l.getD j 0 := by simp [show j < n by omega]
    rw [this]; exact h2 j (by omega)))
theorem ld_del {kept : List Int} (h : Blk H gb (ints kept ++ (mid ++ (ints (l.drop j) ++ ex))) 3) (hm : kept.length + mid.length = j) (hj : j < l.length) : cellAt H gb (0 + j * 1) = some (.int .i64 (l.getD j 0)) := by
  rw [h.cell]
  have h1 : (ints kept).length = kept.length := by simp [ints]
  rw [Nat.zero_add, Nat.mul_one, List.getElem?_append_right (by omega), List.getElem?_append_right (by omega), List.getElem?_append_left (by simp [ints]; omega)]
  have e : j - (ints kept).length - mid.length = 0 := by omega
  rw [e]
  simp [ints, hj]
theorem drop_gd (h : j < l.length) : ints (l.drop j) = .int .i64 (l.getD j 0) :: ints (l.drop (j + 1)) := by
  rw [List.drop_eq_getElem_cons h]; show Value.int .i64 l[j] :: _ = _; simp [ints, h]
theorem dl_start {n : Nat} (h : n < l.length) (h1 : l.getD n 0 = x) (h2 : dlI (l.take (n + 1)) x = l.take n) : ints (dlI (l.take (n + 1)) x) ++ ([.int .i64 x] ++ (ints (l.drop (n + 1)) ++ ex)) = ints l ++ ex := by
  rw [h2]
  conv => rhs; rw [ints_td l n, drop_gd h, h1]
  simp
theorem sl_cut0 {n : Nat} : Value.slice (cutA (some ⟨gb, 0, none⟩) 0 c 1) n c = .slice (some ⟨gb, 0, none⟩) n c := by rw [cut_0]
/-- One that goes. -/
theorem del_go {kept : List Int} (h : Blk H gb (ints kept ++ (mid ++ (ints (l.drop j) ++ ex))) 3) (hj : j < l.length) : Blk H gb (ints kept ++ ((mid ++ [.int .i64 (l.getD j 0)]) ++ (ints (l.drop (j + 1)) ++ ex))) 3 := by
  rw [drop_gd hj] at h
  simpa using h
/-- One that stays. -/
theorem del_stay {kept : List Int} {m : Value} (hj : j < l.length) : setRange (ints kept ++ ((m :: mid) ++ (ints (l.drop j) ++ ex))) (0 + kept.length * 1) [.int .i64 (l.getD j 0)] = ints (kept ++ [l.getD j 0]) ++ ((mid ++ [.int .i64 (l.getD j 0)]) ++ (ints (l.drop (j + 1)) ++ ex)) := by
  have h1 : 0 + kept.length * 1 = (ints kept).length := by simp [ints]
  rw [h1, drop_gd hj]
  have := setRange_at [.int .i64 (l.getD j 0)] (ints kept) [m] (mid ++ (.int .i64 (l.getD j 0) :: ints (l.drop (j + 1)) ++ ex)) rfl
  simp only [List.cons_append, List.nil_append] at this ⊢
  rw [this, ← ints_app]
  simp [ints]
end
end Go.XG
